import PyProof.Rows.All
import Wide.All
import OpenK.AllK
import Wide.FinOn
import HandS.ForMost
import HandS.ForExc
import HandS.ExcSuper
import HandS.ExcInit
import HandS.ExcField
import HandS.TryMany
import HandS.IsInst
import HandS.Star
import HandS.OwnEq
import HandS.Wide
import HandS.HeadHook4
import HandS.HeadWalk
import HandS.Head3
import HandS.Lambda
import HandS.WideBits
import HandS.Gcd
import HandS.Walk
import HandS.Zip
import HandS.Rev
import PyProof.InstNe
import KE.KExcSuper
import HandS.Nested
import KE.KOpsOwn
import HandS.TupAny
import KE.KCallOwn
import HandS.RaiseMore
import HandS.ClsMeth
import HandS.FStr
import HandS.Style
import KE.KTypeName
import HandS.Property
import HandS.More
import KE.KSuper
import KE.IntBitsLaws
import KE.DataCmp
import PySem.Challenge.RW_leastprice_k08_papers_keep_what_they_tel
set_option Elab.async false
set_option linter.all false
set_option autoImplicit false
set_option maxRecDepth 100000
set_option maxHeartbeats 2000000
/-! FDa: plain data, worlds, what a value stands for. -/
namespace FD
open PySem PySem.Spec PyProof.Rows L2

/-- plain data that nobody changes -/
inductive P where
  | non | bl (b : Bool) | int (i : Int) | str (x : Str) | ty (n : String) | glb (n : Nat)
  | tup (xs : List P) | lst (xs : List P) | fz (xs : List P) | dct (kvs : List (P × P)) | ins (c : Nat) (fs : List (Str × P))
/-- what a name holds: plain data, a cell of the store, data that is lent (others may change it later) -/
inductive W where
  | p (x : P) | c (k : Nat) | b (x : P)
inductive Cell where
  | lst (xs : List W) | dct (kvs : List (P × W)) | ins (c : Nat) (fs : List (Str × W)) | tab (p : Addr) (q : Str) | dead
abbrev Store := List Cell
abbrev Env := List (Option W)

/-- the program's own classes and other things of its top, by number -/
structure Ga where
  K : PySem.W.Frag
  ca : Nat → Addr
  ga : Nat → Addr
  xa : Nat → Addr

def keyOf : P → Option Key
  | .int i => some (.inl i)
  | .str x => some (.inr x)
  | _ => none

section
variable (G : Ga) (H : Hp) (ow : Addr → Prop)
def TupAt (a : Addr) (vs : List V) : Prop := (Rd H a (.tup vs) ∧ ¬ ow a) ∨ SqT G.K (fun _ => none) a vs
def LstAt (a : Addr) (vs : List V) : Prop := H a = some (.lst vs) ∧ ¬ ow a
/-- a list that nobody here has made -/
def FzAt (a : Addr) (vs : List V) : Prop := ((∃ o, H a = some (.frz o (.lst vs))) ∧ ¬ ow a) ∨ SqL G.K (fun _ => none) a vs
def rep : P → V → Prop
  | .non, v => v = .non
  | .bl b, v => v = .bl b
  | .int i, v => v = .int i
  | .str x, v => v = .str x
  | .ty n, v => v = .ty n
  | .glb n, v => v = .ref (G.ga n)
  | .tup xs, v => ∃ a vs, v = .ref a ∧ TupAt G H ow a vs ∧ reps xs vs
  | .lst xs, v => ∃ a vs, v = .ref a ∧ LstAt H ow a vs ∧ reps xs vs
  | .fz xs, v => ∃ a vs, v = .ref a ∧ FzAt G H ow a vs ∧ reps xs vs
  | .dct kvs, v => ∃ a vs, v = .ref a ∧ H a = some (.dK vs) ∧ ¬ ow a ∧ repk kvs vs
  | .ins c fs, v => ∃ a dx vs, v = .ref a ∧ H a = some (.ins (G.ca c) dx vs) ∧ ¬ ow a ∧ repf fs vs
where
  reps : List P → List V → Prop
  | [], vs => vs = []
  | x :: xs, vs => ∃ v r, vs = v :: r ∧ rep x v ∧ reps xs r
  repk : List (P × P) → List (Key × V) → Prop
  | [], vs => vs = []
  | (k, x) :: xs, vs => ∃ j v r, vs = (j, v) :: r ∧ keyOf k = some j ∧ rep x v ∧ repk xs r
  repf : List (Str × P) → List (Str × V) → Prop
  | [], vs => vs = []
  | (f, x) :: xs, vs => ∃ v r, vs = (f, v) :: r ∧ rep x v ∧ repf xs r
end
abbrev reps := @rep.reps
abbrev repk := @rep.repk
abbrev repf := @rep.repf

section
variable {G : Ga} {H H' : Hp} {ow ow' : Addr → Prop}
theorem TupAt.sq {a : Addr} {vs : List V} (h : TupAt G H ow a vs) : SqT G.K H a vs := by
  rcases h with h | h
  · exact .inl h.1
  · rcases h with h | h
    · rcases h with h | ⟨_, h⟩ <;> cases h
    · exact .inr h
theorem LstAt.sq {a : Addr} {vs : List V} (h : LstAt H ow a vs) : SqL G.K H a vs := .inl (.inl h.1)
/-- what stands stays -/
def Stay (H H' : Hp) (ow ow' : Addr → Prop) : Prop := ∀ b o, H b = some o → ¬ ow b → H' b = some o ∧ ¬ ow' b
theorem Stay.rd (s : Stay H H' ow ow') {a : Addr} {u : HO} (h : Rd H a u) (n : ¬ ow a) : Rd H' a u ∧ ¬ ow' a := by
  rcases h with h | ⟨o, h⟩
  · exact ⟨.inl (s _ _ h n).1, (s _ _ h n).2⟩
  · exact ⟨.inr ⟨o, (s _ _ h n).1⟩, (s _ _ h n).2⟩
theorem TupAt.stay (s : Stay H H' ow ow') {a : Addr} {vs : List V} (h : TupAt G H ow a vs) : TupAt G H' ow' a vs := by
  rcases h with h | h
  · exact .inl (s.rd h.1 h.2)
  · exact .inr h
theorem FzAt.sq {a : Addr} {vs : List V} (h : FzAt G H ow a vs) : SqL G.K H a vs := by
  rcases h with ⟨h, _⟩ | h
  · exact .inl (.inr h)
  · rcases h with h | h
    · rcases h with h | ⟨_, h⟩ <;> cases h
    · exact .inr h
theorem FzAt.stay (s : Stay H H' ow ow') {a : Addr} {vs : List V} (h : FzAt G H ow a vs) : FzAt G H' ow' a vs := by
  rcases h with ⟨⟨o, h⟩, n⟩ | h
  · exact .inl ⟨⟨o, (s _ _ h n).1⟩, (s _ _ h n).2⟩
  · exact .inr h
theorem LstAt.stay (s : Stay H H' ow ow') {a : Addr} {vs : List V} (h : LstAt H ow a vs) : LstAt H' ow' a vs := s _ _ h.1 h.2
theorem rep_stay (s : Stay H H' ow ow') : ∀ p v, rep G H ow p v → rep G H' ow' p v
  | .non, _, h => h
  | .bl _, _, h => h
  | .int _, _, h => h
  | .str _, _, h => h
  | .ty _, _, h => h
  | .glb _, _, h => h
  | .tup xs, _, ⟨a, vs, e, t, h⟩ => ⟨a, vs, e, t.stay s, go xs vs h⟩
  | .lst xs, _, ⟨a, vs, e, t, h⟩ => ⟨a, vs, e, t.stay s, go xs vs h⟩
  | .fz xs, _, ⟨a, vs, e, t, h⟩ => ⟨a, vs, e, t.stay s, go xs vs h⟩
  | .dct kvs, _, ⟨a, vs, e, t, n, h⟩ => ⟨a, vs, e, (s _ _ t n).1, (s _ _ t n).2, gok kvs vs h⟩
  | .ins _ fs, _, ⟨a, dx, vs, e, t, n, h⟩ => ⟨a, dx, vs, e, (s _ _ t n).1, (s _ _ t n).2, gof fs vs h⟩
where
  go : ∀ xs vs, rep.reps G H ow xs vs → rep.reps G H' ow' xs vs
  | [], _, h => h
  | x :: xs, _, ⟨v, r, e, h1, h2⟩ => ⟨v, r, e, rep_stay s x v h1, go xs r h2⟩
  gok : ∀ xs vs, rep.repk G H ow xs vs → rep.repk G H' ow' xs vs
  | [], _, h => h
  | (_, x) :: xs, _, ⟨j, v, r, e, k, h1, h2⟩ => ⟨j, v, r, e, k, rep_stay s x v h1, gok xs r h2⟩
  gof : ∀ xs vs, rep.repf G H ow xs vs → rep.repf G H' ow' xs vs
  | [], _, h => h
  | (_, x) :: xs, _, ⟨v, r, e, h1, h2⟩ => ⟨v, r, e, rep_stay s x v h1, gof xs r h2⟩
theorem reps_len : ∀ {xs : List P} {vs : List V}, rep.reps G H ow xs vs → vs.length = xs.length
  | [], _, h => by rw [show _ = [] from h]; rfl
  | x :: xs, _, ⟨v, r, e, h1, h2⟩ => by rw [e, List.length_cons, List.length_cons, reps_len h2]
theorem reps_get : ∀ {xs : List P} {vs : List V} {i : Nat} {x : P}, rep.reps G H ow xs vs → xs[i]? = some x → ∃ v, vs[i]? = some v ∧ rep G H ow x v
  | [], _, _, _, _, e => by simp at e
  | x :: xs, _, 0, y, ⟨v, r, e, h1, h2⟩, q => by
    simp at q; subst q; subst e
    exact ⟨v, rfl, h1⟩
  | x :: xs, _, i + 1, y, ⟨v, r, e, h1, h2⟩, q => by
    subst e
    obtain ⟨u, a, b⟩ := reps_get (i := i) h2 (by simpa using q)
    exact ⟨u, by simpa using a, b⟩
theorem reps_at : ∀ {xs : List P} {vs : List V} {i : Nat} {v : V}, rep.reps G H ow xs vs → vs[i]? = some v → ∃ x, xs[i]? = some x ∧ rep G H ow x v
  | [], _, _, _, h, e => by rw [show _ = [] from h] at e; simp at e
  | x :: xs, _, 0, y, ⟨v, r, e, h1, h2⟩, q => by
    subst e; simp at q; subst q
    exact ⟨x, rfl, h1⟩
  | x :: xs, _, i + 1, y, ⟨v, r, e, h1, h2⟩, q => by
    subst e
    obtain ⟨u, a, b⟩ := reps_at (i := i) h2 (by simpa using q)
    exact ⟨u, by simpa using a, b⟩
theorem reps_app : ∀ {xs ys : List P} {vs us : List V}, rep.reps G H ow xs vs → rep.reps G H ow ys us → rep.reps G H ow (xs ++ ys) (vs ++ us)
  | [], _, _, _, h, k => by rw [show _ = [] from h]; exact k
  | x :: xs, _, _, _, ⟨v, r, e, h1, h2⟩, k => by
    subst e
    exact ⟨v, _, rfl, h1, reps_app h2 k⟩
theorem repf_look : ∀ {fs : List (Str × P)} {vs : List (Str × V)} {f : Str} {x : P}, rep.repf G H ow fs vs → fs.lookup f = some x → ∃ v, vs.lookup f = some v ∧ rep G H ow x v
  | [], _, _, _, _, e => by simp at e
  | (g, y) :: fs, _, f, x, ⟨v, r, e, h1, h2⟩, q => by
    subst e
    rw [List.lookup_cons] at q ⊢
    cases hb : f == g with
    | true =>
      rw [hb] at q
      cases q
      exact ⟨v, rfl, h1⟩
    | false =>
      rw [hb] at q
      exact repf_look h2 q
theorem repf_none : ∀ {fs : List (Str × P)} {vs : List (Str × V)} {f : Str}, rep.repf G H ow fs vs → fs.lookup f = none → vs.lookup f = none
  | [], _, _, h, _ => by rw [show _ = [] from h]; rfl
  | (g, y) :: fs, _, f, ⟨v, r, e, h1, h2⟩, q => by
    subst e
    rw [List.lookup_cons] at q ⊢
    cases hb : f == g with
    | true =>
      rw [hb] at q
      cases q
    | false =>
      rw [hb] at q
      exact repf_none h2 q
end

/-! ### worlds -/
structure Wd where
  H : Hp
  O : Addr → Prop
  N : Addr → Prop
  io : List Addr
  S : Store
def alive (S : Store) (k : Nat) : Prop := ∃ c, S[k]? = some c ∧ c ≠ .dead
def Wd.own (w : Wd) (a : Addr) : Prop := ∃ k, w.io[k]? = some a ∧ alive w.S k
/-- its cells, and what it is building -/
def Wd.hot (w : Wd) (a : Addr) : Prop := w.own a ∨ w.N a
def Wd.ow (w : Wd) (a : Addr) : Prop := w.O a ∨ w.own a

def repW (G : Ga) (w : Wd) : W → V → Prop
  | .p x, v => rep G w.H w.ow x v
  | .c k, v => ∃ a, w.io[k]? = some a ∧ v = .ref a
  | .b x, v => rep G w.H w.hot x v
def repWs (G : Ga) (w : Wd) : List W → List V → Prop
  | [], vs => vs = []
  | x :: xs, vs => ∃ v r, vs = v :: r ∧ repW G w x v ∧ repWs G w xs r
def repWk (G : Ga) (w : Wd) : List (P × W) → List (Key × V) → Prop
  | [], vs => vs = []
  | (k, x) :: xs, vs => ∃ j v r, vs = (j, v) :: r ∧ keyOf k = some j ∧ repW G w x v ∧ repWk G w xs r
def repWf (G : Ga) (w : Wd) : List (Str × W) → List (Str × V) → Prop
  | [], vs => vs = []
  | (f, x) :: xs, vs => ∃ v r, vs = (f, v) :: r ∧ repW G w x v ∧ repWf G w xs r
def repC (G : Ga) (w : Wd) (a : Addr) : Cell → Prop
  | .lst xs => ∃ vs, w.H a = some (.lst vs) ∧ repWs G w xs vs
  | .dct kvs => ∃ vs, w.H a = some (.dK vs) ∧ repWk G w kvs vs
  | .ins c fs => ∃ dx vs, w.H a = some (.ins (G.ca c) dx vs) ∧ repWf G w fs vs
  | .tab p q => a = p ∧ LamX.TabS w.H a q
  | .dead => True
structure SR (G : Ga) (w : Wd) : Prop where
  len : w.io.length = w.S.length
  nd : w.io.Nodup
  dis : ∀ (k : Nat) (a : Addr), w.io[k]? = some a → ¬ w.O a
  oh : ∀ a, w.O a → ∃ o, w.H a = some o
  nO : ∀ a, w.N a → w.O a
  ih : ∀ (k : Nat) (a : Addr), w.io[k]? = some a → ∃ o, w.H a = some o
  cell : ∀ (k : Nat) (a : Addr) (c : Cell), w.io[k]? = some a → w.S[k]? = some c → repC G w a c

/-- from one world to a later one -/
structure Gro (w w' : Wd) : Prop where
  O : w'.O = w.O
  N : w'.N = w.N
  keep : ∀ b o, w.H b = some o → ¬ w.own b → w'.H b = some o
  own : ∀ a, w'.own a → w.own a ∨ w.H a = none
  io : ∀ (k : Nat) (a : Addr), w.io[k]? = some a → w'.io[k]? = some a
section
variable {G : Ga} {w w1 w2 w' : Wd}
theorem Gro.refl (w : Wd) : Gro w w := ⟨rfl, rfl, fun _ _ h _ => h, fun _ h => .inl h, fun _ _ h => h⟩
theorem Gro.trans (a : Gro w w1) (b : Gro w1 w2) : Gro w w2 := by
  refine ⟨b.O.trans a.O, b.N.trans a.N, fun c o h n => ?_, fun c h => ?_, fun k c h => b.io k c (a.io k c h)⟩
  · have h1 := a.keep c o h n
    refine b.keep c o h1 fun q => ?_
    rcases a.own c q with z | z
    · exact n z
    · rw [h] at z; cases z
  · rcases b.own c h with z | z
    · exact a.own c z
    · cases q : w.H c with
      | none => exact .inr rfl
      | some o =>
        by_cases n : w.own c
        · exact .inl n
        · rw [a.keep c o q n] at z; cases z
theorem Gro.stay (e : Gro w w') : Stay w.H w'.H w.ow w'.ow := by
  intro b o h n
  have n1 : ¬ w.own b := fun q => n (.inr q)
  refine ⟨e.keep b o h n1, fun q => ?_⟩
  rcases q with q | q
  · rw [e.O] at q; exact n (.inl q)
  · rcases e.own b q with z | z
    · exact n1 z
    · rw [h] at z; cases z
theorem Gro.stayO (e : Gro w w') : Stay w.H w'.H w.hot w'.hot := fun b o h n => ⟨e.keep b o h fun q => n (.inl q), fun q => by
  rcases q with q | q
  · rcases e.own b q with z | z
    · exact n (.inl z)
    · rw [h] at z; cases z
  · rw [e.N] at q; exact n (.inr q)⟩
theorem Gro.rep (e : Gro w w') {x : P} {v : V} (h : rep G w.H w.ow x v) : rep G w'.H w'.ow x v := rep_stay e.stay x v h
theorem Gro.repW (e : Gro w w') : ∀ {x : W} {v : V}, repW G w x v → repW G w' x v
  | .p x, v, h => e.rep h
  | .c k, v, ⟨a, h1, h2⟩ => ⟨a, e.io k a h1, h2⟩
  | .b x, v, h => rep_stay e.stayO x v h
theorem Gro.repWs (e : Gro w w') : ∀ {xs : List W} {vs : List V}, repWs G w xs vs → repWs G w' xs vs
  | [], _, h => h
  | _ :: _, _, ⟨v, r, q, h1, h2⟩ => ⟨v, r, q, e.repW h1, e.repWs h2⟩
theorem Gro.repWk (e : Gro w w') : ∀ {xs : List (P × W)} {vs : List (Key × V)}, repWk G w xs vs → repWk G w' xs vs
  | [], _, h => h
  | _ :: _, _, ⟨j, v, r, q, k, h1, h2⟩ => ⟨j, v, r, q, k, e.repW h1, e.repWk h2⟩
theorem Gro.repWf (e : Gro w w') : ∀ {xs : List (Str × W)} {vs : List (Str × V)}, repWf G w xs vs → repWf G w' xs vs
  | [], _, h => h
  | _ :: _, _, ⟨v, r, q, h1, h2⟩ => ⟨v, r, q, e.repW h1, e.repWf h2⟩
theorem repWs_len : ∀ {xs : List W} {vs : List V}, repWs G w xs vs → vs.length = xs.length
  | [], _, h => by rw [show _ = [] from h]; rfl
  | x :: xs, _, ⟨v, r, e, h1, h2⟩ => by rw [e, List.length_cons, List.length_cons, repWs_len h2]

/-- a new plain object -/
theorem Gro.alloc {p : Addr} {o : HO} (h : w.H p = none) : Gro w { w with H := upd w.H p o } :=
  ⟨rfl, rfl, fun b u e _ => (upd_ne (ne_of_none e h)).trans e, fun _ q => .inl q, fun _ _ e => e⟩
theorem SR.tupleSafe (s : SR G w) {k : Nat} {a : Addr} {c : Cell} (h1 : w.io[k]? = some a) (h2 : w.S[k]? = some c) (h3 : c ≠ .dead) : ∃ o, w.H a = some o ∧ (∀ φ, o ≠ .ext φ) := by
  have q := s.cell k a c h1 h2
  cases c with
  | lst xs => obtain ⟨vs, e, _⟩ := q; exact ⟨_, e, fun _ z => by cases z⟩
  | dct kvs => obtain ⟨vs, e, _⟩ := q; exact ⟨_, e, fun _ z => by cases z⟩
  | ins c fs => obtain ⟨dx, vs, e, _⟩ := q; exact ⟨_, e, fun _ z => by cases z⟩
  | tab _ q' => obtain ⟨_, ps, e, _⟩ := q; exact ⟨_, e, fun _ z => by cases z⟩
  | dead => exact absurd rfl h3
theorem SR.own_some (s : SR G w) {a : Addr} (h : w.own a) : ∃ o, w.H a = some o := by
  obtain ⟨k, h1, c, h2, h3⟩ := h
  obtain ⟨o, e, _⟩ := s.tupleSafe h1 h2 h3
  exact ⟨o, e⟩
theorem SR.no_ext (s : SR G w) {c : Addr} {φ : Heap → Prop} (h : w.H c = some (.ext φ)) : ¬ w.own c := fun ⟨k, h1, d, h2, h3⟩ => by
  obtain ⟨o, e, n⟩ := s.tupleSafe h1 h2 h3
  rw [h] at e
  exact n φ (Option.some.inj e).symm
theorem SR.tab (s : SR G w) {H' : Hp} (kp : ∀ b o, w.H b = some o → ¬ w.own b → H' b = some o) {a : Addr} {q : Str} (hH : H' a = w.H a) (h : LamX.TabS w.H a q) : LamX.TabS H' a q := by
  obtain ⟨ps, h1, h2, h3⟩ := h
  refine ⟨ps, hH.trans h1, h2, fun pos cv hc => ?_⟩
  obtain ⟨c, e1, e2⟩ := h3 pos cv hc
  exact ⟨c, e1, kp _ _ e2 (s.no_ext e2)⟩
theorem SR.oh' (s : SR G w) (e : Gro w w') (a : Addr) (h : w'.O a) : ∃ o, w'.H a = some o := by
  rw [e.O] at h
  obtain ⟨o, q⟩ := s.oh a h
  exact ⟨o, e.keep a o q fun ⟨k, z, _⟩ => s.dis k a z h⟩
theorem SR.ih' (s : SR G w) (e : Gro w w') (hH : ∀ a, w.own a → ∃ o, w'.H a = some o) {k : Nat} {a : Addr} (h : w.io[k]? = some a) : ∃ o, w'.H a = some o := by
  by_cases n : w.own a
  · exact hH a n
  · obtain ⟨o, q⟩ := s.ih k a h
    exact ⟨o, e.keep a o q n⟩
theorem SR.fresh (s : SR G w) {p : Addr} (h : w.H p = none) : ¬ w.ow p := fun q => by
  rcases q with q | q
  · obtain ⟨o, e⟩ := s.oh p q
    rw [h] at e; cases e
  · obtain ⟨o, e⟩ := s.own_some q
    rw [h] at e; cases e
theorem SR.cells (s : SR G w) (e : Gro w w') (hS : w'.S = w.S) (hio : w'.io = w.io) (hH : ∀ a, w.own a → w'.H a = w.H a) : SR G w' := by
  refine ⟨by rw [hS, hio]; exact s.len, by rw [hio]; exact s.nd, fun k a h => by rw [e.O]; rw [hio] at h; exact s.dis k a h, fun a h => s.oh' e a h, fun a h => by rw [e.O]; rw [e.N] at h; exact s.nO a h, fun k a h => s.ih' e (fun a n => by rw [hH a n]; exact s.own_some n) (by rw [← hio]; exact h), fun k a c h1 h2 => ?_⟩
  rw [hio] at h1
  rw [hS] at h2
  have q := s.cell k a c h1 h2
  have hh : c ≠ .dead → w'.H a = w.H a := fun n => hH a ⟨k, h1, c, h2, n⟩
  cases c with
  | lst xs => obtain ⟨vs, z, r⟩ := q; exact ⟨vs, by rw [hh (fun z => by cases z)]; exact z, e.repWs r⟩
  | dct kvs => obtain ⟨vs, z, r⟩ := q; exact ⟨vs, by rw [hh (fun z => by cases z)]; exact z, e.repWk r⟩
  | ins c fs => obtain ⟨dx, vs, z, r⟩ := q; exact ⟨dx, vs, by rw [hh (fun z => by cases z)]; exact z, e.repWf r⟩
  | tab _ q' => exact ⟨q.1, s.tab e.keep (hh (fun z => by cases z)) q.2⟩
  | dead => trivial
theorem SR.alloc (s : SR G w) {p : Addr} {o : HO} (h : w.H p = none) : SR G { w with H := upd w.H p o } :=
  s.cells (Gro.alloc h) rfl rfl fun a q => by
    obtain ⟨u, e⟩ := s.own_some q
    exact upd_ne (ne_of_none e h)
/-- a new cell -/
def Wd.more (w : Wd) (p : Addr) (o : HO) (c : Cell) : Wd := { H := upd w.H p o, O := w.O, N := w.N, io := w.io ++ [p], S := w.S ++ [c] }
theorem get_app_lt {α : Type} {l r : List α} {k : Nat} {x : α} (h : l[k]? = some x) : (l ++ r)[k]? = some x := by
  obtain ⟨h1, _⟩ := List.getElem?_eq_some_iff.mp h
  rw [List.getElem?_append_left h1]; exact h
theorem get_app_one {α : Type} {l : List α} {k : Nat} {x y : α} (h : (l ++ [y])[k]? = some x) : l[k]? = some x ∨ (k = l.length ∧ x = y) := by
  by_cases hk : k < l.length
  · rw [List.getElem?_append_left hk] at h; exact .inl h
  · rw [List.getElem?_append_right (by omega)] at h
    have : k - l.length = 0 := by
      cases z : k - l.length with
      | zero => rfl
      | succ m => rw [z] at h; simp at h
    rw [this] at h
    simp at h
    exact .inr ⟨by omega, h.symm⟩
theorem Gro.more (s : SR G w) {p : Addr} {o : HO} {c : Cell} (h : w.H p = none) : Gro w (w.more p o c) := by
  refine ⟨rfl, rfl, fun b u e _ => (upd_ne (ne_of_none e h)).trans e, fun a ⟨k, h1, d, h2, h3⟩ => ?_, fun k a e => get_app_lt e⟩
  rcases get_app_one (show (w.io ++ [p])[k]? = some a from h1) with z | ⟨hk, z⟩
  · rcases get_app_one (show (w.S ++ [c])[k]? = some d from h2) with y | ⟨hk, y⟩
    · exact .inl ⟨k, z, d, y, h3⟩
    · obtain ⟨q, _⟩ := List.getElem?_eq_some_iff.mp z
      rw [hk, ← s.len] at q
      exact absurd q (Nat.lt_irrefl _)
  · exact .inr (by rw [z]; exact h)
theorem SR.more (s : SR G w) {p : Addr} {o : HO} {c : Cell} (h : w.H p = none) (hc : repC G (w.more p o c) p c) : SR G (w.more p o c) := by
  have e := Gro.more (o := o) (c := c) s h
  have np : ∀ (k : Nat) (a : Addr), w.io[k]? = some a → a ≠ p := fun k a h1 z => by
    obtain ⟨o, q⟩ := s.ih k a h1
    rw [z, h] at q; cases q
  have hH : ∀ a, a ≠ p → (w.more p o c).H a = w.H a := fun a n => upd_ne n
  refine ⟨by show (w.io ++ [p]).length = (w.S ++ [c]).length; rw [List.length_append, List.length_append, s.len]; rfl, ?_, fun k a h1 ha => ?_, fun a ha => s.oh' e a ha, s.nO, fun k a h1 => ?_, fun k a d h1 h2 => ?_⟩
  · show (w.io ++ [p]).Nodup
    refine List.nodup_append.mpr ⟨s.nd, by simp, fun a ha b hb => ?_⟩
    obtain ⟨k, hk⟩ := List.mem_iff_getElem?.mp ha
    rw [List.mem_singleton.mp hb]
    exact np k a hk
  · have ha : w.O a := ha
    rcases get_app_one (show (w.io ++ [p])[k]? = some a from h1) with z | ⟨_, z⟩
    · exact s.dis k a z ha
    · rw [z] at ha
      obtain ⟨u, q⟩ := s.oh p ha
      rw [h] at q; cases q
  · rcases get_app_one (show (w.io ++ [p])[k]? = some a from h1) with z | ⟨_, z⟩
    · rw [hH a (np k a z)]; exact s.ih k a z
    · rw [z]; exact ⟨o, upd_same⟩
  · rcases get_app_one (show (w.io ++ [p])[k]? = some a from h1) with z | ⟨hk, z⟩
    · rcases get_app_one (show (w.S ++ [c])[k]? = some d from h2) with y | ⟨hk, y⟩
      · have q := s.cell k a d z y
        have hh := hH a (np k a z)
        cases d with
        | lst xs => obtain ⟨vs, z, r⟩ := q; exact ⟨vs, hh.trans z, e.repWs r⟩
        | dct kvs => obtain ⟨vs, z, r⟩ := q; exact ⟨vs, hh.trans z, e.repWk r⟩
        | ins c fs => obtain ⟨dx, vs, z, r⟩ := q; exact ⟨dx, vs, hh.trans z, e.repWf r⟩
        | tab _ q' => exact ⟨q.1, s.tab e.keep hh q.2⟩
        | dead => trivial
      · obtain ⟨q, _⟩ := List.getElem?_eq_some_iff.mp z
        rw [hk, ← s.len] at q
        exact absurd q (Nat.lt_irrefl _)
    · rcases get_app_one (show (w.S ++ [c])[k]? = some d from h2) with y | ⟨_, y⟩
      · obtain ⟨q, _⟩ := List.getElem?_eq_some_iff.mp y
        rw [hk, s.len] at q
        exact absurd q (Nat.lt_irrefl _)
      · rw [y, z]; exact hc
/-- a cell is written -/
def Wd.put (w : Wd) (k : Nat) (a : Addr) (o : HO) (c : Cell) : Wd := { w with H := upd w.H a o, S := w.S.set k c }
theorem SR.uniq (s : SR G w) {j k : Nat} {a : Addr} (h1 : w.io[j]? = some a) (h2 : w.io[k]? = some a) : j = k := by
  obtain ⟨q1, e1⟩ := List.getElem?_eq_some_iff.mp h1
  obtain ⟨q2, e2⟩ := List.getElem?_eq_some_iff.mp h2
  exact (List.getElem_inj s.nd).mp (e1.trans e2.symm)
theorem Gro.put (s : SR G w) {k : Nat} {a : Addr} {o : HO} {c : Cell} (ha : w.io[k]? = some a) (hk : alive w.S k) : Gro w (w.put k a o c) := by
  have oa : w.own a := ⟨k, ha, hk⟩
  refine ⟨rfl, rfl, fun b u e n => (upd_ne fun z : b = a => n (by rw [z]; exact oa)).trans e, fun b ⟨j, h1, d, h2, h3⟩ => ?_, fun _ _ e => e⟩
  have h1 : w.io[j]? = some b := h1
  have h2 : (w.S.set k c)[j]? = some d := h2
  by_cases hj : k = j
  · subst hj
    rw [ha] at h1
    cases h1
    exact .inl oa
  · rw [List.getElem?_set_ne hj] at h2
    exact .inl ⟨j, h1, d, h2, h3⟩
theorem SR.put (s : SR G w) {k : Nat} {a : Addr} {o : HO} {c : Cell} (ha : w.io[k]? = some a) (hk : alive w.S k) (hc : repC G (w.put k a o c) a c) : SR G (w.put k a o c) := by
  have e := Gro.put (o := o) (c := c) s ha hk
  refine ⟨by show w.io.length = (w.S.set k c).length; rw [List.length_set]; exact s.len, s.nd, s.dis, fun b hb => s.oh' e b hb, s.nO, fun j b h1 => ?_, fun j b d h1 h2 => ?_⟩
  · by_cases hb : b = a
    · rw [hb]; exact ⟨o, upd_same⟩
    · obtain ⟨u, q⟩ := s.ih j b h1
      exact ⟨u, (upd_ne hb).trans q⟩
  · have h1 : w.io[j]? = some b := h1
    have h2 : (w.S.set k c)[j]? = some d := h2
    by_cases hj : k = j
    · subst hj
      rw [ha] at h1
      cases h1
      obtain ⟨q, _⟩ := List.getElem?_eq_some_iff.mp h2
      rw [List.length_set] at q
      rw [List.getElem?_set_self q] at h2
      cases h2
      exact hc
    · rw [List.getElem?_set_ne hj] at h2
      have hb : b ≠ a := fun z => hj (s.uniq ha (z ▸ h1))
      have q := s.cell j b d h1 h2
      have hh : (w.put k a o c).H b = w.H b := upd_ne hb
      cases d with
      | lst xs => obtain ⟨vs, z, r⟩ := q; exact ⟨vs, hh.trans z, e.repWs r⟩
      | dct kvs => obtain ⟨vs, z, r⟩ := q; exact ⟨vs, hh.trans z, e.repWk r⟩
      | ins c fs => obtain ⟨dx, vs, z, r⟩ := q; exact ⟨dx, vs, hh.trans z, e.repWf r⟩
      | tab _ q' => exact ⟨q.1, s.tab e.keep hh q.2⟩
      | dead => trivial
/-- a cell is given up: its object is plain data from now on -/
theorem Gro.free (s : SR G w) {k : Nat} : Gro w { w with S := w.S.set k .dead } := by
  refine ⟨rfl, rfl, fun b u e n => e, fun b ⟨j, h1, d, h2, h3⟩ => ?_, fun _ _ e => e⟩
  have h2 : (w.S.set k .dead)[j]? = some d := h2
  by_cases hj : k = j
  · subst hj
    obtain ⟨q, _⟩ := List.getElem?_eq_some_iff.mp h2
    rw [List.length_set] at q
    rw [List.getElem?_set_self q] at h2
    cases h2
    exact absurd rfl h3
  · rw [List.getElem?_set_ne hj] at h2
    exact .inl ⟨j, h1, d, h2, h3⟩
theorem SR.free (s : SR G w) {k : Nat} : SR G { w with S := w.S.set k .dead } := by
  have e := Gro.free (k := k) s
  refine ⟨by show w.io.length = (w.S.set k .dead).length; rw [List.length_set]; exact s.len, s.nd, s.dis, s.oh, s.nO, s.ih, fun j b d h1 h2 => ?_⟩
  have h2 : (w.S.set k .dead)[j]? = some d := h2
  by_cases hj : k = j
  · subst hj
    obtain ⟨q, _⟩ := List.getElem?_eq_some_iff.mp h2
    rw [List.length_set] at q
    rw [List.getElem?_set_self q] at h2
    cases h2
    trivial
  · rw [List.getElem?_set_ne hj] at h2
    have q := s.cell j b d h1 h2
    cases d with
    | lst xs => obtain ⟨vs, z, r⟩ := q; exact ⟨vs, z, e.repWs r⟩
    | dct kvs => obtain ⟨vs, z, r⟩ := q; exact ⟨vs, z, e.repWk r⟩
    | ins c fs => obtain ⟨dx, vs, z, r⟩ := q; exact ⟨dx, vs, z, e.repWf r⟩
    | tab _ q' => exact q
    | dead => trivial
end
end FD

set_option Elab.async false
set_option linter.all false
set_option autoImplicit false
set_option maxRecDepth 100000
set_option maxHeartbeats 2000000
/-! FDs: the little language and what it means. -/
namespace FD
open PySem L2

structure Exn where
  c : Nat
  fs : List (Str × P)
inductive R (α : Type) where
  | ok (a : α) (S : Store) | ex (e : Exn) (S : Store) | bad
def R.bind {α β : Type} (r : R α) (k : α → Store → R β) : R β := match r with
  | .ok a S => k a S
  | .ex e S => .ex e S
  | .bad => .bad
def R.of {α : Type} (o : Option α) (S : Store) : R α := match o with
  | some a => .ok a S
  | none => .bad

/-- built-in functions of values -/
inductive Prim where
  | len | absI | int | bool | str | repr | tuple | list | gcd | sum | fmt | min2 | max2 | minL | maxL | all | any | sorted
  deriving DecidableEq
/-- what isinstance may ask for -/
inductive Cl where
  | ty (n : String) | own (c : Nat)
  deriving DecidableEq
/-- where a parameter's value comes from -/
inductive Src where
  | a (i : Nat) | d (p : P) | star (i : Nat)
/-- methods of built-in types -/
inductive Bm where
  | append | extend | pop
  deriving DecidableEq

/-- what one operand may be asked -/
inductive Uo where
  | neg | abs | str
  deriving DecidableEq
def Uo.name : Uo → Str
  | .neg => "__neg__" | .abs => "__abs__" | .str => "__str__"
/-- what an except suite tells of the error -/
inductive HI where
  | cst (p : P) | fld (f : Str) | rpr (f : Str)
inductive HR where
  | one (h : HI) | tup (hs : List HI)

mutual
inductive E where
  | var (i : Nat)
  | cst (p : P)
  | bin (op : Operator) (a b : E)
  | neg (a : E)
  | cmp (op : CmpOp) (a b : E)
  | eqo (neg : Bool) (a b : E)
  | boo (a : E)
  | chn (o1 o2 : CmpOp) (a b c : E)
  | and (a b : E) | or (a b : E) | not (a : E)
  | ife (t : T) (a b : E)
  | tup (es : Es) | lst (es : Es) | newl (es : Es)
  | sub (a i : E)
  | slc (a lo hi : E) | ixi (a : E)
  | att (a : E) (f : Str)
  | pri (f : Prim) (es : Es)
  | isi (a : E) (cs : List Cl)
  | call (f : Nat) (es ks : Es) (pm : List Src)
  | make (c f : Nat) (es ks : Es) (pm : List Src)
  | meth (a : E) (m : Str) (es ks : Es) (nm : List Str)
  | sup (d f : Nat) (es : Es) (pm : List Src)
  | bm (m : Bm) (a : E) (es : Es)
  | comp (it : It) (tg : Tg) (own : List Nat) (t : T) (e : E)
  | frz (a : E) | cname (a : E)
  | opr (op : Operator) (a b : E) | one (u : Uo) (a : E)
  | lamc (hs : List (Nat × HR)) (tb : Addr) (q : Str) (k : Nat) (e : E)
  | nope
inductive Es where
  | nil | cons (e : E) (es : Es)
inductive T where
  | e (e : E) | cmp (op : CmpOp) (a b : E) | eqo (neg : Bool) (a b : E) | chn (o1 o2 : CmpOp) (a b c : E) | and (a b : T) | or (a b : T) | not (a : T) | tt
inductive It where
  | seq (e : E) | rng (e : E) | rng2 (a b : E) | zip (a b : E) | enm (a : E) | rev (a : E)
inductive Tg where
  | nm (i : Nat) | tup (ts : Tgs)
inductive Tgs where
  | nil | cons (t : Tg) (ts : Tgs)
end

def lenEs : Es → Nat
  | .nil => 0
  | .cons _ r => lenEs r + 1
/-- what calls mean, and the program's classes -/
structure Or where
  run : Nat → List W → Store → R W
  isSub : Nat → Nat → Bool
  exSub : Nat → Nat → Bool
  meth : Nat → Str → Nat → List Str → Option (Nat × List Src)
  cnm : Nat → Str

/-! ### values -/
def pureW : W → Option P
  | .p x => some x
  | .c _ => none
  | .b _ => none
def pureWs : List W → Option (List P)
  | [] => some []
  | x :: xs => match pureW x, pureWs xs with
    | some p, some ps => some (p :: ps)
    | _, _ => none
def pureF : List (Str × W) → Option (List (Str × P))
  | [] => some []
  | (f, x) :: xs => match pureW x, pureF xs with
    | some p, some ps => some ((f, p) :: ps)
    | _, _ => none
def pureK : List (P × W) → Option (List (P × P))
  | [] => some []
  | (f, x) :: xs => match pureW x, pureK xs with
    | some p, some ps => some ((f, p) :: ps)
    | _, _ => none
def pureC : Cell → Option P
  | .lst xs => (pureWs xs).map P.lst
  | .dct xs => (pureK xs).map P.dct
  | .ins c fs => (pureF fs).map (P.ins c)
  | .tab _ _ => none
  | .dead => none
/-- plain data without objects -/
def flatP : P → Bool
  | .non => true | .bl _ => true | .int _ => true | .str _ => true | .ty _ => true | .glb _ => true
  | _ => false
/-- lent data -/
def borP (x : P) : W := if flatP x then .p x else .b x
/-- the value read, lent or not -/
def borW : W → Option P
  | .p x => some x
  | .b x => some x
  | .c _ => none
def borWs : List W → Option (List P)
  | [] => some []
  | x :: xs => match borW x, borWs xs with
    | some p, some ps => some (p :: ps)
    | _, _ => none
/-- a value read as plain data -/
def view (S : Store) : W → Option P
  | .p x => some x
  | .b x => some x
  | .c k => match S[k]? with
    | some c => pureC c
    | none => none
def view1 (S : Store) : W → Option P
  | .p x => some x
  | .b _ => none
  | .c k => match S[k]? with
    | some c => pureC c
    | none => none
def views (S : Store) : List W → Option (List P)
  | [] => some []
  | x :: xs => match view1 S x, views S xs with
    | some p, some ps => some (p :: ps)
    | _, _ => none
/-- the items of a list or tuple -/
def itemsP : P → Option (List P)
  | .tup xs => some xs
  | .lst xs => some xs
  | _ => none
def itemsW : W → Option (List W)
  | .p x => (itemsP x).map (List.map W.p)
  | .b x => (itemsP x).map (List.map borP)
  | .c _ => none
mutual
def toD : P → Option PyData
  | .non => some .none
  | .bl b => some (.bool b)
  | .int i => some (.int i)
  | .str x => some (.str x)
  | .tup xs => match toDs xs with
    | some ds => some (.tuple ds)
    | none => none
  | .lst xs => match toDs xs with
    | some ds => some (.list ds)
    | none => none
  | .ty _ => none
  | .glb _ => none
  | .fz _ => none
  | .dct _ => none
  | .ins _ _ => none
def toDs : List P → Option (List PyData)
  | [] => some []
  | x :: xs => match toD x, toDs xs with
    | some d, some ds => some (d :: ds)
    | _, _ => none
end
def truP : P → Option Bool
  | .non => some false
  | .bl b => some b
  | .int i => some (i != 0)
  | .str x => if x.length ≤ sizeLine then some ((x.length : Int) != 0) else none
  | .tup xs => some !xs.isEmpty
  | .lst xs => some !xs.isEmpty
  | .dct xs => some !xs.isEmpty
  | _ => none
def okMul (i j : Int) : Bool := decide ((Builtin.Int.intBits i : Int) + (Builtin.Int.intBits j : Int) ≤ 134217728)
def binP : Operator → P → P → Option P
  | .Add, .int i, .int j => some (.int (i + j))
  | .Sub, .int i, .int j => some (.int (i - j))
  | .Mult, .int i, .int j => if okMul i j then some (.int (i * j)) else none
  | .FloorDiv, .int i, .int j => if decide (j ≠ 0 ∧ j.natAbs.log2 < 9000) then some (.int (i.fdiv j)) else none
  | .Mod, .int i, .int j => if decide (j ≠ 0) then some (.int (i.fmod j)) else none
  | .Pow, .int i, .int j => if decide (0 ≤ j ∧ j ≤ 1000000 ∧ i.natAbs < 2 ^ 64) then some (.int (i ^ j.toNat)) else none
  | .Add, .str x, .str y => if x.length + y.length ≤ sizeLine then some (.str (x ++ y)) else none
  | _, _, _ => none
/-- a whole number's text, a truth's -/
def eqP (p q : P) : Option Bool := match toD p, toD q with
  | some d, some e => if SeqAt.shaped d && SeqAt.shaped e then some (PyData.eqv d e) else none
  | _, _ => none
def isNonP : P → Bool
  | .non => true
  | _ => false
def cmpP : CmpOp → P → P → Option Bool
  | .Lt, .int i, .int j => some (decide (i < j))
  | .LtE, .int i, .int j => some (decide (i ≤ j))
  | .Gt, .int i, .int j => some (decide (j < i))
  | .GtE, .int i, .int j => some (decide (j ≤ i))
  | .Eq, p, q => eqP p q
  | .NotEq, p, q => (eqP p q).map (!·)
  | .Is, p, .non => some (isNonP p)
  | .IsNot, p, .non => some (!isNonP p)
  | .Is, .bl a, .bl b => some (a == b)
  | _, _, _ => none
def pcmp (op : CmpOp) (S : Store) (y z : W) : Option Bool := match y, view S z with
  | .p q, some r => cmpP op q r
  | _, _ => none
def tyName : P → Option String
  | .non => some "NoneType"
  | .bl _ => some "bool"
  | .int _ => some "int"
  | .str _ => some "str"
  | .tup _ => some "tuple"
  | .lst _ => some "list"
  | .dct _ => some "dict"
  | _ => none
def tyNames : List String := ["NoneType", "bool", "int", "str", "tuple", "list", "dict"]
def isiP (O : Or) (p : P) : Cl → Option Bool
  | .ty n => match p with
    | .ins _ _ => if tyNames.contains n then some false else none
    | _ => match tyName p with
      | some a => kitB a n
      | none => none
  | .own c => match p with
    | .ins d _ => some (O.isSub d c)
    | _ => match tyName p with
      | some _ => some false
      | none => none
def isiAny (O : Or) (p : P) : List Cl → Option Bool
  | [] => some false
  | c :: cs => match isiP O p c with
    | some true => some true
    | some false => isiAny O p cs
    | none => none
def subP : P → P → Option P
  | .tup xs, .int i => L2.atI xs i
  | .lst xs, .int i => L2.atI xs i
  | .str z, .int i => if z.length ≤ sizeLine then (L2.atI z.cps.toList i).map fun c => .str ⟨#[c]⟩ else none
  | _, _ => none
def subW (S : Store) : W → P → Option W
  | .p x, i => (subP x i).map W.p
  | .b x, i => (subP x i).map borP
  | .c k, .int i => match S[k]? with
    | some (.lst xs) => L2.atI xs i
    | _ => none
  | _, _ => none
def attW (S : Store) (f : Str) : W → Option W
  | .p (.ins _ fs) => (fs.lookup f).map W.p
  | .p _ => none
  | .b (.ins _ fs) => (fs.lookup f).map borP
  | .b _ => none
  | .c k => match S[k]? with
    | some (.ins _ fs) => fs.lookup f
    | _ => none
/-- slices xs[lo:hi] with bounds that are None or not below 0 -/
def bndP : P → Option (Option Int)
  | .non => some none
  | .int i => some (some i)
  | _ => none
def cutP {α : Type} (xs : List α) (lo hi : Option Int) : List α := (xs.drop (HT.sIx xs.length 0 lo)).take (HT.sIx xs.length xs.length hi - HT.sIx xs.length 0 lo)
def slcP : P → P → P → Option P
  | .lst xs, l, h => match bndP l, bndP h with
    | some lo, some hi => some (.lst (cutP xs lo hi))
    | _, _ => none
  | .fz xs, l, h => match bndP l, bndP h with
    | some lo, some hi => some (.lst (cutP xs lo hi))
    | _, _ => none
  | .tup xs, l, h => match bndP l, bndP h with
    | some lo, some hi => some (.tup (cutP xs lo hi))
    | _, _ => none
  | _, _, _ => none
def intsOf : List P → Option (List Int)
  | [] => some []
  | .int i :: xs => (intsOf xs).map (i :: ·)
  | _ => none
def priP : Prim → List P → Option P
  | .len, [.tup xs] => some (.int xs.length)
  | .len, [.lst xs] => some (.int xs.length)
  | .len, [.dct xs] => some (.int xs.length)
  | .len, [.str x] => if x.length ≤ sizeLine then some (.int x.length) else none
  | .absI, [.int i] => some (.int (if i < 0 then -i else i))
  | .int, [.int i] => some (.int i)
  | .int, [.bl b] => some (.int (if b then 1 else 0))
  | .bool, [p] => (truP p).map P.bl
  | .gcd, [.int i, .int j] => some (.int ((Nat.gcd i.natAbs j.natAbs : Nat) : Int))
  | .fmt, [.int i] => if i.natAbs.log2 < 1920 then some (.str (toString i)) else none
  | .fmt, [.str y] => if y.length ≤ sizeLine then some (.str y) else none
  | .tuple, [.lst xs] => some (.tup xs)
  | .tuple, [.tup xs] => some (.tup xs)
  | .list, [.lst xs] => some (.lst xs)
  | .list, [.tup xs] => some (.lst xs)
  | .repr, [p] => match toD p with
    | some d => if (d.showable && !d.hasDict && decide (d.depth ≤ 60) && decide (d.shown.length ≤ sizeLine)) = true then some (.str d.shown) else none
    | none => none
  | _, _ => none

def srcW (xs : List W) : Src → Option W
  | .a i => xs[i]?
  | .d p => if flatP p then some (.p p) else none
  | .star i => match pureWs (xs.drop i) with
    | some ps => some (.p (.tup ps))
    | none => match borWs (xs.drop i) with
      | some ps => some (.b (.tup ps))
      | none => none
def srcWs (xs : List W) : List Src → Option (List W)
  | [] => some []
  | s :: r => match srcW xs s, srcWs xs r with
    | some x, some ys => some (x :: ys)
    | _, _ => none
/-! ### calls -/
/-- the cells among some values, in order -/
def refsOf : List W → List Nat
  | [] => []
  | .p _ :: xs => refsOf xs
  | .b _ :: xs => refsOf xs
  | .c k :: xs => k :: refsOf xs
def reIx (ks : List Nat) : W → W
  | .p x => .p x
  | .b x => .b x
  | .c k => .c (ks.idxOf k)
def takeC (S : Store) : List Nat → Option Store
  | [] => some []
  | k :: ks => match S[k]? with
    | some c => match pureC c, takeC S ks with
      | some _, some r => some (c :: r)
      | _, _ => none
    | none => none
def putC (S : Store) : List Nat → Store → Option Store
  | [], _ => some S
  | k :: ks, c :: S1 => match pureC c with
    | some _ => putC (S.set k c) ks S1
    | none => none
  | _ :: _, [] => none
/-- a cell with all that hangs on it, as it stands -/
def deepL (f : W → Option P) : List W → Option (List P)
  | [] => some []
  | x :: xs => match f x, deepL f xs with
    | some p, some ps => some (p :: ps)
    | _, _ => none
def deepF (f : W → Option P) : List (Str × W) → Option (List (Str × P))
  | [] => some []
  | (g, x) :: xs => match f x, deepF f xs with
    | some p, some ps => some ((g, p) :: ps)
    | _, _ => none
def deepK (f : W → Option P) : List (P × W) → Option (List (P × P))
  | [] => some []
  | (g, x) :: xs => match f x, deepK f xs with
    | some p, some ps => some ((g, p) :: ps)
    | _, _ => none
def deep (S : Store) : Nat → W → Option P
  | _, .p x => some x
  | _, .b x => some x
  | 0, .c _ => none
  | n + 1, .c k => match S[k]? with
    | some (.lst xs) => (deepL (deep S n) xs).map P.lst
    | some (.dct xs) => (deepK (deep S n) xs).map P.dct
    | some (.ins c xs) => (deepF (deep S n) xs).map (P.ins c)
    | _ => none
/-- the arguments of a call that only reads its cells -/
def lendW (S : Store) : W → Option W
  | .p x => some (.p x)
  | .b x => some (.b x)
  | .c k => (deep S 6 (.c k)).map W.b
def lendWs (S : Store) : List W → Option (List W)
  | [] => some []
  | x :: xs => match lendW S x, lendWs S xs with
    | some p, some ps => some (p :: ps)
    | _, _ => none
/-- a call: the callee has the cells ks, as S0 has them, its values are ys -/
def callG (run : List W → Store → R W) (ks : List Nat) (S0 : Store) (ys : List W) (S : Store) : R W := match run ys S0 with
  | .ok x S1 => match putC S ks S1 with
    | some S2 => match x with
      | .p q => .ok (.p q) S2
      | .b _ => .bad
      | .c j => if j < ks.length then .bad else match S1[j]? with
        | some c => match pureC c with
          | some _ => .ok (.c S2.length) (S2 ++ [c])
          | none => .bad
        | none => .bad
    | none => .bad
  | .ex e S1 => match putC S ks S1 with
    | some S2 => .ex e S2
    | none => .bad
  | .bad => .bad
/-- a call with the values xs, a world of its own -/
def callW (run : List W → Store → R W) (xs : List W) (S : Store) : R W :=
  match (if (refsOf xs).Nodup then takeC S (refsOf xs) else none) with
  | some S0 => callG run (refsOf xs) S0 (xs.map (reIx (refsOf xs))) S
  | none => match lendWs S xs with
    | some ys => callG run [] [] ys S
    | none => .bad
/-- the arguments as the def's parameters take them -/
def arr (pm : List Src) (run : List W → Store → R W) (zs : List W) (S : Store) : R W := match srcWs zs pm with
  | some ys => run ys S
  | none => .bad
/-- C(..): a new instance, its __init__, then it is plain data -/
def makeW (run : List W → Store → R W) (c : Nat) (xs : List W) (S : Store) : R W := match lendWs S xs with
  | some ys => match run (.c 0 :: ys) [.ins c []] with
    | .ok (.p .non) S1 => match S1[0]? with
      | some (Cell.ins d fs) => if d = c then (match pureF fs with
        | some ps => .ok (.p (.ins c ps)) S
        | none => .bad) else .bad
      | _ => .bad
    | .ok _ _ => .bad
    | .ex e _ => .ex e S
    | .bad => .bad
  | none => .bad

/-- an instance's class -/
def insOf (S : Store) : W → Option Nat
  | .p (.ins c _) => some c
  | .b (.ins c _) => some c
  | .c k => match S[k]? with
    | some (.ins c _) => some c
    | _ => none
  | _ => none
/-- .. where it has no field m -/
def clsOf (S : Store) (m : Str) : W → Option Nat
  | .p (.ins c fs) => if (fs.lookup m).isNone then some c else none
  | .b (.ins c fs) => if (fs.lookup m).isNone then some c else none
  | .c k => match S[k]? with
    | some (.ins c fs) => if (fs.lookup m).isNone then some c else none
    | _ => none
  | _ => none
/-- a cell that is a list -/
def lstAt (S : Store) : W → Bool
  | .c k => match S[k]? with
    | some (.lst _) => true
    | _ => false
  | _ => false
/-! ### the program's own ==, truth -/
def boolR (r : R W) : R Bool := match r with
  | .ok (.p (.bl k)) S => .ok k S
  | _ => .bad
/-- x == y, x an instance: whose def is asked, of which values -/
def askEq (O : Or) (S : Store) (x y : W) : Option ((Nat × List Src) × W × W) := match insOf S x with
  | some c => match insOf S y with
    | some d => if c = d then (O.meth c "__eq__" 1 []).map fun f => (f, x, y) else if (O.isSub d c && !O.isSub c d) = true then (O.meth d "__eq__" 1 []).map fun f => (f, y, x) else (O.meth c "__eq__" 1 []).map fun f => (f, x, y)
    | none => (O.meth c "__eq__" 1 []).map fun f => (f, x, y)
  | none => none
def insP : P → Bool
  | .ins _ _ => true
  | _ => false
def eqI (O : Or) (x y : W) (S : Store) : R Bool := match askEq O S x y with
  | some ((f, pm), a, b) => match view S x, view S y with
    | some _, some q => if (insP q || (tyName q).isSome) = true then boolR (callW (arr pm (O.run f)) [a, b] S) else .bad
    | _, _ => .bad
  | none => .bad
mutual
/-- may the two be one object? -/
def sameP : P → P → Bool
  | .tup xs, .tup ys => sameL xs ys
  | .lst xs, .lst ys => sameL xs ys
  | .ins _ fs, .ins _ gs => sameF fs gs
  | .non, .non => true
  | .bl a, .bl b => a == b
  | .int a, .int b => a == b
  | .str a, .str b => a == b
  | .non, .bl _ => false | .non, .int _ => false | .non, .str _ => false
  | .bl _, .non => false | .bl _, .int _ => false | .bl _, .str _ => false
  | .int _, .non => false | .int _, .bl _ => false | .int _, .str _ => false
  | .str _, .non => false | .str _, .bl _ => false | .str _, .int _ => false
  | _, _ => true
def sameL : List P → List P → Bool
  | [], [] => true
  | x :: xs, y :: ys => sameP x y && sameL xs ys
  | _, _ => false
def sameF : List (Str × P) → List (Str × P) → Bool
  | [], [] => true
  | (_, x) :: xs, (_, y) :: ys => sameP x y && sameF xs ys
  | _, _ => false
end
/-- item by item -/
def eqDs (f : P → P → Option Bool) : List P → List P → Option Bool
  | x :: xs, y :: ys => match f x y with
    | some true => eqDs f xs ys
    | some false => if sameP x y then none else some false
    | none => none
  | [], [] => some true
  | _, _ => some false
def eqD (O : Or) (S : Store) : Nat → P → P → Option Bool
  | 0, p, q => eqP p q
  | n + 1, p, q => match eqP p q with
    | some k => some k
    | none => if insP p then (match eqI O (.p p) (.p q) S with
        | .ok k _ => some k
        | _ => none)
      else match p, q with
        | .tup xs, .tup ys => if xs.length = ys.length then eqDs (eqD O S n) xs ys else none
        | _, _ => none
def eqW (O : Or) (neg : Bool) (x y : W) (S : Store) : R Bool := match insOf S x with
  | some _ => eqI O x y S
  | none => match view S x, view S y with
    | some p, some q => match eqP p q with
      | some k => .ok k S
      | none => if neg then .bad else match x, y with
        | .p p', .p q' => R.of (eqD O S 6 p' q') S
        | _, _ => .bad
    | _, _ => .bad
def xorB (n k : Bool) : Bool := if n then !k else k
/-- a value's truth -/
def truW (O : Or) (x : W) (S : Store) : R Bool := match insOf S x with
  | some c => match O.meth c "__bool__" 0 [] with
    | some (f, pm) => boolR (callW (arr pm (O.run f)) [x] S)
    | none => .bad
  | none => match view S x with
    | some p => R.of (truP p) S
    | none => .bad
/-- own operators -/
def noexR : R W → R W
  | .ok x S => .ok x S
  | _ => .bad
def strR : R W → R W
  | .ok (.p (.str y)) S => .ok (.p (.str y)) S
  | _ => .bad
def opRight (S : Store) (c : Nat) (y : W) : Bool := match y with
  | .p (.int _) => true
  | _ => match insOf S y with
    | some d => d == c
    | none => false
/-- + and * of lists, + of tuples -/
def lstOp : Operator → Option P → Option P → Option P
  | .Add, some (.lst xs), some (.lst ys) => if xs.length + ys.length ≤ sizeLine then some (.lst (xs ++ ys)) else none
  | .Add, some (.tup xs), some (.tup ys) => if xs.length + ys.length ≤ sizeLine then some (.tup (xs ++ ys)) else none
  | .Mult, some (.lst xs), some (.int k) => if decide (-(2 ^ 63) ≤ k ∧ k < 2 ^ 63 ∧ xs.length * k.toNat ≤ sizeLine) then some (.lst (List.replicate k.toNat xs).flatten) else none
  | _, _, _ => none
def opW (O : Or) (op : Operator) (x y : W) (S : Store) : R W := match insOf S x with
  | some c => match O.meth c (PySem.dunder op.info.2) 1 [] with
    | some (f, pm) => if opRight S c y = true then noexR (callW (arr pm (O.run f)) [x, y] S) else .bad
    | none => .bad
  | none => match lstOp op (view1 S x) (view1 S y) with
    | some p => .ok (.p p) S
    | none => match view S x, view S y with
      | some p, some q => R.of ((binP op p q).map W.p) S
      | _, _ => .bad
def uoP : Uo → P → Option P
  | .neg, .int i => some (.int (-i))
  | .abs, .int i => some (.int (if i < 0 then -i else i))
  | .str, .int i => if i.natAbs.log2 < 1920 then some (.str (toString i)) else none
  | .str, .str y => some (.str y)
  | _, _ => none
def unW (O : Or) (u : Uo) (x : W) (S : Store) : R W := match insOf S x with
  | some c => match O.meth c u.name 0 [] with
    | some (f, pm) => if u = .str then strR (callW (arr pm (O.run f)) [x] S) else noexR (callW (arr pm (O.run f)) [x] S)
    | none => .bad
  | none => match x with
    | .p p => R.of ((uoP u p).map W.p) S
    | _ => .bad
/-! ### expressions -/
def bindTg : Tg → W → Env → Option Env
  | .nm i, x, ρ => if i < ρ.length then some (ρ.set i (some x)) else none
  | .tup ts, .p (.tup xs), ρ => bindTgs ts (xs.map W.p) ρ
  | .tup ts, .b (.tup xs), ρ => bindTgs ts (xs.map borP) ρ
  | .tup _, _, _ => none
where
  bindTgs : Tgs → List W → Env → Option Env
  | .nil, [], ρ => some ρ
  | .cons t ts, x :: xs, ρ => match bindTg t x ρ with
    | some ρ1 => bindTgs ts xs ρ1
    | none => none
  | _, _, _ => none
abbrev bindTgs := bindTg.bindTgs
def wipeW (ρ : Env) : List Nat → Env
  | [] => ρ
  | v :: vs => (wipeW ρ vs).set v none
/-- a comprehension's turns -/
def compL (tg : Tg) (t : Env → Store → R Bool) (e : Env → Store → R W) (ρ : Env) : List W → List P → Store → R (List P)
  | [], acc, S => .ok acc S
  | x :: xs, acc, S => match bindTg tg x ρ with
    | some ρ1 => match t ρ1 S with
      | .ok true S1 => match e ρ1 S1 with
        | .ok (.p y) S2 => if acc.length < sizeLine then compL tg t e ρ xs (acc ++ [y]) S2 else .bad
        | _ => .bad
      | .ok false S1 => compL tg t e ρ xs acc S1
      | _ => .bad
    | none => .bad
def rngL (lo : Int) (n : Nat) : List W := (List.range n).map fun i => .p (.int (lo + (i : Nat)))
def okRng (lo hi : Int) : Bool := decide (-(2 ^ 62) ≤ lo ∧ lo < 2 ^ 62 ∧ -(2 ^ 62) ≤ hi ∧ hi < 2 ^ 62)
def zipP : List P → List P → List P
  | x :: xs, y :: ys => .tup [x, y] :: zipP xs ys
  | _, _ => []
def enmP (i : Nat) : List P → List P
  | [] => []
  | x :: xs => .tup [.int (i : Nat), x] :: enmP (i + 1) xs
def hiP (fs : List (Str × P)) : HI → Option P
  | .cst p => if flatP p then some p else none
  | .fld f => fs.lookup f
  | .rpr f => match fs.lookup f with
    | some p => priP .repr [p]
    | none => none
def hiPs (fs : List (Str × P)) : List HI → Option (List P)
  | [] => some []
  | h :: r => match hiP fs h, hiPs fs r with
    | some p, some ps => some (p :: ps)
    | _, _ => none
def hrP (fs : List (Str × P)) : HR → Option P
  | .one h => hiP fs h
  | .tup hs => if hs.length ≤ sizeLine then (hiPs fs hs).map P.tup else none
/-- the first clause that takes the error -/
def tellH (sub : Nat → Nat → Bool) (x : Exn) : List (Nat × HR) → Option P
  | [] => none
  | (c, h) :: r => if sub x.c c = true then hrP x.fs h else tellH sub x r
def toldR (sub : Nat → Nat → Bool) (hs : List (Nat × HR)) : R W → R W
  | .ok _ S => .ok (.p .non) S
  | .ex x S => R.of ((tellH sub x hs).map W.p) S
  | .bad => .bad
/-- the table of code objects at k -/
def tabAt (S : Store) (k : Nat) (p : Addr) (q : Str) : Bool := match S[k]? with
  | some (.tab p' q') => p' == p && q' == q
  | _ => false
section
variable (O : Or)
mutual
def evE : E → Env → Store → R W
  | .var i, ρ, S => match ρ[i]? with
    | some (some x) => .ok x S
    | _ => .bad
  | .cst p, _, S => .ok (.p p) S
  | .bin op a b, ρ, S => (evE a ρ S).bind fun x S1 => (evE b ρ S1).bind fun y S2 => match view S2 x, view S2 y with
    | some p, some q => R.of ((binP op p q).map W.p) S2
    | _, _ => .bad
  | .neg a, ρ, S => (evE a ρ S).bind fun x S1 => match x with
    | .p (.int i) => .ok (.p (.int (-i))) S1
    | _ => .bad
  | .cmp op a b, ρ, S => (evE a ρ S).bind fun x S1 => (evE b ρ S1).bind fun y S2 => match view S2 x, view S2 y with
    | some p, some q => R.of ((cmpP op p q).map fun k => W.p (.bl k)) S2
    | _, _ => .bad
  | .eqo neg a b, ρ, S => (evE a ρ S).bind fun x S1 => (evE b ρ S1).bind fun y S2 => match eqW O neg x y S2 with
    | .ok k S3 => .ok (.p (.bl (xorB neg k))) S3
    | _ => .bad
  | .boo a, ρ, S => (evE a ρ S).bind fun x S1 => match truW O x S1 with
    | .ok k S2 => .ok (.p (.bl k)) S2
    | _ => .bad
  | .chn o1 o2 a b c, ρ, S => (evE a ρ S).bind fun x S1 => (evE b ρ S1).bind fun y S2 => match view S2 x, view S2 y with
    | some p, some q => match cmpP o1 p q with
      | some true => (evE c ρ S2).bind fun z S3 => R.of ((pcmp o2 S3 y z).map fun k => W.p (.bl k)) S3
      | some false => .ok (.p (.bl false)) S2
      | none => .bad
    | _, _ => .bad
  | .and a b, ρ, S => (evE a ρ S).bind fun x S1 => match x with
    | .p (.bl true) => evE b ρ S1
    | .p (.bl false) => .ok (.p (.bl false)) S1
    | _ => .bad
  | .or a b, ρ, S => (evE a ρ S).bind fun x S1 => match x with
    | .p (.bl true) => .ok (.p (.bl true)) S1
    | .p (.bl false) => evE b ρ S1
    | _ => .bad
  | .not a, ρ, S => (evE a ρ S).bind fun x S1 => match x with
    | .p (.bl k) => .ok (.p (.bl (!k))) S1
    | _ => .bad
  | .ife t a b, ρ, S => (evT t ρ S).bind fun k S1 => if k = true then evE a ρ S1 else evE b ρ S1
  | .tup es, ρ, S => (evEs es ρ S).bind fun xs S1 => match pureWs xs with
    | some ps => if ps.length ≤ sizeLine then .ok (.p (.tup ps)) S1 else .bad
    | none => .bad
  | .lst es, ρ, S => (evEs es ρ S).bind fun xs S1 => match pureWs xs with
    | some ps => if ps.length ≤ sizeLine then .ok (.p (.lst ps)) S1 else .bad
    | none => .bad
  | .newl es, ρ, S => (evEs es ρ S).bind fun xs S1 => if xs.length ≤ sizeLine then .ok (.c S1.length) (S1 ++ [.lst xs]) else .bad
  | .sub a i, ρ, S => (evE a ρ S).bind fun x S1 => (evE i ρ S1).bind fun y S2 => match y with
    | .p q => R.of (subW S2 x q) S2
    | _ => .bad
  | .slc a l h, ρ, S => (evE a ρ S).bind fun x S1 => (evE l ρ S1).bind fun y S2 => (evE h ρ S2).bind fun z S3 => match view1 S3 x, y, z with
    | some p, .p q, .p r => R.of ((slcP p q r).map W.p) S3
    | _, _, _ => .bad
  | .ixi a, ρ, S => (evE a ρ S).bind fun x S1 => match x with
    | .p (.int i) => .ok (.p (.int i)) S1
    | _ => .bad
  | .att a f, ρ, S => (evE a ρ S).bind fun x S1 => R.of (attW S1 f x) S1
  | .pri f es, ρ, S => (evEs es ρ S).bind fun xs S1 => match views S1 xs with
    | some ps => R.of ((priP f ps).map W.p) S1
    | none => .bad
  | .isi a cs, ρ, S => (evE a ρ S).bind fun x S1 => match view S1 x with
    | some p => R.of ((isiAny O p cs).map fun k => W.p (.bl k)) S1
    | none => .bad
  | .call f es ks pm, ρ, S => (evEs es ρ S).bind fun xs S1 => (evEs ks ρ S1).bind fun ys S2 => callW (arr pm (O.run f)) (xs ++ ys) S2
  | .make c f es ks pm, ρ, S => (evEs es ρ S).bind fun xs S1 => (evEs ks ρ S1).bind fun ys S2 => makeW (arr pm (O.run f)) c (xs ++ ys) S2
  | .meth a m es ks nm, ρ, S => (evE a ρ S).bind fun x S1 => match clsOf S1 m x with
    | some c => match O.meth c m (lenEs es) nm with
      | some (f, pm) => (evEs es ρ S1).bind fun xs S2 => (evEs ks ρ S2).bind fun ys S3 => callW (arr pm (O.run f)) (x :: (xs ++ ys)) S3
      | none => .bad
    | none => .bad
  | .sup d f es pm, ρ, S => match ρ[0]? with
    | some (some x) => (match insOf S x with
      | some c => if O.isSub c d = true then (evEs es ρ S).bind fun xs S1 => callW (arr pm (O.run f)) (x :: xs) S1 else .bad
      | none => .bad)
    | _ => .bad
  | .bm m a es, ρ, S => (evE a ρ S).bind fun x S1 => if lstAt S1 x = true then (evEs es ρ S1).bind fun xs S2 => match m, x, xs with
    | .append, .c k, [y] => match S2[k]? with
      | some (.lst zs) => if zs.length < sizeLine then .ok (.p .non) (S2.set k (.lst (zs ++ [y]))) else .bad
      | _ => .bad
    | _, _, _ => .bad else .bad
  | .comp it tg own t e, ρ, S => (evIt it ρ S).bind fun xs S1 => match compL tg (evT t) (evE e) (wipeW ρ own) xs [] S1 with
    | .ok ys S2 => .ok (.p (.lst ys)) S2
    | _ => .bad
  | .frz a, ρ, S => (evE a ρ S).bind fun x S1 => match x with
    | .p p => .ok (.p p) S1
    | .b _ => .bad
    | .c k => match S1[k]? with
      | some c => match pureC c with
        | some p => .ok (.p p) (S1.set k .dead)
        | none => .bad
      | none => .bad
  | .cname a, ρ, S => (evE a ρ S).bind fun x S1 => match insOf S1 x with
    | some c => .ok (.p (.str (O.cnm c))) S1
    | none => .bad
  | .opr op a b, ρ, S => (evE a ρ S).bind fun x S1 => (evE b ρ S1).bind fun y S2 => opW O op x y S2
  | .one u a, ρ, S => (evE a ρ S).bind fun x S1 => unW O u x S1
  | .lamc hs tb q k e, ρ, S => if tabAt S k tb q = true then toldR O.exSub hs (evE e ρ S) else .bad
  | .nope, _, _ => .bad
def evEs : Es → Env → Store → R (List W)
  | .nil, _, S => .ok [] S
  | .cons e es, ρ, S => (evE e ρ S).bind fun x S1 => (evEs es ρ S1).bind fun xs S2 => .ok (x :: xs) S2
def evT : T → Env → Store → R Bool
  | .e e, ρ, S => (evE e ρ S).bind fun x S1 => truW O x S1
  | .eqo neg a b, ρ, S => (evE a ρ S).bind fun x S1 => (evE b ρ S1).bind fun y S2 => match eqW O neg x y S2 with
    | .ok k S3 => .ok (xorB neg k) S3
    | _ => .bad
  | .cmp op a b, ρ, S => (evE a ρ S).bind fun x S1 => (evE b ρ S1).bind fun y S2 => match view S2 x, view S2 y with
    | some p, some q => R.of (cmpP op p q) S2
    | _, _ => .bad
  | .chn o1 o2 a b c, ρ, S => (evE a ρ S).bind fun x S1 => (evE b ρ S1).bind fun y S2 => match view S2 x, view S2 y with
    | some p, some q => match cmpP o1 p q with
      | some true => (evE c ρ S2).bind fun z S3 => R.of (pcmp o2 S3 y z) S3
      | some false => .ok false S2
      | none => .bad
    | _, _ => .bad
  | .and a b, ρ, S => (evT a ρ S).bind fun k S1 => if k = true then evT b ρ S1 else .ok false S1
  | .or a b, ρ, S => (evT a ρ S).bind fun k S1 => if k = true then .ok true S1 else evT b ρ S1
  | .not a, ρ, S => (evT a ρ S).bind fun k S1 => .ok (!k) S1
  | .tt, _, S => .ok true S
def evIt : It → Env → Store → R (List W)
  | .seq e, ρ, S => (evE e ρ S).bind fun x S1 => R.of (itemsW x) S1
  | .rng e, ρ, S => (evE e ρ S).bind fun x S1 => match x with
    | .p (.int i) => if okRng 0 i then .ok (rngL 0 i.toNat) S1 else .bad
    | _ => .bad
  | .rng2 a b, ρ, S => (evE a ρ S).bind fun x S1 => (evE b ρ S1).bind fun y S2 => match x, y with
    | .p (.int i), .p (.int j) => if okRng i j then .ok (rngL i (j - i).toNat) S2 else .bad
    | _, _ => .bad
  | .zip a b, ρ, S => (evE a ρ S).bind fun x S1 => (evE b ρ S1).bind fun y S2 => match x, y with
    | .p p, .p q => match itemsP p, itemsP q with
      | some xs, some ys => .ok ((zipP xs ys).map W.p) S2
      | _, _ => .bad
    | _, _ => .bad
  | .enm a, ρ, S => (evE a ρ S).bind fun x S1 => match x with
    | .p p => match itemsP p with
      | some xs => .ok ((enmP 0 xs).map W.p) S1
      | none => .bad
    | _ => .bad
  | .rev a, ρ, S => (evE a ρ S).bind fun x S1 => match x with
    | .p (.lst xs) => .ok (xs.reverse.map W.p) S1
    | _ => .bad
end

/-! ### statements -/
inductive Out where
  | nx (ρ : Env) (S : Store) | rt (x : W) (S : Store) | bk (ρ : Env) (S : Store) | ct (ρ : Env) (S : Store) | ex (e : Exn) (ρ : Env) (S : Store) | bad
inductive Sm where
  | expr (e : E) | asg (tg : Tg) (e : E) | ret (e : E) | retN
  | ifs (t : T) (a b : List Sm)
  | for_ (it : It) (tg : Tg) (body : List Sm)
  | whl (n : Nat) (t : T) (body : List Sm)
  | rse (c : Nat) (es : Es) (fls : List (Str × Nat))
  | setf (o : E) (f : Str) (e : E)
  | seti (o i e : E)
  | setu (i : Nat) (fs : List Str) (e : E)
  | par (is : List Nat) (es : Es)
  | pass | brk | cont | nope

def R.out (r : R W) (ρ : Env) (k : W → Store → Out) : Out := match r with
  | .ok a S => k a S
  | .ex e S => .ex e ρ S
  | .bad => .bad
def forL (tg : Tg) (b : Env → Store → Out) : List W → Env → Store → Out
  | [], ρ, S => .nx ρ S
  | x :: xs, ρ, S => match bindTg tg x ρ with
    | some ρ1 => match b ρ1 S with
      | .nx ρ2 S2 => forL tg b xs ρ2 S2
      | .ct ρ2 S2 => forL tg b xs ρ2 S2
      | .bk ρ2 S2 => .nx ρ2 S2
      | o => o
    | none => .bad
def whlL (t : Env → Store → R Bool) (b : Env → Store → Out) : Nat → Env → Store → Out
  | 0, _, _ => .bad
  | n + 1, ρ, S => match t ρ S with
    | .ok true S1 => match b ρ S1 with
      | .nx ρ2 S2 => whlL t b n ρ2 S2
      | .ct ρ2 S2 => whlL t b n ρ2 S2
      | .bk ρ2 S2 => .nx ρ2 S2
      | o => o
    | .ok false S1 => .nx ρ S1
    | .ex e S1 => .ex e ρ S1
    | .bad => .bad
/-- an exception's fields, the last one first -/
def exFs : List (Str × Nat) → List P → List (Str × P) → Option (List (Str × P))
  | [], _, acc => some acc
  | (f, j) :: r, ps, acc => match ps[j - 1]? with
    | some p => exFs r ps ((f, p) :: acc)
    | none => none
def putW (f : Str) (x : W) : List (Str × W) → List (Str × W)
  | [] => [(f, x)]
  | (g, y) :: r => if g = f then (g, x) :: r else (g, y) :: putW f x r
/-- a tuple's items -/
def tupW : W → Option (List W)
  | .p (.tup xs) => some (xs.map W.p)
  | .b (.tup xs) => some (xs.map borP)
  | _ => none
/-- fields, one behind the other -/
def putWs : List Str → List W → List (Str × W) → List (Str × W)
  | f :: fs, x :: xs, gs => putWs fs xs (putW f x gs)
  | _, _, gs => gs
/-- several names at once -/
def setAll : List Nat → List W → Env → Option Env
  | [], [], ρ => some ρ
  | i :: is, x :: xs, ρ => if i < ρ.length then setAll is xs (ρ.set i (some x)) else none
  | _, _, _ => none
mutual
def exS : Sm → Env → Store → Out
  | .expr e, ρ, S => (evE O e ρ S).out ρ fun _ S1 => .nx ρ S1
  | .asg tg e, ρ, S => (evE O e ρ S).out ρ fun x S1 => match bindTg tg x ρ with
    | some ρ1 => .nx ρ1 S1
    | none => .bad
  | .ret e, ρ, S => (evE O e ρ S).out ρ fun x S1 => .rt x S1
  | .retN, _, S => .rt (.p .non) S
  | .ifs t a b, ρ, S => match evT O t ρ S with
    | .ok k S1 => if k = true then exSs a ρ S1 else exSs b ρ S1
    | .ex e S1 => .ex e ρ S1
    | .bad => .bad
  | .for_ it tg body, ρ, S => match evIt O it ρ S with
    | .ok xs S1 => forL tg (exSs body) xs ρ S1
    | .ex e S1 => .ex e ρ S1
    | .bad => .bad
  | .whl n t body, ρ, S => whlL (evT O t) (exSs body) n ρ S
  | .rse c es fls, ρ, S => match evEs O es ρ S with
    | .ok xs S1 => match pureWs xs with
      | some ps => match exFs fls ps [] with
        | some fs => .ex ⟨c, fs⟩ ρ S1
        | none => .bad
      | none => .bad
    | .ex e S1 => .ex e ρ S1
    | .bad => .bad
  | .setf o f e, ρ, S => (evE O e ρ S).out ρ fun y S1 => (evE O o ρ S1).out ρ fun x S2 => match x with
    | .c k => match S2[k]? with
      | some (.ins c fs) => if fs.length < 1000 then .nx ρ (S2.set k (.ins c (putW f y fs))) else .bad
      | _ => .bad
    | _ => .bad
  | .seti o i e, ρ, S => (evE O e ρ S).out ρ fun y S1 => (evE O o ρ S1).out ρ fun x S2 => (evE O i ρ S2).out ρ fun z S3 => match x, z with
    | .c k, .p (.int j) => match S3[k]? with
      | some (.lst xs) => if decide (0 ≤ j ∧ j.toNat < xs.length) then .nx ρ (S3.set k (.lst (xs.set j.toNat y))) else .bad
      | _ => .bad
    | _, _ => .bad
  | .setu i fs e, ρ, S => (evE O e ρ S).out ρ fun x S1 => match ρ[i]? with
    | some (some (.c k)) => (match S1[k]? with
      | some (.ins c gs) => (match tupW x with
        | some xs => if decide (xs.length = fs.length ∧ gs.length + fs.length < 1000) then .nx ρ (S1.set k (.ins c (putWs fs xs gs))) else .bad
        | none => .bad)
      | _ => .bad)
    | _ => .bad
  | .par is es, ρ, S => match evEs O es ρ S with
    | .ok xs S1 => match setAll is xs ρ with
      | some ρ1 => .nx ρ1 S1
      | none => .bad
    | .ex e S1 => .ex e ρ S1
    | .bad => .bad
  | .pass, ρ, S => .nx ρ S
  | .brk, ρ, S => .bk ρ S
  | .cont, ρ, S => .ct ρ S
  | .nope, _, _ => .bad
def exSs : List Sm → Env → Store → Out
  | [], ρ, S => .nx ρ S
  | s :: r, ρ, S => match exS s ρ S with
    | .nx ρ1 S1 => exSs r ρ1 S1
    | o => o
end
/-- a def's body -/
def runB (n : Nat) (body : List Sm) (xs : List W) (S : Store) : R W := match exSs O body (xs.map some ++ List.replicate (n - xs.length) none) S with
  | .nx _ S1 => .ok (.p .non) S1
  | .rt x S1 => .ok x S1
  | .ex e _ S1 => .ex e S1
  | _ => .bad
end
/-- a def: how many parameters, how many names, its body -/
structure Fn where
  ps : Nat
  n : Nat
  body : List Sm
/-- the program: its defs by number; the calls that may still nest -/
def runP (fs : List Fn) (O : Or) : Nat → Nat → List W → Store → R W
  | 0, _, _, _ => .bad
  | n + 1, f, xs, S => match fs[f]? with
    | some d => if xs.length = d.ps then runB { O with run := runP fs O n } d.n d.body xs S else .bad
    | none => .bad
end FD

set_option Elab.async false
set_option linter.all false
set_option autoImplicit false
set_option maxRecDepth 100000
set_option maxHeartbeats 2000000
/-! FDb: what a piece of the text is worth (readings), and the first rules. -/
namespace FD
open PySem PySem.Spec PyProof.Rows L2

def RepE (G : Ga) (w : Wd) (σ : L2.St) (ρ : Env) : Prop := ρ.length = σ.length ∧ ∀ (i : Nat) (x : W), ρ[i]? = some (some x) → ∃ v, σ[i]? = some (some v) ∧ repW G w x v
theorem Gro.env {G : Ga} {w w' : Wd} {σ : L2.St} {ρ : Env} (e : Gro w w') (h : RepE G w σ ρ) : RepE G w' σ ρ :=
  ⟨h.1, fun i x q => let ⟨v, a, b⟩ := h.2 i x q; ⟨v, a, e.repW b⟩⟩

/-- an exception that flies: its own dict holds its fields -/
def repX (G : Ga) (w : Wd) (e : Exn) (d : Addr) : Prop := ∃ vs, w.H d = some (.xd vs) ∧ rep.repf G w.H w.ow e.fs vs

/-- a later world with the store S' -/
structure Nx (G : Ga) (w w' : Wd) (S' : Store) : Prop where
  S : w'.S = S'
  r : SR G w'
  g : Gro w w'
theorem Nx.refl {G : Ga} {w : Wd} (s : SR G w) : Nx G w w w.S := ⟨rfl, s, Gro.refl w⟩
theorem Nx.trans {G : Ga} {w w1 w2 : Wd} {S1 S2 : Store} (a : Nx G w w1 S1) (b : Nx G w1 w2 S2) : Nx G w w2 S2 := ⟨b.S, b.r, a.g.trans b.g⟩

section
variable (G : Ga) (Wx : WX)
/-- an expression's reading: in the world w with the names ρ -/
def Ok (g : R W) (w : Wd) (σ : L2.St) (Q : VK) : Prop := match g with
  | .ok x S' => ∀ v w', Nx G w w' S' → repW G w' x v → Q v w'.H
  | .ex e S' => ∀ d w', Nx G w w' S' → repX G w' e d → Wx (.ref (G.xa e.c)) (some d) σ w'.H
  | .bad => False
def OkB (g : R Bool) (w : Wd) (σ : L2.St) (Q : Bool → Hp → Prop) : Prop := match g with
  | .ok k S' => ∀ w', Nx G w w' S' → Q k w'.H
  | .ex e S' => ∀ d w', Nx G w w' S' → repX G w' e d → Wx (.ref (G.xa e.c)) (some d) σ w'.H
  | .bad => False
def OkL (g : R (List W)) (w : Wd) (σ : L2.St) (Q : List V → Hp → Prop) : Prop := match g with
  | .ok xs S' => ∀ vs w', Nx G w w' S' → repWs G w' xs vs → Q vs w'.H
  | .ex e S' => ∀ d w', Nx G w w' S' → repX G w' e d → Wx (.ref (G.xa e.c)) (some d) σ w'.H
  | .bad => False
/-- some world bears the names and the store -/
def In (σ : L2.St) (H : Hp) (f : Env → Wd → Prop) : Prop := ∃ ρ w, w.H = H ∧ SR G w ∧ RepE G w σ ρ ∧ f ρ w
def tE (g : Env → Store → R W) : TE := fun σ H Q => In G σ H fun ρ w => Ok G Wx (g ρ w.S) w σ Q
def tT (g : Env → Store → R Bool) : TT := fun σ H Q => In G σ H fun ρ w => OkB G Wx (g ρ w.S) w σ Q
def tA (g : Env → Store → R (List W)) : TA := fun σ H Q => In G σ H fun ρ w => OkL G Wx (g ρ w.S) w σ Q
end

section
variable {G : Ga} {Wx : WX}
/-- a weaker reading -/
theorem PE.imp {X : Cx} {e : Expr} {t t' : TE} (h : PE X e t) (hi : ∀ σ H Q, t' σ H Q → t σ H Q) : PE X e t' := ⟨fun pins s σ H Q I q => h.run pins s σ H Q I (hi σ H Q q)⟩
theorem PT.imp {X : Cx} {e : Expr} {t t' : TT} (h : PT X e t) (hi : ∀ σ H Q, t' σ H Q → t σ H Q) : PT X e t' := ⟨fun pins s σ H Q I q => h.run pins s σ H Q I (hi σ H Q q)⟩
theorem PA.imp {X : Cx} {e : List Expr} {t t' : TA} (h : PA X e t) (hi : ∀ σ H Q, t' σ H Q → t σ H Q) : PA X e t' := ⟨fun pos pins s σ H Q I q => h.run pos pins s σ H Q I (hi σ H Q q)⟩
theorem PS.imp {X : Cx} {e : Stmt} {t t' : TS} (h : PS X e t) (hi : ∀ D σ H, t' D σ H → t D σ H) : PS X e t' := ⟨fun pins s σ H D I q => h.run pins s σ H D I (hi D σ H q)⟩
theorem PSs.imp {X : Cx} {e : List Stmt} {t t' : TS} (h : PSs X e t) (hi : ∀ D σ H, t' D σ H → t D σ H) : PSs X e t' := ⟨fun pins s σ H D I q => h.run pins s σ H D I (hi D σ H q)⟩

/-- one piece, then what follows with its value -/
theorem ok_bind {β : Type} {r : R W} {k : W → Store → R β} {w : Wd} {σ : L2.St} {Q : VK} {F : R β → Wd → Prop}
    (hb : ¬ F .bad w)
    (hx : ∀ e S', F (.ex e S') w → ∀ d w', Nx G w w' S' → repX G w' e d → Wx (.ref (G.xa e.c)) (some d) σ w'.H)
    (h : F (r.bind k) w) (hk : ∀ x S' v w', r = .ok x S' → F (k x S') w → Nx G w w' S' → repW G w' x v → Q v w'.H) : Ok G Wx r w σ Q := by
  cases r with
  | ok x S' => exact fun v w' n rp => hk x S' v w' rfl h n rp
  | ex e S' => exact hx e S' h
  | bad => exact absurd h hb
/-- going on from a later world -/
theorem Ok.from {g : R W} {w w1 : Wd} {S1 : Store} {σ : L2.St} {Q : VK} (h : Ok G Wx g w σ Q) (n : Nx G w w1 S1) : Ok G Wx g w1 σ Q := by
  cases g with
  | ok x S' => exact fun v w' n' rp => h v w' (n.trans n') rp
  | ex e S' => exact fun d w' n' rp => h d w' (n.trans n') rp
  | bad => exact h
theorem OkB.from {g : R Bool} {w w1 : Wd} {S1 : Store} {σ : L2.St} {Q : Bool → Hp → Prop} (h : OkB G Wx g w σ Q) (n : Nx G w w1 S1) : OkB G Wx g w1 σ Q := by
  cases g with
  | ok x S' => exact fun w' n' => h w' (n.trans n')
  | ex e S' => exact fun d w' n' rp => h d w' (n.trans n') rp
  | bad => exact h
theorem OkL.from {g : R (List W)} {w w1 : Wd} {S1 : Store} {σ : L2.St} {Q : List V → Hp → Prop} (h : OkL G Wx g w σ Q) (n : Nx G w w1 S1) : OkL G Wx g w1 σ Q := by
  cases g with
  | ok x S' => exact fun v w' n' rp => h v w' (n.trans n') rp
  | ex e S' => exact fun d w' n' rp => h d w' (n.trans n') rp
  | bad => exact h
/-- .. as a reading at the later world -/
theorem tE_at {g : Env → Store → R W} {w w1 : Wd} {S1 : Store} {σ : L2.St} {ρ : Env} {Q : VK} (n : Nx G w w1 S1) (he : RepE G w σ ρ) (h : Ok G Wx (g ρ S1) w1 σ Q) : tE G Wx g σ w1.H Q :=
  ⟨ρ, w1, rfl, n.r, n.g.env he, by show Ok G Wx (g ρ w1.S) w1 σ Q; rw [n.S]; exact h⟩
theorem tT_at {g : Env → Store → R Bool} {w w1 : Wd} {S1 : Store} {σ : L2.St} {ρ : Env} {Q : Bool → Hp → Prop} (n : Nx G w w1 S1) (he : RepE G w σ ρ) (h : OkB G Wx (g ρ S1) w1 σ Q) : tT G Wx g σ w1.H Q :=
  ⟨ρ, w1, rfl, n.r, n.g.env he, by show OkB G Wx (g ρ w1.S) w1 σ Q; rw [n.S]; exact h⟩
theorem tA_at {g : Env → Store → R (List W)} {w w1 : Wd} {S1 : Store} {σ : L2.St} {ρ : Env} {Q : List V → Hp → Prop} (n : Nx G w w1 S1) (he : RepE G w σ ρ) (h : OkL G Wx (g ρ S1) w1 σ Q) : tA G Wx g σ w1.H Q :=
  ⟨ρ, w1, rfl, n.r, n.g.env he, by show OkL G Wx (g ρ w1.S) w1 σ Q; rw [n.S]; exact h⟩

/-- what is wanted of r.bind k is wanted of r, with the rest behind it -/
theorem ok_seq {r : R W} {k : W → Store → R W} {w : Wd} {σ : L2.St} {Q Q' : VK} (h : Ok G Wx (r.bind k) w σ Q')
    (hk : ∀ x S' v w', r = .ok x S' → Ok G Wx (k x S') w' σ Q' → Nx G w w' S' → repW G w' x v → Q v w'.H) : Ok G Wx r w σ Q := by
  cases r with
  | ok x S' => exact fun v w' n rp => hk x S' v w' rfl (Ok.from (show Ok G Wx (k x S') w σ Q' from h) n) n rp
  | ex e S' => exact h
  | bad => exact h
theorem ok_seqB {r : R W} {k : W → Store → R Bool} {w : Wd} {σ : L2.St} {Q : VK} {Q' : Bool → Hp → Prop} (h : OkB G Wx (r.bind k) w σ Q')
    (hk : ∀ x S' v w', r = .ok x S' → OkB G Wx (k x S') w' σ Q' → Nx G w w' S' → repW G w' x v → Q v w'.H) : Ok G Wx r w σ Q := by
  cases r with
  | ok x S' => exact fun v w' n rp => hk x S' v w' rfl (OkB.from (show OkB G Wx (k x S') w σ Q' from h) n) n rp
  | ex e S' => exact h
  | bad => exact h
theorem ok_seqL {r : R W} {k : W → Store → R (List W)} {w : Wd} {σ : L2.St} {Q : VK} {Q' : List V → Hp → Prop} (h : OkL G Wx (r.bind k) w σ Q')
    (hk : ∀ x S' v w', r = .ok x S' → OkL G Wx (k x S') w' σ Q' → Nx G w w' S' → repW G w' x v → Q v w'.H) : Ok G Wx r w σ Q := by
  cases r with
  | ok x S' => exact fun v w' n rp => hk x S' v w' rfl (OkL.from (show OkL G Wx (k x S') w σ Q' from h) n) n rp
  | ex e S' => exact h
  | bad => exact h
theorem okB_seq {r : R Bool} {k : Bool → Store → R W} {w : Wd} {σ : L2.St} {Q' : VK} {Q : Bool → Hp → Prop} (h : Ok G Wx (r.bind k) w σ Q')
    (hk : ∀ x S' w', r = .ok x S' → Ok G Wx (k x S') w' σ Q' → Nx G w w' S' → Q x w'.H) : OkB G Wx r w σ Q := by
  cases r with
  | ok x S' => exact fun w' n => hk x S' w' rfl (Ok.from (show Ok G Wx (k x S') w σ Q' from h) n) n
  | ex e S' => exact h
  | bad => exact h
theorem okB_seqB {r : R Bool} {k : Bool → Store → R Bool} {w : Wd} {σ : L2.St} {Q' : Bool → Hp → Prop} {Q : Bool → Hp → Prop} (h : OkB G Wx (r.bind k) w σ Q')
    (hk : ∀ x S' w', r = .ok x S' → OkB G Wx (k x S') w' σ Q' → Nx G w w' S' → Q x w'.H) : OkB G Wx r w σ Q := by
  cases r with
  | ok x S' => exact fun w' n => hk x S' w' rfl (OkB.from (show OkB G Wx (k x S') w σ Q' from h) n) n
  | ex e S' => exact h
  | bad => exact h
theorem okL_seq {r : R (List W)} {k : List W → Store → R W} {w : Wd} {σ : L2.St} {Q' : VK} {Q : List V → Hp → Prop} (h : Ok G Wx (r.bind k) w σ Q')
    (hk : ∀ x S' v w', r = .ok x S' → Ok G Wx (k x S') w' σ Q' → Nx G w w' S' → repWs G w' x v → Q v w'.H) : OkL G Wx r w σ Q := by
  cases r with
  | ok x S' => exact fun v w' n rp => hk x S' v w' rfl (Ok.from (show Ok G Wx (k x S') w σ Q' from h) n) n rp
  | ex e S' => exact h
  | bad => exact h
theorem okL_seqL {r : R (List W)} {k : List W → Store → R (List W)} {w : Wd} {σ : L2.St} {Q' : List V → Hp → Prop} {Q : List V → Hp → Prop} (h : OkL G Wx (r.bind k) w σ Q')
    (hk : ∀ x S' v w', r = .ok x S' → OkL G Wx (k x S') w' σ Q' → Nx G w w' S' → repWs G w' x v → Q v w'.H) : OkL G Wx r w σ Q := by
  cases r with
  | ok x S' => exact fun v w' n rp => hk x S' v w' rfl (OkL.from (show OkL G Wx (k x S') w σ Q' from h) n) n rp
  | ex e S' => exact h
  | bad => exact h

/-! ### names, constants -/
def flatV (G : Ga) : P → V
  | .non => .non | .bl b => .bl b | .int i => .int i | .str x => .str x | .ty n => .ty n | .glb n => .ref (G.ga n)
  | _ => .non
theorem rep_flat {H : Hp} {ow : Addr → Prop} {p : P} (h : flatP p = true) : rep G H ow p (flatV G p) := by
  cases p <;> first | rfl | (cases h)
theorem rep_flat_eq {H : Hp} {ow : Addr → Prop} {p : P} {v : V} (h : flatP p = true) (r : rep G H ow p v) : v = flatV G p := by
  cases p <;> first | exact r | (cases h)
theorem Ok.here {x : W} {w : Wd} {σ : L2.St} {Q : VK} {v : V} (h : Ok G Wx (.ok x w.S) w σ Q) (s : SR G w) (r : repW G w x v) : Q v w.H := h v w (Nx.refl s) r
variable {X : Cx}
theorem fe_var {i : Nat} {x : Str} {pos : Pos} (hN : X.N[i]? = some x) (hv : Vis X.env.scope x) (hd : (x == ("__debug__" : Str)) = false) (hcd : (x == ("__classdict__" : Str)) = false) (O : Or) : PE X (.Name x pos) (tE G Wx (evE O (.var i))) :=
  PE.imp (pe_var hN hv hd hcd) fun σ H Q ⟨ρ, w, e, s, he, h⟩ => by
    subst e
    have h : Ok G Wx (match ρ[i]? with | some (some x) => .ok x w.S | _ => .bad) w σ Q := h
    cases q : ρ[i]? with
    | none => rw [q] at h; exact h.elim
    | some o =>
      cases o with
      | none => rw [q] at h; exact h.elim
      | some y =>
        rw [q] at h
        obtain ⟨v, e1, e2⟩ := he.2 i y q
        exact ⟨v, e1, Ok.here h s e2⟩
theorem fe_flat {e : Expr} {p : P} (hp : flatP p = true) (h : PE X e (tC (flatV G p))) (O : Or) : PE X e (tE G Wx (evE O (.cst p))) :=
  PE.imp h fun σ H Q ⟨ρ, w, e, s, he, h⟩ => by
    subst e
    exact Ok.here (x := .p p) h s (rep_flat hp)
theorem fe_nope {e : Expr} (O : Or) : PE X e (tE G Wx (evE O .nope)) := ⟨fun _ _ _ _ _ _ h => by
  obtain ⟨ρ, w, _, _, _, h⟩ := h
  exact h.elim⟩

/-! ### two operands -/
/-- what a rule of two values must give -/
def Op2 (G : Ga) (X : Cx) (f : Store → W → W → Option W) (r : R2) : Prop := ∀ (w : Wd) (x y z : W) (v u : V) (Q : VK), SR G w → repW G w x v → repW G w y u → f w.S x y = some z →
  (∀ t w', Nx G w w' w.S → repW G w' z t → Q t w'.H) → r v u w.H Q
theorem fe_op2 {e : Expr} {ga gb : Env → Store → R W} {r : R2} {f : Store → W → W → Option W} {te : TE → TE → TE} (hte : ∀ ta tb, te ta tb = tOp r ta tb)
    (h : PE X e (te (tE G Wx ga) (tE G Wx gb))) (hr : Op2 G X f r) : PE X e (tE G Wx fun ρ S => (ga ρ S).bind fun x S1 => (gb ρ S1).bind fun y S2 => R.of (f S2 x y) S2) :=
  PE.imp h fun σ H Q ⟨ρ, w, e, s, he, h⟩ => by
    subst e
    rw [hte]
    refine ⟨ρ, w, rfl, s, he, ok_seq h fun x S1 v w1 _ h1 n1 r1 => tE_at n1 he (ok_seq h1 fun y S2 u w2 _ h2 n2 r2 => ?_)⟩
    cases q : f S2 x y with
    | none => rw [q] at h2; exact h2.elim
    | some z =>
      rw [q] at h2
      have eS := n2.S
      subst eS
      exact hr w2 x y z v u Q n2.r (n2.g.repW r1) r2 q h2

/-! ### reading plain data, whoever's it is -/
abbrev nil : Addr → Prop := fun _ => False
theorem rep_nil {H : Hp} {ow : Addr → Prop} {p : P} {v : V} (h : rep G H ow p v) : rep G H nil p v := rep_stay (fun b o e _ => ⟨e, fun z => z⟩) p v h
theorem reps_nil {H : Hp} {ow : Addr → Prop} {p : List P} {v : List V} (h : rep.reps G H ow p v) : rep.reps G H nil p v := rep_stay.go (fun b o e _ => ⟨e, fun z => z⟩) p v h
theorem pureW_some {x : W} {p : P} (h : pureW x = some p) : x = .p p := by
  cases x with
  | p q => cases h; rfl
  | c k => cases h
  | b q => cases h
theorem pureWs_rep {w : Wd} : ∀ {xs : List W} {ps : List P} {vs : List V}, pureWs xs = some ps → repWs G w xs vs → rep.reps G w.H w.ow ps vs
  | [], ps, vs, h, r => by cases h; exact r
  | x :: xs, ps, vs, h, ⟨v, t, e, r1, r2⟩ => by
    unfold pureWs at h
    cases h1 : pureW x with
    | none => rw [h1] at h; cases h
    | some p =>
      cases h2 : pureWs xs with
      | none => rw [h1, h2] at h; cases h
      | some qs =>
        rw [h1, h2] at h
        cases h
        rw [pureW_some h1] at r1
        exact ⟨v, t, e, r1, pureWs_rep h2 r2⟩
theorem pureF_rep {w : Wd} : ∀ {xs : List (Str × W)} {ps : List (Str × P)} {vs : List (Str × V)}, pureF xs = some ps → repWf G w xs vs → rep.repf G w.H w.ow ps vs
  | [], ps, vs, h, r => by cases h; exact r
  | (f, x) :: xs, ps, vs, h, ⟨v, t, e, r1, r2⟩ => by
    unfold pureF at h
    cases h1 : pureW x with
    | none => rw [h1] at h; cases h
    | some p =>
      cases h2 : pureF xs with
      | none => rw [h1, h2] at h; cases h
      | some qs =>
        rw [h1, h2] at h
        cases h
        rw [pureW_some h1] at r1
        exact ⟨v, t, e, r1, pureF_rep h2 r2⟩
theorem pureK_rep {w : Wd} : ∀ {xs : List (P × W)} {ps : List (P × P)} {vs : List (Key × V)}, pureK xs = some ps → repWk G w xs vs → rep.repk G w.H w.ow ps vs
  | [], ps, vs, h, r => by cases h; exact r
  | (f, x) :: xs, ps, vs, h, ⟨j, v, t, e, k, r1, r2⟩ => by
    unfold pureK at h
    cases h1 : pureW x with
    | none => rw [h1] at h; cases h
    | some p =>
      cases h2 : pureK xs with
      | none => rw [h1, h2] at h; cases h
      | some qs =>
        rw [h1, h2] at h
        cases h
        rw [pureW_some h1] at r1
        exact ⟨j, v, t, e, k, r1, pureK_rep h2 r2⟩
theorem view_rep {w : Wd} {x : W} {v : V} {p : P} (s : SR G w) (r : repW G w x v) (h : view w.S x = some p) : rep G w.H nil p v := by
  cases x with
  | p q => cases h; exact rep_nil r
  | b q => cases h; exact rep_nil (show rep G w.H w.hot _ v from r)
  | c k =>
    obtain ⟨a, ha, e⟩ := r
    have h : (match w.S[k]? with | some c => pureC c | none => none) = some p := h
    cases hc : w.S[k]? with
    | none => rw [hc] at h; cases h
    | some c =>
      rw [hc] at h
      have q := s.cell k a c ha hc
      have nn : ∀ {b : Addr} {o : HO}, w.H b = some o → w.H b = some o ∧ ¬ nil b := fun e => ⟨e, fun z => z⟩
      cases c with
      | lst xs =>
        obtain ⟨vs, hv, rv⟩ := q
        have h : (pureWs xs).map P.lst = some p := h
        cases hp : pureWs xs with
        | none => rw [hp] at h; cases h
        | some ps =>
          rw [hp] at h
          cases h
          exact ⟨a, vs, e, ⟨hv, fun z => z⟩, reps_nil (pureWs_rep hp rv)⟩
      | dct kvs =>
        obtain ⟨vs, hv, rv⟩ := q
        have h : (pureK kvs).map P.dct = some p := h
        cases hp : pureK kvs with
        | none => rw [hp] at h; cases h
        | some ps =>
          rw [hp] at h
          cases h
          exact ⟨a, vs, e, hv, fun z => z, rep_stay.gok (fun b o e _ => ⟨e, fun z => z⟩) _ _ (pureK_rep hp rv)⟩
      | ins c fs =>
        obtain ⟨dx, vs, hv, rv⟩ := q
        have h : (pureF fs).map (P.ins c) = some p := h
        cases hp : pureF fs with
        | none => rw [hp] at h; cases h
        | some ps =>
          rw [hp] at h
          cases h
          exact ⟨a, dx, vs, e, hv, fun z => z, rep_stay.gof (fun b o e _ => ⟨e, fun z => z⟩) _ _ (pureF_rep hp rv)⟩
      | tab _ _ => cases h
      | dead => cases h

/-! ### arithmetic -/
def bin2 (op : Operator) (S : Store) (x y : W) : Option W := match view S x, view S y with
  | some p, some q => (binP op p q).map W.p
  | _, _ => none
/-- a result that is a plain value without an object -/
theorem ok_flat {w : Wd} {p : P} {Q : VK} (s : SR G w) (hp : flatP p = true) (h : ∀ t w', Nx G w w' w.S → repW G w' (.p p) t → Q t w'.H) : Q (flatV G p) w.H := h _ w (Nx.refl s) (rep_flat hp)
theorem view2 {f : P → P → Option W} {S : Store} {x y : W} {z : W} (h : (match view S x, view S y with | some p, some q => f p q | _, _ => none) = some z) : ∃ p q, view S x = some p ∧ view S y = some q ∧ f p q = some z := by
  cases h1 : view S x with
  | none => rw [h1] at h; cases h
  | some p =>
    cases h2 : view S y with
    | none => rw [h1, h2] at h; cases h
    | some q =>
      rw [h1, h2] at h
      exact ⟨p, q, rfl, rfl, h⟩
/-- a rule of two flat values with a flat answer -/
theorem op2_flat {f : P → P → Option P} {r : R2} (hr : ∀ p q z H Q, f p q = some z → flatP p = true ∧ flatP q = true ∧ flatP z = true ∧ (Q (flatV G z) H → r (flatV G p) (flatV G q) H Q)) :
    Op2 G X (fun S x y => match view S x, view S y with | some p, some q => (f p q).map W.p | _, _ => none) r := by
  intro w x y z v u Q s rx ry h k
  obtain ⟨p, q, h1, h2, h3⟩ := view2 (f := fun p q => (f p q).map W.p) h
  cases h4 : f p q with
  | none => rw [h4] at h3; cases h3
  | some t =>
    rw [h4] at h3
    cases h3
    obtain ⟨fp, fq, ft, hh⟩ := hr p q t w.H Q h4
    rw [rep_flat_eq fp (view_rep s rx h1), rep_flat_eq fq (view_rep s ry h2)]
    exact hh (ok_flat s ft k)
/-- // by what is not 0, of less than 9000 bits -/
def CDivV (_ j : Int) : Prop := j ≠ 0 ∧ j.natAbs.log2 < 9000
theorem op_fdivV : OpR X (binaryOp .FloorDiv) (rI CDivV fun i j => .int (i.fdiv j)) := opI fun _ _ _ _ _ _ _ hc q => floordiv_int hc.1 q (.inl (PyProof.noPylong_of_log2 hc.2))
/-- the rules for + - * // % ** -/
def rBin : Operator → R2
  | .Add => fun x y H Q => (∃ i j, x = .int i ∧ y = .int j ∧ Q (.int (i + j)) H) ∨ (∃ i j, x = .str i ∧ y = .str j ∧ i.length + j.length ≤ sizeLine ∧ Q (.str (i ++ j)) H)
  | .Sub => rI0 fun i j => .int (i - j)
  | .Mult => rI CMulX fun i j => .int (i * j)
  | .FloorDiv => rI CDivV fun i j => .int (i.fdiv j)
  | .Mod => rI (fun _ j => j ≠ 0) fun i j => .int (i.fmod j)
  | .Pow => rI CPow fun i j => .int (i ^ j.toNat)
  | _ => fun _ _ _ _ => False
theorem rBin_ok (op : Operator) : OpR X (binaryOp op) (rBin op) := by
  cases op with
  | Add => exact OpR.or op_add op_add_str
  | Sub => exact op_sub
  | Mult => exact op_mulX
  | FloorDiv => exact op_fdivV
  | Mod => exact op_modN
  | Pow => exact op_pow
  | _ => intro pins s σ H x y v u Q I rx ry h; exact h.elim
theorem bin2_ok (op : Operator) : Op2 G X (bin2 op) (rBin op) := by
  refine op2_flat (f := binP op) fun p q z H Q h => ?_
  cases op <;> cases p <;> cases q <;> first | (cases h; done) | skip
  all_goals (simp only [binP] at h)
  all_goals first
    | (cases h; done)
    | skip
  · cases h; exact ⟨rfl, rfl, rfl, fun k => .inl ⟨_, _, rfl, rfl, k⟩⟩
  · split at h
    · cases h; exact ⟨rfl, rfl, rfl, fun k => .inr ⟨_, _, rfl, rfl, by assumption, k⟩⟩
    · cases h
  · cases h; exact ⟨rfl, rfl, rfl, fun k => ⟨_, _, rfl, rfl, k⟩⟩
  · split at h
    · rename_i c
      cases h
      refine ⟨rfl, rfl, rfl, fun k => ⟨_, _, rfl, rfl, ?_, k⟩⟩
      simp only [okMul, decide_eq_true_eq] at c
      exact c
    · cases h
  · split at h
    · rename_i c
      cases h
      refine ⟨rfl, rfl, rfl, fun k => ⟨_, _, rfl, rfl, ?_, k⟩⟩
      simpa using c
    · cases h
  · split at h
    · rename_i c
      cases h
      refine ⟨rfl, rfl, rfl, fun k => ⟨_, _, rfl, rfl, ?_, k⟩⟩
      simpa [CPow] using c
    · cases h
  · split at h
    · rename_i c
      cases h
      refine ⟨rfl, rfl, rfl, fun k => ⟨_, _, rfl, rfl, ?_, k⟩⟩
      simpa [CDivV] using c
    · cases h
end
end FD

set_option Elab.async false
set_option linter.all false
set_option autoImplicit false
set_option maxRecDepth 100000
set_option maxHeartbeats 2000000
/-! FDc: comparisons, tests, displays, items, fields. -/
namespace FD
open PySem PySem.Spec PyProof.Rows L2
section
variable {G : Ga} {Wx : WX} {X : Cx}

/-! ### comparisons -/
theorem toD_dp (hK : X.K = G.K) {H : Hp} : ∀ (p : P) (v : V) (d : PyData), rep G H nil p v → toD p = some d → Dp X.K H v d
  | .non, v, d, r, h => by cases h; rw [show v = _ from r]; exact .non
  | .bl b, v, d, r, h => by cases h; rw [show v = _ from r]; exact .bl b
  | .int b, v, d, r, h => by cases h; rw [show v = _ from r]; exact .int b
  | .str b, v, d, r, h => by cases h; rw [show v = _ from r]; exact .str b
  | .tup xs, v, d, ⟨a, vs, e, t, rs⟩, h => by
    unfold toD at h
    cases q : toDs xs with
    | none => rw [q] at h; cases h
    | some ds =>
      rw [q] at h
      cases h
      rw [e]
      exact .tup (by rw [hK]; exact t.sq) (go xs vs ds rs q)
  | .lst xs, v, d, ⟨a, vs, e, t, rs⟩, h => by
    unfold toD at h
    cases q : toDs xs with
    | none => rw [q] at h; cases h
    | some ds =>
      rw [q] at h
      cases h
      rw [e]
      exact .lst (by rw [hK]; exact t.sq) (go xs vs ds rs q)
  | .fz _, _, _, _, h => nomatch (show (none : Option PyData) = some _ from h)
  | .ty _, _, _, _, h => nomatch (show (none : Option PyData) = some _ from h)
  | .glb _, _, _, _, h => nomatch (show (none : Option PyData) = some _ from h)
  | .dct _, _, _, _, h => nomatch (show (none : Option PyData) = some _ from h)
  | .ins _ _, _, _, _, h => nomatch (show (none : Option PyData) = some _ from h)
where
  go : ∀ (xs : List P) (vs : List V) (ds : List PyData), rep.reps G H nil xs vs → toDs xs = some ds → DpAll X.K H vs ds
  | [], vs, ds, r, h => by cases h; rw [show vs = [] from r]; exact .nil
  | x :: xs, vs, ds, ⟨v, t, e, r1, r2⟩, h => by
    unfold toDs at h
    cases h1 : toD x with
    | none => rw [h1] at h; cases h
    | some d =>
      cases h2 : toDs xs with
      | none => rw [h1, h2] at h; cases h
      | some es =>
        rw [h1, h2] at h
        cases h
        rw [e]
        exact .cons (toD_dp hK x v d r1 h1) (go xs t es r2 h2)
theorem isNon_iff {H : Hp} {ow : Addr → Prop} {p : P} {v : V} (r : rep G H ow p v) : decide (v = .non) = isNonP p := by
  cases p with
  | non => rw [show v = _ from r]; rfl
  | bl b => rw [show v = _ from r]; rfl
  | int b => rw [show v = _ from r]; rfl
  | str b => rw [show v = _ from r]; rfl
  | ty b => rw [show v = _ from r]; rfl
  | glb b => rw [show v = _ from r]; rfl
  | tup xs => obtain ⟨a, vs, e, _⟩ := r; rw [e]; rfl
  | lst xs => obtain ⟨a, vs, e, _⟩ := r; rw [e]; rfl
  | fz xs => obtain ⟨a, vs, e, _⟩ := r; rw [e]; rfl
  | dct xs => obtain ⟨a, vs, e, _⟩ := r; rw [e]; rfl
  | ins c xs => obtain ⟨a, dx, vs, e, _⟩ := r; rw [e]; rfl
def rCmp (K : PySem.W.Frag) : CmpOp → R2
  | .Lt => rI0 fun i j => .bl (decide (i < j))
  | .LtE => rI0 fun i j => .bl (decide (i ≤ j))
  | .Gt => rI0 fun i j => .bl (decide (j < i))
  | .GtE => rI0 fun i j => .bl (decide (j ≤ i))
  | .Eq => rEqD K
  | .NotEq => rNeD K
  | .Is => fun x y H Q => (y = .non ∧ Q (.bl (decide (x = .non))) H) ∨ ∃ a b, x = .bl a ∧ y = .bl b ∧ Q (.bl (a == b)) H
  | .IsNot => fun x y H Q => y = .non ∧ Q (.bl (!decide (x = .non))) H
  | _ => fun _ _ _ _ => False
theorem rCmp_ok (hu : X.A.units + 64 < cLine) (op : CmpOp) : OpR X (compareOp op) (rCmp X.K op) := by
  cases op with
  | Lt => exact op_lt
  | LtE => exact op_le
  | Gt => exact op_gt
  | GtE => exact op_ge
  | Eq => exact op_eqD hu
  | NotEq => exact op_neD hu
  | Is =>
    intro pins s σ H x y v u Q I rx ry h
    rcases h with h | ⟨a, b, rfl, rfl, q⟩
    · exact op_isN pins s σ H x y v u Q I rx ry h
    · cases rx
      cases ry
      by_cases e : a = b
      · subst e
        exact PySem.wpAny_is_self (by rfl) (fin_bl I q (by simp))
      · exact PySem.wpAny_is_other (by rfl) (by intro z; exact e (by injection z)) (fin_bl I q (by simp [e]))
  | IsNot => exact op_notN
  | _ => intro pins s σ H x y v u Q I rx ry h; exact h.elim
/-- what a comparison's rule gives, by its values -/
def CmpG (G : Ga) (f : P → P → Option Bool) (r : R2) : Prop := ∀ (H : Hp) (p q : P) (k : Bool) (v u : V) (Q : VK), rep G H nil p v → rep G H nil q u → f p q = some k → Q (.bl k) H → r v u H Q
theorem rCmp_g (hK : X.K = G.K) (op : CmpOp) : CmpG G (cmpP op) (rCmp X.K op) := by
  intro H p q k v u Q rp rq h hQ
  have int2 : ∀ {i j : Int} {b : Bool}, p = .int i → q = .int j → b = k → ∃ i' j', v = .int i' ∧ u = .int j' ∧ i' = i ∧ j' = j := fun {i j b} h1 h2 _ => by
    subst h1; subst h2
    exact ⟨i, j, rp, rq, rfl, rfl⟩
  have eqs : ∀ {b : Bool}, eqP p q = some b → ∃ d e, Dp X.K H v d ∧ Dp X.K H u e ∧ SeqAt.shaped d = true ∧ SeqAt.shaped e = true ∧ PyData.eqv d e = b := fun {b} h => by
    unfold eqP at h
    cases h1 : toD p with
    | none => rw [h1] at h; cases h
    | some d =>
      cases h2 : toD q with
      | none => rw [h1, h2] at h; cases h
      | some e =>
        rw [h1, h2] at h
        dsimp only at h
        split at h
        · rename_i c
          obtain ⟨c1, c2⟩ := Bool.and_eq_true_iff.mp c
          cases h
          exact ⟨d, e, toD_dp hK p v d rp h1, toD_dp hK q u e rq h2, c1, c2, rfl⟩
        · cases h
  cases op with
  | Lt =>
    cases p <;> cases q <;> first | (cases h; done) | skip
    cases h; exact ⟨_, _, rp, rq, hQ⟩
  | LtE =>
    cases p <;> cases q <;> first | (cases h; done) | skip
    cases h; exact ⟨_, _, rp, rq, hQ⟩
  | Gt =>
    cases p <;> cases q <;> first | (cases h; done) | skip
    cases h; exact ⟨_, _, rp, rq, hQ⟩
  | GtE =>
    cases p <;> cases q <;> first | (cases h; done) | skip
    cases h; exact ⟨_, _, rp, rq, hQ⟩
  | Eq =>
    obtain ⟨d, e, h1, h2, h3, h4, h5⟩ := eqs (show eqP p q = some k from h)
    refine ⟨d, e, h1, h2, h3, h4, ?_⟩
    rw [h5]; exact hQ
  | NotEq =>
    have h : (eqP p q).map (!·) = some k := h
    cases z : eqP p q with
    | none => rw [z] at h; cases h
    | some b =>
      rw [z] at h
      cases h
      obtain ⟨d, e, h1, h2, h3, h4, h5⟩ := eqs z
      refine ⟨d, e, h1, h2, h3, h4, ?_⟩
      rw [h5]; exact hQ
  | Is =>
    cases q with
    | non =>
      have h : some (isNonP p) = some k := by cases p <;> exact h
      cases h
      refine .inl ⟨rq, ?_⟩
      rw [isNon_iff rp]; exact hQ
    | bl b =>
      cases p <;> first | (cases h; done) | skip
      cases h
      exact .inr ⟨_, _, rp, rq, hQ⟩
    | _ => cases p <;> cases h
  | IsNot =>
    cases q with
    | non =>
      cases h
      refine ⟨rq, ?_⟩
      rw [isNon_iff rp]; exact hQ
    | _ => cases p <;> cases h
  | _ => cases p <;> cases q <;> cases h
def cmp2 (f : P → P → Option Bool) (S : Store) (x y : W) : Option W := match view S x, view S y with
  | some p, some q => (f p q).map fun k => W.p (.bl k)
  | _, _ => none
theorem cmpG_op2 {f : P → P → Option Bool} {r : R2} (h : CmpG G f r) : Op2 G X (cmp2 f) r := by
  intro w x y z v u Q s rx ry hz k
  obtain ⟨p, q, h1, h2, h3⟩ := view2 (f := fun p q => (f p q).map fun k => W.p (.bl k)) hz
  cases h4 : f p q with
  | none => rw [h4] at h3; cases h3
  | some t =>
    rw [h4] at h3
    cases h3
    exact h w.H p q t v u Q (view_rep s rx h1) (view_rep s ry h2) h4 (k _ w (Nx.refl s) rfl)
/-- a value-match seen as a step of a store -/
theorem match_of {α : Type} {S : Store} {x y : W} {f : P → P → Option α} {g : α → W} : (match view S x, view S y with | some p, some q => R.of ((f p q).map g) S | _, _ => .bad) = R.of (match view S x, view S y with | some p, some q => (f p q).map g | _, _ => none) S := by
  cases view S x <;> cases view S y <;> rfl
theorem evE_bin (O : Or) (op : Operator) (a b : E) : evE O (.bin op a b) = fun ρ S => (evE O a ρ S).bind fun x S1 => (evE O b ρ S1).bind fun y S2 => R.of (bin2 op S2 x y) S2 := by
  funext ρ S
  show (evE O a ρ S).bind _ = _
  congr 1
  funext x S1
  congr 1
  funext y S2
  exact match_of (f := binP op) (g := W.p)
theorem evE_cmp (O : Or) (op : CmpOp) (a b : E) : evE O (.cmp op a b) = fun ρ S => (evE O a ρ S).bind fun x S1 => (evE O b ρ S1).bind fun y S2 => R.of (cmp2 (cmpP op) S2 x y) S2 := by
  funext ρ S
  show (evE O a ρ S).bind _ = _
  congr 1
  funext x S1
  congr 1
  funext y S2
  exact match_of (f := cmpP op) (g := fun k => W.p (.bl k))
theorem fe_bin {O : Or} {op : Operator} {a b : E} {ea eb : Expr} {pos : Pos} (ha : PE X ea (tE G Wx (evE O a))) (hb : PE X eb (tE G Wx (evE O b))) : PE X (.BinOp ea op eb pos) (tE G Wx (evE O (.bin op a b))) := by
  rw [evE_bin]
  exact fe_op2 (te := tOp (rBin op)) (fun _ _ => rfl) (pe_op (rBin_ok op) ha hb) (bin2_ok op)
theorem fe_cmp {O : Or} {op : CmpOp} {a b : E} {ea eb : Expr} {pos : Pos} (hK : X.K = G.K) (hu : X.A.units + 64 < cLine) (ha : PE X ea (tE G Wx (evE O a))) (hb : PE X eb (tE G Wx (evE O b))) (hm : behindInMarks op eb = false) :
    PE X (.Compare ea [op] [eb] pos) (tE G Wx (evE O (.cmp op a b))) := by
  rw [evE_cmp]
  exact fe_op2 (te := tOp (rCmp X.K op)) (fun _ _ => rfl) (pe_cmpR (rCmp_ok hu op) ha hb hm) (cmpG_op2 (rCmp_g hK op))
/-- .. as a test -/
theorem ft_cmp {O : Or} {op : CmpOp} {a b : E} {ea eb : Expr} {pos : Pos} (hK : X.K = G.K) (hu : X.A.units + 64 < cLine) (ha : PE X ea (tE G Wx (evE O a))) (hb : PE X eb (tE G Wx (evE O b))) (hm : behindInMarks op eb = false) :
    PT X (.Compare ea [op] [eb] pos) (tT G Wx (evT O (.cmp op a b))) :=
  PT.imp (pt_cmpR (rCmp_ok hu op) ha hb hm) fun σ H Q ⟨ρ, w, e, s, he, h⟩ => by
    subst e
    refine ⟨ρ, w, rfl, s, he, ok_seqB h fun x S1 v w1 _ h1 n1 r1 => tE_at n1 he (ok_seqB h1 fun y S2 u w2 _ h2 n2 r2 => ?_)⟩
    have eS := n2.S
    subst eS
    cases p1 : view w2.S x with
    | none => rw [p1] at h2; exact h2.elim
    | some p =>
      cases p2 : view w2.S y with
      | none => rw [p1, p2] at h2; exact h2.elim
      | some q =>
        rw [p1, p2] at h2
        have h2 : OkB G Wx (R.of (cmpP op p q) w2.S) w2 σ Q := h2
        cases p3 : cmpP op p q with
        | none => rw [p3] at h2; exact h2.elim
        | some k =>
          rw [p3] at h2
          exact rCmp_g hK op w2.H p q k v u _ (view_rep n2.r (n2.g.repW r1) p1) (view_rep n2.r r2 p2) p3 ⟨k, rfl, h2 w2 (Nx.refl n2.r)⟩

/-! ### two comparisons in a row -/
theorem chain_at {α : Type} {O : Or} {o1 o2 : CmpOp} {c : E} {σ : L2.St} {ρ : Env} {w2 : Wd} {x y : W} {v u : V} {F : R α → Wd → Prop} {mk : Bool → α} {tc : TE} {Q : VK} (hK : X.K = G.K) (s2 : SR G w2) (he : RepE G w2 σ ρ) (rx : repW G w2 x v) (ry : repW G w2 y u)
    (hbad : ∀ w, ¬ F .bad w) (hF : ∀ k w, SR G w → F (.ok (mk k) w.S) w → Q (.bl k) w.H)
    (hc : ∀ Q', F ((evE O c ρ w2.S).bind fun z S3 => R.of ((pcmp o2 S3 y z).map mk) S3) w2 → (∀ z S3 t w3, Nx G w2 w3 S3 → repW G w3 z t → F (R.of ((pcmp o2 S3 y z).map mk) S3) w3 → Q' t w3.H) → tc σ w2.H Q')
    (h : F (match view w2.S x, view w2.S y with
      | some p, some q => match cmpP o1 p q with
        | some true => (evE O c ρ w2.S).bind fun z S3 => R.of ((pcmp o2 S3 y z).map mk) S3
        | some false => .ok (mk false) w2.S
        | none => .bad
      | _, _ => .bad) w2) :
    rCmp X.K o1 v u w2.H fun z H3 => ∃ k, z = .bl k ∧ (if k = true then tc σ H3 fun w' H4 => rCmp X.K o2 u w' H4 Q else Q (.bl false) H3) := by
  cases p1 : view w2.S x with
  | none => rw [p1] at h; exact (hbad _ h).elim
  | some p =>
    cases p2 : view w2.S y with
    | none => rw [p1, p2] at h; exact (hbad _ h).elim
    | some q =>
      rw [p1, p2] at h
      dsimp only at h
      cases p3 : cmpP o1 p q with
      | none => rw [p3] at h; exact (hbad _ h).elim
      | some k =>
        rw [p3] at h
        refine rCmp_g hK o1 w2.H p q k v u _ (view_rep s2 rx p1) (view_rep s2 ry p2) p3 ⟨k, rfl, ?_⟩
        cases k with
        | false =>
          rw [if_neg Bool.false_ne_true]
          exact hF false w2 s2 h
        | true =>
          rw [if_pos rfl]
          refine hc _ h fun z S3 t w3 n3 r3 h3 => ?_
          have eS := n3.S
          subst eS
          cases y with
          | c _ => exact (hbad _ h3).elim
          | b _ => exact (hbad _ h3).elim
          | p q' =>
            have h3 : F (R.of ((match view w3.S z with | some r => cmpP o2 q' r | none => none).map mk) w3.S) w3 := by
              have e : pcmp o2 w3.S (.p q') z = (match view w3.S z with | some r => cmpP o2 q' r | none => none) := by
                unfold pcmp
                cases view w3.S z <;> rfl
              rw [← e]; exact h3
            cases p4 : view w3.S z with
            | none => rw [p4] at h3; exact (hbad _ h3).elim
            | some r =>
              rw [p4] at h3
              dsimp only at h3
              cases p5 : cmpP o2 q' r with
              | none => rw [p5] at h3; exact (hbad _ h3).elim
              | some k =>
                rw [p5] at h3
                exact rCmp_g hK o2 w3.H q' r k u t _ (rep_nil (n3.g.rep ry)) (view_rep n3.r r3 p4) p5 (hF k w3 n3.r h3)
theorem fe_chn {O : Or} {o1 o2 : CmpOp} {a b c : E} {ea eb ec : Expr} {pos : Pos} (hK : X.K = G.K) (hu : X.A.units + 64 < cLine) (ha : PE X ea (tE G Wx (evE O a))) (hb : PE X eb (tE G Wx (evE O b))) (hc : PE X ec (tE G Wx (evE O c)))
    (hm : lastMarks [o1, o2] [eb, ec] = false) : PE X (.Compare ea [o1, o2] [eb, ec] pos) (tE G Wx (evE O (.chn o1 o2 a b c))) :=
  PE.imp (pe_chain (rCmp_ok hu o1) (rCmp_ok hu o2) ha hb hc hm) fun σ H Q ⟨ρ, w, e, s, he, h⟩ => by
    subst e
    refine ⟨ρ, w, rfl, s, he, ok_seq h fun x S1 v w1 _ h1 n1 r1 => tE_at n1 he (ok_seq h1 fun y S2 u w2 _ h2 n2 r2 => ?_)⟩
    have eS := n2.S
    subst eS
    exact chain_at (F := fun g w => Ok G Wx g w σ Q) (mk := fun k => W.p (.bl k)) hK n2.r ((n1.trans n2).g.env he) (n2.g.repW r1) r2 (fun _ z => z) (fun k w s q => q _ w (Nx.refl s) rfl)
      (fun Q' h3 k3 => ⟨ρ, w2, rfl, n2.r, (n1.trans n2).g.env he, ok_seq h3 fun z S3 t w3 _ h4 n4 r4 => k3 z S3 t w3 n4 r4 h4⟩) h2
theorem ft_chn {O : Or} {o1 o2 : CmpOp} {a b c : E} {ea eb ec : Expr} {pos : Pos} (hK : X.K = G.K) (hu : X.A.units + 64 < cLine) (ha : PE X ea (tE G Wx (evE O a))) (hb : PE X eb (tE G Wx (evE O b))) (hc : PE X ec (tE G Wx (evE O c)))
    (hm : lastMarks [o1, o2] [eb, ec] = false) : PT X (.Compare ea [o1, o2] [eb, ec] pos) (tT G Wx (evT O (.chn o1 o2 a b c))) :=
  PT.imp (pt_chain (rCmp_ok hu o1) (rCmp_ok hu o2) ha hb hc hm) fun σ H Q ⟨ρ, w, e, s, he, h⟩ => by
    subst e
    refine ⟨ρ, w, rfl, s, he, ok_seqB h fun x S1 v w1 _ h1 n1 r1 => tE_at n1 he (ok_seqB h1 fun y S2 u w2 _ h2 n2 r2 => ?_)⟩
    have eS := n2.S
    subst eS
    have mid : ∀ (o : Option Bool) (S : Store), R.of (o.map id) S = R.of o S := fun o S => by cases o <;> rfl
    exact chain_at (F := fun g w => OkB G Wx g w σ Q) (mk := id) (Q := fun z H => ∃ k, z = .bl k ∧ Q k H) hK n2.r ((n1.trans n2).g.env he) (n2.g.repW r1) r2 (fun _ z => z) (fun k w s q => ⟨k, rfl, q w (Nx.refl s)⟩)
      (fun Q' h3 k3 => ⟨ρ, w2, rfl, n2.r, (n1.trans n2).g.env he, ok_seqB h3 fun z S3 t w3 _ h4 n4 r4 => k3 z S3 t w3 n4 r4 h4⟩) (by simp only [mid]; exact h2)

/-! ### and, or, not, if -/
theorem fe_and {O : Or} {a b : E} {ea eb : Expr} {rest : List Expr} {pos : Pos} (ha : PE X ea (tE G Wx (evE O a))) (hb : PE X (.BoolOp .And (eb :: rest) pos) (tE G Wx (evE O b))) :
    PE X (.BoolOp .And (ea :: eb :: rest) pos) (tE G Wx (evE O (.and a b))) :=
  PE.imp (pe_and ha hb) fun σ H Q ⟨ρ, w, e, s, he, h⟩ => by
    subst e
    refine ⟨ρ, w, rfl, s, he, ok_seq h fun x S1 v w1 _ h1 n1 r1 => ?_⟩
    have eS := n1.S
    subst eS
    rcases x with p | k | k
    · cases p with
      | bl k =>
        refine ⟨k, r1, ?_⟩
        cases k with
        | true => rw [if_pos rfl]; exact ⟨ρ, w1, rfl, n1.r, n1.g.env he, h1⟩
        | false => rw [if_neg Bool.false_ne_true]; exact h1 _ w1 (Nx.refl n1.r) rfl
      | _ => exact h1.elim
    · exact h1.elim
    · exact h1.elim
theorem fe_or {O : Or} {a b : E} {ea eb : Expr} {rest : List Expr} {pos : Pos} (ha : PE X ea (tE G Wx (evE O a))) (hb : PE X (.BoolOp .Or (eb :: rest) pos) (tE G Wx (evE O b))) :
    PE X (.BoolOp .Or (ea :: eb :: rest) pos) (tE G Wx (evE O (.or a b))) :=
  PE.imp (pe_or ha hb) fun σ H Q ⟨ρ, w, e, s, he, h⟩ => by
    subst e
    refine ⟨ρ, w, rfl, s, he, ok_seq h fun x S1 v w1 _ h1 n1 r1 => ?_⟩
    have eS := n1.S
    subst eS
    rcases x with p | k | k
    · cases p with
      | bl k =>
        refine ⟨k, r1, ?_⟩
        cases k with
        | false => rw [if_neg Bool.false_ne_true]; exact ⟨ρ, w1, rfl, n1.r, n1.g.env he, h1⟩
        | true => rw [if_pos rfl]; exact h1 _ w1 (Nx.refl n1.r) rfl
      | _ => exact h1.elim
    · exact h1.elim
    · exact h1.elim
theorem fe_not {O : Or} {a : E} {ea : Expr} {pos : Pos} (ha : PE X ea (tE G Wx (evE O a))) : PE X (.UnaryOp .Not ea pos) (tE G Wx (evE O (.not a))) :=
  PE.imp (pe_not ha) fun σ H Q ⟨ρ, w, e, s, he, h⟩ => by
    subst e
    refine ⟨ρ, w, rfl, s, he, ok_seq h fun x S1 v w1 _ h1 n1 r1 => ?_⟩
    have eS := n1.S
    subst eS
    rcases x with p | k | k
    · cases p with
      | bl k => exact ⟨k, r1, h1 _ w1 (Nx.refl n1.r) rfl⟩
      | _ => exact h1.elim
    · exact h1.elim
    · exact h1.elim
theorem fe_neg {O : Or} {a : E} {ea : Expr} {pos : Pos} (ha : PE X ea (tE G Wx (evE O a))) : PE X (.UnaryOp .USub ea pos) (tE G Wx (evE O (.neg a))) :=
  PE.imp (pe_un un_neg ha) fun σ H Q ⟨ρ, w, e, s, he, h⟩ => by
    subst e
    refine ⟨ρ, w, rfl, s, he, ok_seq h fun x S1 v w1 _ h1 n1 r1 => ?_⟩
    have eS := n1.S
    subst eS
    rcases x with p | k | k
    · cases p with
      | int k => exact ⟨k, r1, h1 _ w1 (Nx.refl n1.r) rfl⟩
      | _ => exact h1.elim
    · exact h1.elim
    · exact h1.elim
theorem fe_ife {O : Or} {t : T} {a b : E} {et ea eb : Expr} {pos : Pos} (ht : PT X et (tT G Wx (evT O t))) (ha : PE X ea (tE G Wx (evE O a))) (hb : PE X eb (tE G Wx (evE O b))) : PE X (.IfExp et ea eb pos) (tE G Wx (evE O (.ife t a b))) :=
  PE.imp (pe_ifExp ht ha hb) fun σ H Q ⟨ρ, w, e, s, he, h⟩ => by
    subst e
    refine ⟨ρ, w, rfl, s, he, okB_seq h fun k S1 w1 _ h1 n1 => ?_⟩
    cases k with
    | true => rw [if_pos rfl] at h1 ⊢; exact tE_at n1 he h1
    | false => rw [if_neg Bool.false_ne_true] at h1 ⊢; exact tE_at n1 he h1
theorem tru_at (hK : X.K = G.K) {H : Hp} {p : P} {v : V} {k : Bool} (r : rep G H nil p v) (h : truP p = some k) : TruV X.K v H k := by
  have emp : ∀ {xs : List P} {vs : List V}, rep.reps G H nil xs vs → (!xs.isEmpty) = !vs.isEmpty := fun {xs vs} r => by
    cases xs with
    | nil => rw [show vs = [] from r]; rfl
    | cons x xs => obtain ⟨v, t, e, _⟩ := r; rw [e]; rfl
  cases p with
  | non => rw [show v = _ from r]; cases h; rfl
  | bl b => rw [show v = _ from r]; cases h; rfl
  | int b => rw [show v = _ from r]; cases h; rfl
  | str b =>
    rw [show v = _ from r]
    have h : (if b.length ≤ sizeLine then some ((b.length : Int) != 0) else none) = some k := h
    split at h
    · cases h; exact ⟨by assumption, rfl⟩
    · cases h
  | ty b => cases h
  | glb b => cases h
  | fz b => cases h
  | tup xs =>
    obtain ⟨a, vs, e, t, rs⟩ := r
    cases h
    rw [e]
    exact .inr (.inl ⟨vs, by rw [hK]; exact t.sq, emp rs⟩)
  | lst xs =>
    obtain ⟨a, vs, e, t, rs⟩ := r
    cases h
    rw [e]
    exact .inl ⟨vs, by rw [hK]; exact t.sq, emp rs⟩
  | dct xs =>
    obtain ⟨a, vs, e, t, _, rs⟩ := r
    cases h
    rw [e]
    refine .inr (.inr ⟨vs, t, ?_⟩)
    cases xs with
    | nil => rw [show vs = [] from rs]; rfl
    | cons x xs => obtain ⟨k, v⟩ := x; obtain ⟨j, v, t, e, _⟩ := rs; rw [e]; rfl
  | ins c xs => cases h
theorem fw_and {O : Or} {a b : T} {ea eb : Expr} {rest : List Expr} {pos : Pos} (ha : PT X ea (tT G Wx (evT O a))) (hb : PW X (.BoolOp .And (eb :: rest) pos) (tT G Wx (evT O b))) :
    PW X (.BoolOp .And (ea :: eb :: rest) pos) (tT G Wx (evT O (.and a b))) := ⟨fun wh pins s σ H Q I h => (pw_and ha hb).run wh pins s σ H Q I (by
    obtain ⟨ρ, w, e, s, he, h⟩ := h
    subst e
    refine ⟨ρ, w, rfl, s, he, okB_seqB h fun k S1 w1 _ h1 n1 => ?_⟩
    cases k with
    | true => rw [if_pos rfl] at h1 ⊢; exact tT_at n1 he h1
    | false =>
      rw [if_neg Bool.false_ne_true] at h1 ⊢
      have eS := n1.S
      subst eS
      exact h1 w1 (Nx.refl n1.r))⟩
theorem fw_or {O : Or} {a b : T} {ea eb : Expr} {rest : List Expr} {pos : Pos} (ha : PT X ea (tT G Wx (evT O a))) (hb : PW X (.BoolOp .Or (eb :: rest) pos) (tT G Wx (evT O b))) :
    PW X (.BoolOp .Or (ea :: eb :: rest) pos) (tT G Wx (evT O (.or a b))) := ⟨fun wh pins s σ H Q I h => (pw_or ha hb).run wh pins s σ H Q I (by
    obtain ⟨ρ, w, e, s, he, h⟩ := h
    subst e
    refine ⟨ρ, w, rfl, s, he, okB_seqB h fun k S1 w1 _ h1 n1 => ?_⟩
    cases k with
    | false => rw [if_neg Bool.false_ne_true] at h1 ⊢; exact tT_at n1 he h1
    | true =>
      rw [if_pos rfl] at h1 ⊢
      have eS := n1.S
      subst eS
      exact h1 w1 (Nx.refl n1.r))⟩
theorem ft_not {O : Or} {a : T} {ea : Expr} {pos : Pos} (ha : PT X ea (tT G Wx (evT O a))) : PT X (.UnaryOp .Not ea pos) (tT G Wx (evT O (.not a))) :=
  PT.imp (pt_not ha) fun σ H Q ⟨ρ, w, e, s, he, h⟩ => by
    subst e
    refine ⟨ρ, w, rfl, s, he, okB_seqB h fun k S1 w1 _ h1 n1 => ?_⟩
    have eS := n1.S
    subst eS
    exact h1 w1 (Nx.refl n1.r)
end
end FD

set_option Elab.async false
set_option linter.all false
set_option autoImplicit false
set_option maxRecDepth 100000
set_option maxHeartbeats 2000000
/-! FDd: arguments, displays, items, fields, built-in functions. -/
namespace FD
open PySem PySem.Spec PyProof.Rows L2

/-! ### shapes of the text that the rules ask for -/
def notStar : PySem.Expr → Bool
  | .Starred _ _ => false
  | _ => true
def notStars : List PySem.Expr → Bool
  | [] => true
  | e :: r => notStar e && notStars r
theorem star_cons {e : PySem.Expr} {es : List PySem.Expr} {env : PySem.Env} (h : notStar e = true) : starEach (e :: es) env = (false, eval e env) :: starEach es env := by
  cases e <;> first | rfl | (cases h)
theorem star_none : ∀ {es : List PySem.Expr} {env : PySem.Env} {pos : Pos}, notStars es = true → (backTo pos (starEach es env)).any (·.1) = false
  | [], _, _, _ => rfl
  | e :: es, env, pos, h => by
    obtain ⟨h1, h2⟩ := Bool.and_eq_true_iff.mp (show (notStar e && notStars es) = true from h)
    rw [star_cons h1]
    show (false || (backTo pos (starEach es env)).any (·.1)) = false
    rw [star_none h2]; rfl

section
variable {G : Ga} {Wx : WX} {X : Cx}
theorem fa_nil {O : Or} : PA X [] (tA G Wx (evEs O .nil)) :=
  PA.imp pa_nil fun σ H Q ⟨ρ, w, e, s, he, h⟩ => by
    subst e
    exact h [] w (Nx.refl s) rfl
theorem fa_cons {O : Or} {a : E} {as : Es} {ea : PySem.Expr} {es : List PySem.Expr} (hs : notStar ea = true) (ha : PE X ea (tE G Wx (evE O a))) (hr : PA X es (tA G Wx (evEs O as))) : PA X (ea :: es) (tA G Wx (evEs O (.cons a as))) :=
  PA.imp (pa_cons ha hr (star_cons hs)) fun σ H Q ⟨ρ, w, e, s, he, h⟩ => by
    subst e
    refine ⟨ρ, w, rfl, s, he, ok_seqL h fun x S1 v w1 _ h1 n1 r1 => tA_at n1 he (okL_seqL h1 fun xs S2 vs w2 _ h2 n2 r2 => ?_)⟩
    have eS := n2.S
    subst eS
    exact h2 (v :: vs) w2 (Nx.refl n2.r) ⟨v, vs, rfl, n2.g.repW r1, r2⟩

/-- a new list or tuple of plain data -/
theorem new_lst {w : Wd} {ps : List P} {vs : List V} {p : Addr} (s : SR G w) (r : rep.reps G w.H w.ow ps vs) (h : w.H p = none) :
    Nx G w { w with H := upd w.H p (.lst vs) } w.S ∧ rep G (upd w.H p (.lst vs)) w.ow (.lst ps) (.ref p) := by
  have e := Gro.alloc (w := w) (o := .lst vs) h
  exact ⟨⟨rfl, s.alloc h, e⟩, p, vs, rfl, ⟨upd_same, s.fresh h⟩, rep_stay.go e.stay _ _ r⟩
theorem new_tup {w : Wd} {ps : List P} {vs : List V} {p : Addr} (s : SR G w) (r : rep.reps G w.H w.ow ps vs) (h : w.H p = none) :
    Nx G w { w with H := upd w.H p (.tup vs) } w.S ∧ rep G (upd w.H p (.tup vs)) w.ow (.tup ps) (.ref p) := by
  have e := Gro.alloc (w := w) (o := .tup vs) h
  exact ⟨⟨rfl, s.alloc h, e⟩, p, vs, rfl, .inl ⟨.inl upd_same, s.fresh h⟩, rep_stay.go e.stay _ _ r⟩
theorem fe_tup {O : Or} {as : Es} {es : List PySem.Expr} {k : Nat} {pos : Pos} (h : PA X es (tA G Wx (evEs O as))) : PE X (.Tuple es k pos) (tE G Wx (evE O (.tup as))) :=
  PE.imp (pe_tup h) fun σ H Q ⟨ρ, w, e, s, he, h⟩ => by
    subst e
    refine ⟨ρ, w, rfl, s, he, okL_seq h fun xs S1 vs w1 _ h1 n1 r1 => ?_⟩
    have eS := n1.S
    subst eS
    cases q : pureWs xs with
    | none => rw [q] at h1; exact h1.elim
    | some ps =>
      rw [q] at h1
      have r := pureWs_rep q r1
      have hl := reps_len r
      have h1 : Ok G Wx (if ps.length ≤ sizeLine then .ok (.p (.tup ps)) w1.S else .bad) w1 σ Q := h1
      by_cases c : ps.length ≤ sizeLine
      · rw [if_pos c] at h1
        refine ⟨by omega, fun p hp => ?_⟩
        obtain ⟨n2, r2⟩ := new_tup n1.r r hp
        exact h1 _ _ n2 r2
      · rw [if_neg c] at h1; exact h1.elim
theorem fe_lst {O : Or} {as : Es} {es : List PySem.Expr} {pos : Pos} (h : PA X es (tA G Wx (evEs O as))) : PE X (.List es pos) (tE G Wx (evE O (.lst as))) :=
  PE.imp (pe_lst h) fun σ H Q ⟨ρ, w, e, s, he, h⟩ => by
    subst e
    refine ⟨ρ, w, rfl, s, he, okL_seq h fun xs S1 vs w1 _ h1 n1 r1 => ?_⟩
    have eS := n1.S
    subst eS
    cases q : pureWs xs with
    | none => rw [q] at h1; exact h1.elim
    | some ps =>
      rw [q] at h1
      have r := pureWs_rep q r1
      have hl := reps_len r
      have h1 : Ok G Wx (if ps.length ≤ sizeLine then .ok (.p (.lst ps)) w1.S else .bad) w1 σ Q := h1
      by_cases c : ps.length ≤ sizeLine
      · rw [if_pos c] at h1
        refine ⟨by omega, fun p hp => ?_⟩
        obtain ⟨n2, r2⟩ := new_lst n1.r r hp
        exact h1 _ _ n2 r2
      · rw [if_neg c] at h1; exact h1.elim
/-- a new list that is to change: a cell -/
theorem new_cell {w : Wd} {xs : List W} {vs : List V} {p : Addr} (s : SR G w) (r : repWs G w xs vs) (h : w.H p = none) :
    Nx G w (w.more p (.lst vs) (.lst xs)) (w.S ++ [.lst xs]) ∧ repW G (w.more p (.lst vs) (.lst xs)) (.c w.S.length) (.ref p) := by
  have e := Gro.more (o := .lst vs) (c := .lst xs) s h
  refine ⟨⟨rfl, s.more h ⟨vs, upd_same, e.repWs r⟩, e⟩, p, ?_, rfl⟩
  show (w.io ++ [p])[w.S.length]? = some p
  rw [← s.len]
  simp
theorem fe_newl {O : Or} {as : Es} {es : List PySem.Expr} {pos : Pos} (h : PA X es (tA G Wx (evEs O as))) : PE X (.List es pos) (tE G Wx (evE O (.newl as))) :=
  PE.imp (pe_lst h) fun σ H Q ⟨ρ, w, e, s, he, h⟩ => by
    subst e
    refine ⟨ρ, w, rfl, s, he, okL_seq h fun xs S1 vs w1 _ h1 n1 r1 => ?_⟩
    have eS := n1.S
    subst eS
    have hl := repWs_len r1
    have h1 : Ok G Wx (if xs.length ≤ sizeLine then .ok (.c w1.S.length) (w1.S ++ [.lst xs]) else .bad) w1 σ Q := h1
    by_cases c : xs.length ≤ sizeLine
    · rw [if_pos c] at h1
      refine ⟨by omega, fun p hp => ?_⟩
      obtain ⟨n2, r2⟩ := new_cell n1.r r1 hp
      exact h1 _ _ n2 r2
    · rw [if_neg c] at h1; exact h1.elim

/-! ### items -/
theorem atI_map {α β : Type} {xs : List α} {ys : List β} {i : Int} {x : α} (hl : ys.length = xs.length) (h : atI xs i = some x) : ∃ j : Nat, xs[j]? = some x ∧ ∀ y, ys[j]? = some y → atI ys i = some y := by
  unfold atI at h ⊢
  cases e : ixN xs.length i with
  | none => rw [e] at h; cases h
  | some j =>
    rw [e] at h
    refine ⟨j, h, fun y hy => ?_⟩
    rw [hl, e]; exact hy
theorem repWs_get {w : Wd} : ∀ {xs : List W} {vs : List V} {i : Nat} {x : W}, repWs G w xs vs → xs[i]? = some x → ∃ v, vs[i]? = some v ∧ repW G w x v
  | [], _, _, _, _, e => by simp at e
  | x :: xs, _, 0, y, ⟨v, r, e, h1, h2⟩, q => by
    simp at q; subst q; subst e
    exact ⟨v, rfl, h1⟩
  | x :: xs, _, i + 1, y, ⟨v, r, e, h1, h2⟩, q => by
    subst e
    obtain ⟨u, a, b⟩ := repWs_get (i := i) h2 (by simpa using q)
    exact ⟨u, by simpa using a, b⟩
theorem borP_rep {w : Wd} {p : P} {v : V} (h : rep G w.H w.hot p v) : repW G w (borP p) v := by
  unfold borP
  cases hf : flatP p with
  | true =>
    show rep G w.H w.ow p v
    rw [rep_flat_eq hf h]
    exact rep_flat hf
  | false => exact h
def sub2 (S : Store) (x y : W) : Option W := match y with
  | .p q => subW S x q
  | .c _ => none
  | .b _ => none
theorem sub2_ok (hK : X.K = G.K) : Op2 G X sub2 (rIx X.K) := by
  intro w x y z v u Q s rx ry h k
  cases y with
  | c j => cases h
  | b j => cases h
  | p q =>
    have h : subW w.S x q = some z := h
    cases x with
    | p p =>
      have h : (subP p q).map W.p = some z := h
      cases e : subP p q with
      | none => rw [e] at h; cases h
      | some t =>
        rw [e] at h
        cases h
        cases q with
        | int i =>
          cases p with
          | str zz =>
            have e : (if zz.length ≤ sizeLine then (atI zz.cps.toList i).map fun c => P.str ⟨#[c]⟩ else none) = some t := e
            by_cases c : zz.length ≤ sizeLine
            · rw [if_pos c] at e
              cases e2 : atI zz.cps.toList i with
              | none => rw [e2] at e; cases e
              | some ch =>
                rw [e2] at e
                cases e
                exact .inr (.inr ⟨zz, i, ch, rx, ry, c, e2, k _ w (Nx.refl s) rfl⟩)
            · rw [if_neg c] at e; cases e
          | tup xs =>
            obtain ⟨a, vs, ev, tt, rs⟩ := rx
            obtain ⟨j, h1, h2⟩ := atI_map (reps_len rs) (show atI xs i = some t from e)
            obtain ⟨t', h3, h4⟩ := reps_get rs h1
            exact .inr (.inl ⟨a, vs, i, t', ev, ry, by rw [hK]; exact tt.sq, h2 t' h3, k _ w (Nx.refl s) h4⟩)
          | lst xs =>
            obtain ⟨a, vs, ev, tt, rs⟩ := rx
            obtain ⟨j, h1, h2⟩ := atI_map (reps_len rs) (show atI xs i = some t from e)
            obtain ⟨t', h3, h4⟩ := reps_get rs h1
            exact .inl ⟨a, vs, i, t', ev, ry, by rw [hK]; exact tt.sq, h2 t' h3, k _ w (Nx.refl s) h4⟩
          | _ => cases e
        | _ => cases p <;> cases e
    | c j =>
      obtain ⟨a, ha, ev⟩ := rx
      cases q with
      | int i =>
        have h : (match w.S[j]? with | some (.lst xs) => atI xs i | _ => none) = some z := h
        cases hc : w.S[j]? with
        | none => rw [hc] at h; cases h
        | some c =>
          rw [hc] at h
          cases c with
          | lst xs =>
            obtain ⟨vs, hv, rs⟩ := s.cell j a _ ha hc
            obtain ⟨m, h1, h2⟩ := atI_map (repWs_len rs) (show atI xs i = some z from h)
            obtain ⟨t', h3, h4⟩ := repWs_get rs h1
            exact .inl ⟨a, vs, i, t', ev, ry, .of hv, h2 t' h3, k _ w (Nx.refl s) h4⟩
          | _ => cases h
      | _ => cases h
    | b p =>
      have rx : rep G w.H w.hot p v := rx
      have h : (subP p q).map borP = some z := h
      cases e : subP p q with
      | none => rw [e] at h; cases h
      | some t =>
        rw [e] at h
        cases h
        cases q with
        | int i =>
          cases p with
          | str zz =>
            have e : (if zz.length ≤ sizeLine then (atI zz.cps.toList i).map fun c => P.str ⟨#[c]⟩ else none) = some t := e
            by_cases c : zz.length ≤ sizeLine
            · rw [if_pos c] at e
              cases e2 : atI zz.cps.toList i with
              | none => rw [e2] at e; cases e
              | some ch =>
                rw [e2] at e
                cases e
                exact .inr (.inr ⟨zz, i, ch, rx, ry, c, e2, k _ w (Nx.refl s) rfl⟩)
            · rw [if_neg c] at e; cases e
          | tup xs =>
            obtain ⟨a, vs, ev, tt, rs⟩ := rx
            obtain ⟨j, h1, h2⟩ := atI_map (reps_len rs) (show atI xs i = some t from e)
            obtain ⟨t', h3, h4⟩ := reps_get rs h1
            exact .inr (.inl ⟨a, vs, i, t', ev, ry, by rw [hK]; exact tt.sq, h2 t' h3, k _ w (Nx.refl s) (borP_rep h4)⟩)
          | lst xs =>
            obtain ⟨a, vs, ev, tt, rs⟩ := rx
            obtain ⟨j, h1, h2⟩ := atI_map (reps_len rs) (show atI xs i = some t from e)
            obtain ⟨t', h3, h4⟩ := reps_get rs h1
            exact .inl ⟨a, vs, i, t', ev, ry, by rw [hK]; exact tt.sq, h2 t' h3, k _ w (Nx.refl s) (borP_rep h4)⟩
          | _ => cases e
        | _ => cases p <;> cases e
theorem evE_sub (O : Or) (a b : E) : evE O (.sub a b) = fun ρ S => (evE O a ρ S).bind fun x S1 => (evE O b ρ S1).bind fun y S2 => R.of (sub2 S2 x y) S2 := by
  funext ρ S
  show (evE O a ρ S).bind _ = _
  congr 1
  funext x S1
  congr 1
  funext y S2
  cases y <;> rfl
theorem fe_sub {O : Or} {a b : E} {ea eb : PySem.Expr} {pos : Pos} (hK : X.K = G.K) (ha : PE X ea (tE G Wx (evE O a))) (hb : PE X eb (tE G Wx (evE O b))) (hp : PlainIx eb) : PE X (.Subscript ea eb pos) (tE G Wx (evE O (.sub a b))) := by
  rw [evE_sub]
  exact fe_op2 (te := tOp (rIx X.K)) (fun _ _ => rfl) (pe_ix ix_seq ha hb hp) (sub2_ok hK)

/-! ### fields -/
theorem repWf_look {w : Wd} : ∀ {fs : List (Str × W)} {vs : List (Str × V)} {f : Str} {x : W}, repWf G w fs vs → fs.lookup f = some x → ∃ v, vs.lookup f = some v ∧ repW G w x v
  | [], _, _, _, _, e => by simp at e
  | (g, y) :: fs, _, f, x, ⟨v, r, e, h1, h2⟩, q => by
    subst e
    rw [List.lookup_cons] at q ⊢
    cases hb : f == g with
    | true =>
      rw [hb] at q
      cases q
      exact ⟨v, rfl, h1⟩
    | false =>
      rw [hb] at q
      exact repWf_look h2 q
theorem fe_att {O : Or} {a : E} {ea : PySem.Expr} {f : Str} {pos : Pos} (hK : X.K = G.K) (hc : ∀ c, Cls X.K (G.ca c)) (hn : ∀ c, NoAttr X.K (G.ca c) f) (ha : PE X ea (tE G Wx (evE O a))) (hb : attributeBase ea f X.env (eval ea X.env) = eval ea X.env) :
    PE X (.Attribute ea f pos) (tE G Wx (evE O (.att a f))) :=
  PE.imp (pe_fld ha hb) fun σ H Q ⟨ρ, w, e, s, he, h⟩ => by
    subst e
    refine ⟨ρ, w, rfl, s, he, ok_seq h fun x S1 v w1 _ h1 n1 r1 => ?_⟩
    have eS := n1.S
    subst eS
    cases q : attW w1.S f x with
    | none => rw [q] at h1; exact h1.elim
    | some z =>
      rw [q] at h1
      cases x with
      | p p =>
        cases p with
        | ins c fs =>
          have q : (fs.lookup f).map W.p = some z := q
          cases q2 : fs.lookup f with
          | none => rw [q2] at q; cases q
          | some t =>
            rw [q2] at q
            cases q
            obtain ⟨a, dx, vs, ev, ea, _, rf⟩ := r1
            obtain ⟨u, h2, h3⟩ := repf_look rf q2
            exact ⟨a, G.ca c, dx, vs, u, ev, ea, hc c, hn c, h2, h1 _ w1 (Nx.refl n1.r) h3⟩
        | _ => cases q
      | b p =>
        cases p with
        | ins c fs =>
          have q : (fs.lookup f).map borP = some z := q
          cases q2 : fs.lookup f with
          | none => rw [q2] at q; cases q
          | some t =>
            rw [q2] at q
            cases q
            obtain ⟨a, dx, vs, ev, ea, _, rf⟩ := (show rep G w1.H w1.hot _ v from r1)
            obtain ⟨u, h2, h3⟩ := repf_look rf q2
            exact ⟨a, G.ca c, dx, vs, u, ev, ea, hc c, hn c, h2, h1 _ w1 (Nx.refl n1.r) (borP_rep h3)⟩
        | _ => cases q
      | c k =>
        obtain ⟨a, ha, ev⟩ := r1
        have q : (match w1.S[k]? with | some (.ins _ fs) => fs.lookup f | _ => none) = some z := q
        cases q2 : w1.S[k]? with
        | none => rw [q2] at q; cases q
        | some c =>
          rw [q2] at q
          cases c with
          | ins c fs =>
            obtain ⟨dx, vs, ea, rf⟩ := n1.r.cell k a _ ha q2
            obtain ⟨u, h2, h3⟩ := repWf_look rf (show fs.lookup f = some z from q)
            exact ⟨a, G.ca c, dx, vs, u, ev, ea, hc c, hn c, h2, h1 _ w1 (Nx.refl n1.r) h3⟩
          | _ => cases q
end
end FD

set_option Elab.async false
set_option linter.all false
set_option autoImplicit false
set_option maxRecDepth 100000
set_option maxHeartbeats 2000000
/-! FDe: built-in functions of plain data. -/
namespace FD
open PySem PySem.Spec PyProof.Rows L2
section
variable {G : Ga} {Wx : WX} {X : Cx}
/-- read, the items nobody's to write -/
def rep1 (G : Ga) (w : Wd) : P → V → Prop
  | .lst xs, v => ∃ a vs, v = .ref a ∧ w.H a = some (.lst vs) ∧ rep.reps G w.H w.ow xs vs
  | .dct xs, v => ∃ a vs, v = .ref a ∧ w.H a = some (.dK vs) ∧ rep.repk G w.H w.ow xs vs
  | .ins c fs, v => ∃ a dx vs, v = .ref a ∧ w.H a = some (.ins (G.ca c) dx vs) ∧ rep.repf G w.H w.ow fs vs
  | p, v => rep G w.H w.ow p v
def reps1 (G : Ga) (w : Wd) : List P → List V → Prop
  | [], vs => vs = []
  | x :: xs, vs => ∃ v r, vs = v :: r ∧ rep1 G w x v ∧ reps1 G w xs r
theorem rep1_of {w : Wd} {p : P} {v : V} (h : rep G w.H w.ow p v) : rep1 G w p v := by
  cases p with
  | lst xs => obtain ⟨a, vs, e, t, r⟩ := h; exact ⟨a, vs, e, t.1, r⟩
  | dct xs => obtain ⟨a, vs, e, t, _, r⟩ := h; exact ⟨a, vs, e, t, r⟩
  | ins c xs => obtain ⟨a, dx, vs, e, t, _, r⟩ := h; exact ⟨a, dx, vs, e, t, r⟩
  | _ => exact h
theorem view_rep1 {w : Wd} {x : W} {v : V} {p : P} (s : SR G w) (r : repW G w x v) (h : view1 w.S x = some p) : rep1 G w p v := by
  cases x with
  | p q => cases h; exact rep1_of r
  | b q => cases h
  | c k =>
    obtain ⟨a, ha, e⟩ := r
    have h : (match w.S[k]? with | some c => pureC c | none => none) = some p := h
    cases hc : w.S[k]? with
    | none => rw [hc] at h; cases h
    | some c =>
      rw [hc] at h
      have q := s.cell k a c ha hc
      cases c with
      | lst xs =>
        obtain ⟨vs, hv, rv⟩ := q
        have h : (pureWs xs).map P.lst = some p := h
        cases hp : pureWs xs with
        | none => rw [hp] at h; cases h
        | some ps =>
          rw [hp] at h
          cases h
          exact ⟨a, vs, e, hv, pureWs_rep hp rv⟩
      | dct kvs =>
        obtain ⟨vs, hv, rv⟩ := q
        have h : (pureK kvs).map P.dct = some p := h
        cases hp : pureK kvs with
        | none => rw [hp] at h; cases h
        | some ps =>
          rw [hp] at h
          cases h
          exact ⟨a, vs, e, hv, pureK_rep hp rv⟩
      | ins c fs =>
        obtain ⟨dx, vs, hv, rv⟩ := q
        have h : (pureF fs).map (P.ins c) = some p := h
        cases hp : pureF fs with
        | none => rw [hp] at h; cases h
        | some ps =>
          rw [hp] at h
          cases h
          exact ⟨a, dx, vs, e, hv, pureF_rep hp rv⟩
      | tab _ _ => cases h
      | dead => cases h
theorem views_rep1 {w : Wd} : ∀ {xs : List W} {vs : List V} {ps : List P}, SR G w → repWs G w xs vs → views w.S xs = some ps → reps1 G w ps vs
  | [], vs, ps, s, r, h => by cases h; exact r
  | x :: xs, vs, ps, s, ⟨v, t, e, r1, r2⟩, h => by
    unfold views at h
    cases h1 : view1 w.S x with
    | none => rw [h1] at h; cases h
    | some p =>
      cases h2 : views w.S xs with
      | none => rw [h1, h2] at h; cases h
      | some qs =>
        rw [h1, h2] at h
        cases h
        exact ⟨v, t, e, view_rep1 s r1 h1, views_rep1 s r2 h2⟩
theorem rep1_nil {w : Wd} {p : P} {v : V} (h : rep1 G w p v) : rep G w.H nil p v := by
  have st : Stay w.H w.H w.ow nil := fun b o e _ => ⟨e, fun z => z⟩
  cases p with
  | lst xs => obtain ⟨a, vs, e, t, r⟩ := h; exact ⟨a, vs, e, ⟨t, fun z => z⟩, rep_stay.go st _ _ r⟩
  | dct xs => obtain ⟨a, vs, e, t, r⟩ := h; exact ⟨a, vs, e, t, fun z => z, rep_stay.gok st _ _ r⟩
  | ins c xs => obtain ⟨a, dx, vs, e, t, r⟩ := h; exact ⟨a, dx, vs, e, t, fun z => z, rep_stay.gof st _ _ r⟩
  | _ => exact rep_stay st _ _ h

/-- what a built-in function's rule gives -/
def PriG (G : Ga) (f : Prim) (r : List V → Hp → VK → Prop) : Prop := ∀ (w : Wd) (ps : List P) (vs : List V) (q : P) (Q : VK), SR G w → reps1 G w ps vs → priP f ps = some q →
  (∀ t w', Nx G w w' w.S → rep G w'.H w'.ow q t → Q t w'.H) → r vs w.H Q
theorem fe_pri {O : Or} {f : Prim} {as : Es} {e : PySem.Expr} {es : List PySem.Expr} {r : List V → Hp → VK → Prop} (h : ∀ t, PA X es t → PE X e (tCB r t)) (ha : PA X es (tA G Wx (evEs O as))) (hr : PriG G f r) : PE X e (tE G Wx (evE O (.pri f as))) :=
  PE.imp (h _ ha) fun σ H Q ⟨ρ, w, e, s, he, h⟩ => by
    subst e
    refine ⟨ρ, w, rfl, s, he, okL_seq h fun xs S1 vs w1 _ h1 n1 r1 => ?_⟩
    have eS := n1.S
    subst eS
    cases q : views w1.S xs with
    | none => rw [q] at h1; exact h1.elim
    | some ps =>
      rw [q] at h1
      have h1 : Ok G Wx (R.of ((priP f ps).map W.p) w1.S) w1 σ Q := h1
      cases q2 : priP f ps with
      | none => rw [q2] at h1; exact h1.elim
      | some z =>
        rw [q2] at h1
        exact hr w1 ps vs z Q n1.r (views_rep1 n1.r r1 q) q2 fun t w' n r => h1 t w' n r

theorem reps1_one {w : Wd} {x : P} {vs : List V} (h : reps1 G w [x] vs) : ∃ v, vs = [v] ∧ rep1 G w x v := by
  obtain ⟨v, t, e, r1, r2⟩ := h
  rw [show t = [] from r2] at e
  exact ⟨v, e, r1⟩
theorem priP_one {f : Prim} {ps : List P} {q : P} (hf : f ∈ [Prim.len, .absI, .int, .bool, .str, .repr, .tuple, .list]) (h : priP f ps = some q) : ∃ x, ps = [x] := by
  cases ps with
  | nil => cases f <;> cases h
  | cons x r =>
    cases r with
    | nil => exact ⟨x, rfl⟩
    | cons y r => cases f <;> first | (cases h; done) | (simp at hf; done) | (cases x <;> cases h)

def rLenP (K : PySem.W.Frag) : List V → Hp → VK → Prop := fun xs H Q => (∃ x n, xs = [x] ∧ LenV K x H n ∧ Q (.int n) H) ∨ (∃ a kvs, xs = [V.ref a] ∧ H a = some (.dK kvs) ∧ Q (.int kvs.length) H)
theorem len_ok : CallR X (.builtin "len") (rLenP X.K) := CallR.or call_len call_lenD
def rReprP (G : Ga) : List V → Hp → VK → Prop := fun vs H Q => ∃ v p d, vs = [v] ∧ rep G H nil p v ∧ toD p = some d ∧ d.showable = true ∧ d.hasDict = false ∧ d.depth ≤ 60 ∧ d.shown.length ≤ sizeLine ∧ Q (.str d.shown) H
theorem repr_ok (hK : X.K = G.K) (hg : X.A.guards = some []) (hu : X.A.units + 64 < cLine) : CallR X (.builtin "repr") (rReprP G) := by
  intro pins s σ H xs us Q I r h
  obtain ⟨v, p, d, rfl, rp, hd, h1, h2, h3, h4, q⟩ := h
  obtain ⟨u, rfl, ru⟩ := vals1 r
  cases p with
  | non => cases hd; cases rp; cases ru; exact PySem.P.repr_of_none ⟨V.str (PyData.shown .none), H, I.tok _, ⟨_, rfl⟩, q⟩
  | bl b => cases hd; cases rp; cases ru; exact PySem.P.repr_of_bool ⟨V.str (PyData.shown (.bool b)), H, I.tok _, ⟨_, rfl⟩, q⟩
  | int i =>
    cases hd; cases rp
    obtain ⟨t, rfl⟩ := ru
    exact PySem.P.repr_of_int (by simpa [PyData.showable] using h1) ⟨V.str (PyData.shown (.int i)), H, I.tok _, ⟨_, rfl⟩, q⟩
  | str x =>
    cases hd; cases rp
    obtain ⟨t, rfl⟩ := ru
    exact PySem.P.repr_of_str ⟨V.str (PyData.shown (.str x)), H, I.tok _, ⟨_, rfl⟩, q⟩ h4
  | ty _ => cases hd
  | glb _ => cases hd
  | fz _ => cases hd
  | dct _ => cases hd
  | ins _ _ => cases hd
  | tup xs =>
    obtain ⟨as, rd⟩ := Dp.reads I d v u (toD_dp hK _ v d rp hd) ru
    obtain ⟨a, vs, ev, _⟩ := rp
    subst ev
    cases ru
    exact repr_of_reads' rd h1 (PyData.noDict_hsm h2) hg (by omega) (fun _ _ e => e) (fun h' u tk hk => ⟨.str d.shown, H, I.kept hk, ⟨_, rfl⟩, q⟩) h4
  | lst xs =>
    obtain ⟨as, rd⟩ := Dp.reads I d v u (toD_dp hK _ v d rp hd) ru
    obtain ⟨a, vs, ev, _⟩ := rp
    subst ev
    cases ru
    exact repr_of_reads' rd h1 (PyData.noDict_hsm h2) hg (by omega) (fun _ _ e => e) (fun h' u tk hk => ⟨.str d.shown, H, I.kept hk, ⟨_, rfl⟩, q⟩) h4
theorem g_repr : PriG G .repr (rReprP G) := by
  intro w ps vs q Q s r h k
  obtain ⟨x, rfl⟩ := priP_one (by simp) h
  obtain ⟨v, rfl, rv⟩ := reps1_one r
  have h : (match toD x with | some d => if (d.showable && !d.hasDict && decide (d.depth ≤ 60) && decide (d.shown.length ≤ sizeLine)) = true then some (P.str d.shown) else none | none => none) = some q := h
  cases hd : toD x with
  | none => rw [hd] at h; cases h
  | some d =>
    rw [hd] at h
    dsimp only at h
    split at h
    · rename_i c
      cases h
      simp only [Bool.and_eq_true, decide_eq_true_eq, Bool.not_eq_true'] at c
      exact ⟨v, x, d, rfl, rep1_nil rv, hd, c.1.1.1, c.1.1.2, c.1.2, c.2, k _ w (Nx.refl s) rfl⟩
    · cases h
theorem repk_len {H : Hp} {ow : Addr → Prop} : ∀ {xs : List (P × P)} {vs : List (Key × V)}, rep.repk G H ow xs vs → vs.length = xs.length
  | [], _, h => by rw [show _ = [] from h]; rfl
  | (_, _) :: xs, _, ⟨_, v, r, e, _, _, h2⟩ => by rw [e, List.length_cons, List.length_cons, repk_len h2]
theorem g_len (hK : X.K = G.K) : PriG G .len (rLenP X.K) := by
  intro w ps vs q Q s r h k
  obtain ⟨x, rfl⟩ := priP_one (by simp) h
  obtain ⟨v, rfl, rv⟩ := reps1_one r
  cases x with
  | tup xs =>
    cases h
    obtain ⟨a, us, e, t, rs⟩ := rv
    subst e
    refine .inl ⟨_, us.length, rfl, .inr ⟨us, by rw [hK]; exact t.sq, rfl⟩, ?_⟩
    rw [reps_len rs]
    exact k _ w (Nx.refl s) rfl
  | lst xs =>
    cases h
    obtain ⟨a, us, e, t, rs⟩ := rv
    subst e
    refine .inl ⟨_, us.length, rfl, .inl ⟨us, by rw [hK]; exact .inl (.inl t), rfl⟩, ?_⟩
    rw [reps_len rs]
    exact k _ w (Nx.refl s) rfl
  | str z =>
    have h : (if z.length ≤ sizeLine then some (P.int z.length) else none) = some q := h
    rw [show v = _ from rv]
    split at h
    · cases h
      exact .inl ⟨_, z.length, rfl, ⟨by assumption, rfl⟩, k _ w (Nx.refl s) rfl⟩
    · cases h
  | dct xs =>
    cases h
    obtain ⟨a, us, e, t, rs⟩ := rv
    subst e
    refine .inr ⟨a, us, rfl, t, ?_⟩
    rw [repk_len rs]
    exact k _ w (Nx.refl s) rfl
  | _ => cases h
theorem g_abs : PriG G .absI (fun xs H Q => ∃ i, xs = [.int i] ∧ Q (.int (if i < 0 then -i else i)) H) := by
  intro w ps vs q Q s r h k
  obtain ⟨x, rfl⟩ := priP_one (by simp) h
  obtain ⟨v, rfl, rv⟩ := reps1_one r
  cases x with
  | int i =>
    cases h
    rw [show v = _ from rv]
    exact ⟨i, rfl, k _ w (Nx.refl s) rfl⟩
  | _ => cases h
theorem g_int : PriG G .int (fun xs H Q => (∃ i, xs = [.int i] ∧ Q (.int i) H) ∨ ∃ k, xs = [.bl k] ∧ Q (.int (if k then 1 else 0)) H) := by
  intro w ps vs q Q s r h k
  obtain ⟨x, rfl⟩ := priP_one (by simp) h
  obtain ⟨v, rfl, rv⟩ := reps1_one r
  cases x with
  | int i =>
    cases h
    rw [show v = _ from rv]
    exact .inl ⟨i, rfl, k _ w (Nx.refl s) rfl⟩
  | bl b =>
    cases h
    rw [show v = _ from rv]
    exact .inr ⟨b, rfl, k _ w (Nx.refl s) rfl⟩
  | _ => cases h
theorem g_tuple (hK : X.K = G.K) : PriG G .tuple (fun xs H Q => ∃ p ys, xs = [.ref p] ∧ ((SqL X.K H p ys ∧ ∀ l, H l = none → Q (.ref l) (upd H l (.tup ys))) ∨ (SqT X.K H p ys ∧ Q (.ref p) H))) := by
  intro w ps vs q Q s r h k
  obtain ⟨x, rfl⟩ := priP_one (by simp) h
  obtain ⟨v, rfl, rv⟩ := reps1_one r
  cases x with
  | lst xs =>
    cases h
    obtain ⟨a, us, e, t, rs⟩ := rv
    subst e
    refine ⟨a, us, rfl, .inl ⟨by rw [hK]; exact .inl (.inl t), fun l hl => ?_⟩⟩
    obtain ⟨n2, r2⟩ := new_tup s rs hl
    exact k _ _ n2 r2
  | tup xs =>
    cases h
    obtain ⟨a, us, e, t, rs⟩ := id rv
    subst e
    exact ⟨a, us, rfl, .inr ⟨by rw [hK]; exact t.sq, k _ w (Nx.refl s) rv⟩⟩
  | _ => cases h
theorem g_list (hK : X.K = G.K) : PriG G .list (fun xs H Q => ∃ p ys, xs = [.ref p] ∧ (SqL X.K H p ys ∨ SqT X.K H p ys) ∧ ∀ l, H l = none → Q (.ref l) (upd H l (.lst ys))) := by
  intro w ps vs q Q s r h k
  obtain ⟨x, rfl⟩ := priP_one (by simp) h
  obtain ⟨v, rfl, rv⟩ := reps1_one r
  cases x with
  | lst xs =>
    cases h
    obtain ⟨a, us, e, t, rs⟩ := rv
    subst e
    refine ⟨a, us, rfl, .inl (by rw [hK]; exact .inl (.inl t)), fun l hl => ?_⟩
    obtain ⟨n2, r2⟩ := new_lst s rs hl
    exact k _ _ n2 r2
  | tup xs =>
    cases h
    obtain ⟨a, us, e, t, rs⟩ := rv
    subst e
    refine ⟨a, us, rfl, .inr (by rw [hK]; exact t.sq), fun l hl => ?_⟩
    obtain ⟨n2, r2⟩ := new_lst s rs hl
    exact k _ _ n2 r2
  | _ => cases h
end
end FD

set_option Elab.async false
set_option linter.all false
set_option autoImplicit false
set_option maxRecDepth 100000
set_option maxHeartbeats 2000000
/-! FDf: the world of a call. -/
namespace FD
open PySem PySem.Spec PyProof.Rows L2
/-- a def's result -/
def OkF (G : Ga) (Ex : XK) (g : R W) (w : Wd) (Q : VK) : Prop := match g with
  | .ok x S' => ∀ v w', Nx G w w' S' → repW G w' x v → Q v w'.H
  | .ex e S' => ∀ d w', Nx G w w' S' → repX G w' e d → Ex (.ref (G.xa e.c)) (some d) w'.H
  | .bad => False
section
variable {G : Ga} {Wx : WX}
/-- the addresses of some cells -/
def adrs (w : Wd) : List Nat → List Addr
  | [] => []
  | k :: ks => (w.io[k]?.getD 0) :: adrs w ks
theorem adrs_get {w : Wd} : ∀ {ks : List Nat} {j k : Nat}, ks[j]? = some k → (adrs w ks)[j]? = some (w.io[k]?.getD 0)
  | [], _, _, h => by simp at h
  | _ :: _, 0, _, h => by simp at h; subst h; rfl
  | _ :: ks, j + 1, k, h => by
    have q := adrs_get (w := w) (ks := ks) (j := j) (k := k) (by simpa using h)
    simpa [adrs] using q
theorem adrs_len {w : Wd} : ∀ ks : List Nat, (adrs w ks).length = ks.length
  | [] => rfl
  | _ :: ks => by simp [adrs, adrs_len ks]
theorem adrs_mem {w : Wd} {a : Addr} : ∀ {ks : List Nat}, a ∈ adrs w ks → ∃ k ∈ ks, a = w.io[k]?.getD 0
  | [], h => by simp [adrs] at h
  | k :: ks, h => by
    rcases List.mem_cons.mp h with e | h
    · exact ⟨k, List.mem_cons_self, e⟩
    · obtain ⟨j, h1, h2⟩ := adrs_mem (ks := ks) h
      exact ⟨j, List.mem_cons_of_mem _ h1, h2⟩
theorem takeC_get {S : Store} : ∀ {ks : List Nat} {S0 : Store} {j k : Nat}, takeC S ks = some S0 → ks[j]? = some k → ∃ c, S[k]? = some c ∧ S0[j]? = some c ∧ (pureC c).isSome = true
  | [], _, _, _, _, h => by simp at h
  | k :: ks, S0, j, m, ht, h => by
    unfold takeC at ht
    cases h1 : S[k]? with
    | none => rw [h1] at ht; cases ht
    | some c =>
      rw [h1] at ht
      dsimp only at ht
      cases h2 : pureC c with
      | none => rw [h2] at ht; cases ht
      | some p =>
        cases h3 : takeC S ks with
        | none => rw [h2, h3] at ht; cases ht
        | some r =>
          rw [h2, h3] at ht
          cases ht
          cases j with
          | zero =>
            simp at h
            subst h
            exact ⟨c, h1, rfl, by rw [h2]; rfl⟩
          | succ j =>
            obtain ⟨d, q1, q2, q3⟩ := takeC_get h3 (j := j) (k := m) (by simpa using h)
            exact ⟨d, q1, by simpa using q2, q3⟩
theorem takeC_len {S : Store} : ∀ {ks : List Nat} {S0 : Store}, takeC S ks = some S0 → S0.length = ks.length
  | [], S0, h => by cases h; rfl
  | k :: ks, S0, ht => by
    unfold takeC at ht
    cases h1 : S[k]? with
    | none => rw [h1] at ht; cases ht
    | some c =>
      rw [h1] at ht
      dsimp only at ht
      cases h2 : pureC c with
      | none => rw [h2] at ht; cases ht
      | some p =>
        cases h3 : takeC S ks with
        | none => rw [h2, h3] at ht; cases ht
        | some r =>
          rw [h2, h3] at ht
          cases ht
          simp [takeC_len h3]
theorem pureC_alive {c : Cell} (h : (pureC c).isSome = true) : c ≠ .dead := by
  rintro rfl
  cases h
/-- what is written back -/
theorem putC_get : ∀ {ks : List Nat} {S S1 S2 : Store}, putC S ks S1 = some S2 → ks.Nodup → S2.length = S.length ∧
    (∀ k : Nat, k ∉ ks → S2[k]? = S[k]?) ∧ (∀ j k : Nat, ks[j]? = some k → k < S.length → ∃ c, S1[j]? = some c ∧ S2[k]? = some c ∧ (pureC c).isSome = true)
  | [], S, S1, S2, h, _ => by
    have h : some S = some S2 := by simpa [putC] using h
    cases h
    exact ⟨rfl, fun _ _ => rfl, fun j k h => by simp at h⟩
  | k :: ks, S, [], S2, h, _ => by cases h
  | k :: ks, S, c :: S1, S2, h, nd => by
    have h : (match pureC c with | some _ => putC (S.set k c) ks S1 | none => none) = some S2 := h
    cases hp : pureC c with
    | none => rw [hp] at h; cases h
    | some p =>
      rw [hp] at h
      obtain ⟨n1, n2⟩ := List.nodup_cons.mp nd
      obtain ⟨l, a, b⟩ := putC_get h n2
      refine ⟨by rw [l, List.length_set], fun m hm => ?_, fun j m hj hm => ?_⟩
      · rw [a m fun z => hm (List.mem_cons_of_mem _ z), List.getElem?_set_ne]
        intro z
        exact hm (z ▸ List.mem_cons_self)
      · cases j with
        | zero =>
          simp at hj
          subst hj
          refine ⟨c, rfl, ?_, by rw [hp]; rfl⟩
          rw [a k n1, List.getElem?_set_self hm]
        | succ j =>
          obtain ⟨d, q1, q2, q3⟩ := b j m (by simpa using hj) (by rw [List.length_set]; exact hm)
          exact ⟨d, by simpa using q1, q2, q3⟩
theorem refs_bound {w : Wd} : ∀ {xs : List W} {vs : List V}, repWs G w xs vs → ∀ k ∈ refsOf xs, ∃ a, w.io[k]? = some a
  | [], _, _, k, h => by simp [refsOf] at h
  | .p x :: xs, vs, ⟨v, t, e, r1, r2⟩, k, h => refs_bound r2 k h
  | .b x :: xs, vs, ⟨v, t, e, r1, r2⟩, k, h => refs_bound r2 k h
  | .c j :: xs, vs, ⟨v, t, e, r1, r2⟩, k, h => by
    rcases List.mem_cons.mp h with z | h
    · obtain ⟨a, q, _⟩ := r1
      exact ⟨a, by rw [z]; exact q⟩
    · exact refs_bound r2 k h
/-- the callee's world: the cells that it gets; all others are not its to write -/
def Wd.into (w : Wd) (ks : List Nat) (S0 : Store) : Wd := { H := w.H, O := fun a => w.ow a ∧ a ∉ adrs w ks, N := fun _ => False, io := adrs w ks, S := S0 }
theorem io_getD {w : Wd} {k : Nat} {a : Addr} (h : w.io[k]? = some a) : w.io[k]?.getD 0 = a := by rw [h]; rfl
section
variable {w : Wd} {ks : List Nat} {S0 : Store}
theorem into_ow (s : SR G w) (hb : ∀ k ∈ ks, ∃ a, w.io[k]? = some a) (ht : takeC w.S ks = some S0) {a : Addr} (h : (w.into ks S0).ow a) : w.ow a := by
  rcases h with h | ⟨j, h1, c, h2, h3⟩
  · exact h.1
  · have h1 : (adrs w ks)[j]? = some a := h1
    obtain ⟨k, hk, e⟩ := adrs_mem (List.mem_of_getElem? h1)
    obtain ⟨b, hb⟩ := hb k hk
    rw [io_getD hb] at e
    subst e
    obtain ⟨i, hi⟩ := List.mem_iff_getElem?.mp hk
    obtain ⟨d, q1, q2, q3⟩ := takeC_get ht hi
    exact .inr ⟨k, hb, d, q1, pureC_alive q3⟩
theorem into_stay (s : SR G w) (hb : ∀ k ∈ ks, ∃ a, w.io[k]? = some a) (ht : takeC w.S ks = some S0) : Stay w.H w.H w.ow (w.into ks S0).ow :=
  fun b o e n => ⟨e, fun q => n (into_ow s hb ht q)⟩
theorem repC_stay {w1 w2 : Wd} {a : Addr} {c : Cell} (st : Stay w1.H w2.H w1.ow w2.ow) (hH : w2.H a = w1.H a) (hp : (pureC c).isSome = true) (h : repC G w1 a c) : repC G w2 a c := by
  have pw : ∀ {xs : List W} {ps : List P}, pureWs xs = some ps → ∀ {vs : List V}, repWs G w1 xs vs → repWs G w2 xs vs := by
    intro xs
    induction xs with
    | nil => intro ps _ vs h; exact h
    | cons x xs ih =>
      intro ps hq vs ⟨v, t, e, r1, r2⟩
      unfold pureWs at hq
      cases h1 : pureW x with
      | none => rw [h1] at hq; cases hq
      | some p =>
        cases h2 : pureWs xs with
        | none => rw [h1, h2] at hq; cases hq
        | some qs =>
          have ex := pureW_some h1
          subst ex
          exact ⟨v, t, e, rep_stay st p v r1, ih h2 r2⟩
  have pk : ∀ {xs : List (P × W)} {ps : List (P × P)}, pureK xs = some ps → ∀ {vs : List (Key × V)}, repWk G w1 xs vs → repWk G w2 xs vs := by
    intro xs
    induction xs with
    | nil => intro ps _ vs h; exact h
    | cons x xs ih =>
      obtain ⟨k, x⟩ := x
      intro ps hq vs ⟨j, v, t, e, hk, r1, r2⟩
      unfold pureK at hq
      cases h1 : pureW x with
      | none => rw [h1] at hq; cases hq
      | some p =>
        cases h2 : pureK xs with
        | none => rw [h1, h2] at hq; cases hq
        | some qs =>
          have ex := pureW_some h1
          subst ex
          exact ⟨j, v, t, e, hk, rep_stay st p v r1, ih h2 r2⟩
  have pf : ∀ {xs : List (Str × W)} {ps : List (Str × P)}, pureF xs = some ps → ∀ {vs : List (Str × V)}, repWf G w1 xs vs → repWf G w2 xs vs := by
    intro xs
    induction xs with
    | nil => intro ps _ vs h; exact h
    | cons x xs ih =>
      obtain ⟨k, x⟩ := x
      intro ps hq vs ⟨v, t, e, r1, r2⟩
      unfold pureF at hq
      cases h1 : pureW x with
      | none => rw [h1] at hq; cases hq
      | some p =>
        cases h2 : pureF xs with
        | none => rw [h1, h2] at hq; cases hq
        | some qs =>
          have ex := pureW_some h1
          subst ex
          exact ⟨v, t, e, rep_stay st p v r1, ih h2 r2⟩
  cases c with
  | lst xs =>
    obtain ⟨vs, e, r⟩ := h
    cases q : pureWs xs with
    | none => simp [pureC, q] at hp
    | some ps => exact ⟨vs, hH.trans e, pw q r⟩
  | dct xs =>
    obtain ⟨vs, e, r⟩ := h
    cases q : pureK xs with
    | none => simp [pureC, q] at hp
    | some ps => exact ⟨vs, hH.trans e, pk q r⟩
  | ins c xs =>
    obtain ⟨dx, vs, e, r⟩ := h
    cases q : pureF xs with
    | none => simp [pureC, q] at hp
    | some ps => exact ⟨dx, vs, hH.trans e, pf q r⟩
  | tab _ _ => cases hp
  | dead => trivial
theorem adrs_nodup (s : SR G w) : ∀ {ks : List Nat}, (∀ k ∈ ks, ∃ a, w.io[k]? = some a) → ks.Nodup → (adrs w ks).Nodup
  | [], _, _ => List.nodup_nil
  | k :: ks, hb, nd => by
    obtain ⟨n1, n2⟩ := List.nodup_cons.mp nd
    refine List.nodup_cons.mpr ⟨fun h => ?_, adrs_nodup s (fun j hj => hb j (List.mem_cons_of_mem _ hj)) n2⟩
    obtain ⟨j, hj, e⟩ := adrs_mem h
    obtain ⟨a, ha⟩ := hb k List.mem_cons_self
    obtain ⟨b, hb2⟩ := hb j (List.mem_cons_of_mem _ hj)
    rw [io_getD ha, io_getD hb2] at e
    subst e
    exact n1 (s.uniq ha hb2 ▸ hj)
theorem into_sr (s : SR G w) (hb : ∀ k ∈ ks, ∃ a, w.io[k]? = some a) (nd : ks.Nodup) (ht : takeC w.S ks = some S0) : SR G (w.into ks S0) := by
  refine ⟨by show (adrs w ks).length = S0.length; rw [adrs_len, takeC_len ht], adrs_nodup s hb nd, fun k a h q => q.2 (List.mem_of_getElem? h), fun a q => ?_, fun _ z => z.elim, fun k a h => ?_, fun j a c h1 h2 => ?_⟩
  · rcases q.1 with z | z
    · exact s.oh a z
    · exact s.own_some z
  · obtain ⟨j, hj, e⟩ := adrs_mem (List.mem_of_getElem? (show (adrs w ks)[k]? = some a from h))
    obtain ⟨b, q⟩ := hb j hj
    rw [io_getD q] at e
    rw [e]
    exact s.ih j b q
  · have h1 : (adrs w ks)[j]? = some a := h1
    have h2 : S0[j]? = some c := h2
    have hl : j < ks.length := by
      have := (List.getElem?_eq_some_iff.mp h1).1
      rwa [adrs_len] at this
    have hk : ks[j]? = some ks[j] := List.getElem?_eq_some_iff.mpr ⟨hl, rfl⟩
    have q := adrs_get (w := w) hk
    rw [h1] at q
    obtain ⟨b, hb2⟩ := hb ks[j] (List.getElem_mem hl)
    rw [io_getD hb2] at q
    cases q
    obtain ⟨d, q1, q2, q3⟩ := takeC_get ht hk
    rw [h2] at q2
    cases q2
    exact repC_stay (into_stay s hb ht) rfl q3 (s.cell _ a c hb2 q1)
theorem into_own (hb : ∀ k ∈ ks, ∃ a, w.io[k]? = some a) (ht : takeC w.S ks = some S0) {a : Addr} (h : (w.into ks S0).own a) : w.own a := by
  obtain ⟨j, h1, c, h2, h3⟩ := h
  have h1 : (adrs w ks)[j]? = some a := h1
  obtain ⟨k, hk, e⟩ := adrs_mem (List.mem_of_getElem? h1)
  obtain ⟨b, hb⟩ := hb k hk
  rw [io_getD hb] at e
  subst e
  obtain ⟨i, hi⟩ := List.mem_iff_getElem?.mp hk
  obtain ⟨d, q1, q2, q3⟩ := takeC_get ht hi
  exact ⟨k, hb, d, q1, pureC_alive q3⟩
theorem into_stayO (hb : ∀ k ∈ ks, ∃ a, w.io[k]? = some a) (ht : takeC w.S ks = some S0) : Stay w.H w.H w.hot (w.into ks S0).hot :=
  fun b o e n => ⟨e, fun q => n (.inl (into_own hb ht (q.elim id fun z => z.elim)))⟩
theorem into_args (s : SR G w) (hb : ∀ k ∈ ks, ∃ a, w.io[k]? = some a) (ht : takeC w.S ks = some S0) : ∀ {xs : List W} {vs : List V}, (∀ k ∈ refsOf xs, k ∈ ks) → repWs G w xs vs → repWs G (w.into ks S0) (xs.map (reIx ks)) vs
  | [], _, _, h => h
  | .p x :: xs, vs, hs, ⟨v, t, e, r1, r2⟩ => ⟨v, t, e, rep_stay (into_stay s hb ht) x v r1, into_args s hb ht hs r2⟩
  | .b x :: xs, vs, hs, ⟨v, t, e, r1, r2⟩ => ⟨v, t, e, rep_stay (into_stayO hb ht) x v r1, into_args s hb ht hs r2⟩
  | .c k :: xs, vs, hs, ⟨v, t, e, ⟨a, h1, h2⟩, r2⟩ => by
    have hk : k ∈ ks := hs k List.mem_cons_self
    refine ⟨v, t, e, ⟨a, ?_, h2⟩, into_args s hb ht (fun j hj => hs j (List.mem_cons_of_mem _ hj)) r2⟩
    show (adrs w ks)[ks.idxOf k]? = some a
    have q : ks[ks.idxOf k]? = some k := by
      have hl : ks.idxOf k < ks.length := List.idxOf_lt_length_of_mem hk
      rw [List.getElem?_eq_getElem hl]
      simp
    rw [adrs_get q, io_getD h1]
/-! ### lent -/
theorem deepL_rep {H : Hp} {f : W → Option P} (hf : ∀ x v p, repW G w x v → f x = some p → rep G w.H nil p v) : ∀ {xs : List W} {ps : List P} {vs : List V}, deepL f xs = some ps → repWs G w xs vs → rep.reps G w.H nil ps vs
  | [], ps, vs, h, r => by cases h; exact r
  | x :: xs, ps, vs, h, ⟨v, t, e, r1, r2⟩ => by
    unfold deepL at h
    cases h1 : f x with
    | none => rw [h1] at h; cases h
    | some p =>
      cases h2 : deepL f xs with
      | none => rw [h1, h2] at h; cases h
      | some qs =>
        rw [h1, h2] at h
        cases h
        exact ⟨v, t, e, hf x v p r1 h1, deepL_rep (H := H) hf h2 r2⟩
theorem deepF_rep {H : Hp} {f : W → Option P} (hf : ∀ x v p, repW G w x v → f x = some p → rep G w.H nil p v) : ∀ {xs : List (Str × W)} {ps : List (Str × P)} {vs : List (Str × V)}, deepF f xs = some ps → repWf G w xs vs → rep.repf G w.H nil ps vs
  | [], ps, vs, h, r => by cases h; exact r
  | (g, x) :: xs, ps, vs, h, ⟨v, t, e, r1, r2⟩ => by
    unfold deepF at h
    cases h1 : f x with
    | none => rw [h1] at h; cases h
    | some p =>
      cases h2 : deepF f xs with
      | none => rw [h1, h2] at h; cases h
      | some qs =>
        rw [h1, h2] at h
        cases h
        exact ⟨v, t, e, hf x v p r1 h1, deepF_rep (H := H) hf h2 r2⟩
theorem deepK_rep {H : Hp} {f : W → Option P} (hf : ∀ x v p, repW G w x v → f x = some p → rep G w.H nil p v) : ∀ {xs : List (P × W)} {ps : List (P × P)} {vs : List (Key × V)}, deepK f xs = some ps → repWk G w xs vs → rep.repk G w.H nil ps vs
  | [], ps, vs, h, r => by cases h; exact r
  | (g, x) :: xs, ps, vs, h, ⟨j, v, t, e, hk, r1, r2⟩ => by
    unfold deepK at h
    cases h1 : f x with
    | none => rw [h1] at h; cases h
    | some p =>
      cases h2 : deepK f xs with
      | none => rw [h1, h2] at h; cases h
      | some qs =>
        rw [h1, h2] at h
        cases h
        exact ⟨j, v, t, e, hk, hf x v p r1 h1, deepK_rep (H := H) hf h2 r2⟩
theorem deep_rep (s : SR G w) : ∀ (n : Nat) (x : W) (v : V) (p : P), repW G w x v → deep w.S n x = some p → rep G w.H nil p v
  | 0, .p x, v, p, r, h => by cases h; exact rep_nil r
  | n + 1, .p x, v, p, r, h => by cases h; exact rep_nil r
  | 0, .b x, v, p, r, h => by cases h; exact rep_nil (show rep G w.H w.hot _ v from r)
  | n + 1, .b x, v, p, r, h => by cases h; exact rep_nil (show rep G w.H w.hot _ v from r)
  | 0, .c k, v, p, r, h => by cases h
  | n + 1, .c k, v, p, ⟨a, ha, e⟩, h => by
    unfold deep at h
    cases hc : w.S[k]? with
    | none => rw [hc] at h; cases h
    | some c =>
      rw [hc] at h
      have q := s.cell k a c ha hc
      have ih := deep_rep s n
      cases c with
      | lst xs =>
        obtain ⟨vs, hv, rv⟩ := q
        have h : (deepL (deep w.S n) xs).map P.lst = some p := h
        cases hp : deepL (deep w.S n) xs with
        | none => rw [hp] at h; cases h
        | some ps =>
          rw [hp] at h
          cases h
          exact ⟨a, vs, e, ⟨hv, fun z => z⟩, deepL_rep (H := w.H) (fun x v p => ih x v p) hp rv⟩
      | dct xs =>
        obtain ⟨vs, hv, rv⟩ := q
        have h : (deepK (deep w.S n) xs).map P.dct = some p := h
        cases hp : deepK (deep w.S n) xs with
        | none => rw [hp] at h; cases h
        | some ps =>
          rw [hp] at h
          cases h
          exact ⟨a, vs, e, hv, fun z => z, deepK_rep (H := w.H) (fun x v p => ih x v p) hp rv⟩
      | ins c xs =>
        obtain ⟨dx, vs, hv, rv⟩ := q
        have h : (deepF (deep w.S n) xs).map (P.ins c) = some p := h
        cases hp : deepF (deep w.S n) xs with
        | none => rw [hp] at h; cases h
        | some ps =>
          rw [hp] at h
          cases h
          exact ⟨a, dx, vs, e, hv, fun z => z, deepF_rep (H := w.H) (fun x v p => ih x v p) hp rv⟩
      | tab _ _ => cases h
      | dead => cases h
theorem into_none {a : Addr} (h : (w.into [] []).own a) : False := by
  obtain ⟨k, h1, _⟩ := h
  have h1 : ([] : List Addr)[k]? = some a := h1
  simp at h1
theorem lend_args (s : SR G w) : ∀ {xs ys : List W} {vs : List V}, lendWs w.S xs = some ys → repWs G w xs vs → repWs G (w.into [] []) ys vs
  | [], ys, vs, h, r => by cases h; exact r
  | x :: xs, ys, vs, h, ⟨v, t, e, r1, r2⟩ => by
    unfold lendWs at h
    cases h1 : lendW w.S x with
    | none => rw [h1] at h; cases h
    | some p =>
      cases h2 : lendWs w.S xs with
      | none => rw [h1, h2] at h; cases h
      | some qs =>
        rw [h1, h2] at h
        cases h
        refine ⟨v, t, e, ?_, lend_args s h2 r2⟩
        have up : ∀ {q : P}, rep G w.H nil q v → rep G w.H (w.into [] []).hot q v := fun {q} r => rep_stay (fun b o e _ => ⟨e, fun z => into_none (z.elim id fun z => z.elim)⟩) q v r
        cases x with
        | p q =>
          cases h1
          exact rep_stay (into_stay (ks := []) (S0 := []) s (fun k hk => nomatch hk) rfl) q v r1
        | b q =>
          cases h1
          exact up (rep_nil (show rep G w.H w.hot _ v from r1))
        | c k =>
          have h1 : (deep w.S 6 (.c k)).map W.b = some p := h1
          cases h3 : deep w.S 6 (.c k) with
          | none => rw [h3] at h1; cases h1
          | some q =>
            rw [h3] at h1
            cases h1
            exact up (deep_rep s 6 _ v q r1 h3)
/-- back from the call -/
theorem back_nx {wc : Wd} {S1 S2 : Store} (s : SR G w) (hb : ∀ k ∈ ks, ∃ a, w.io[k]? = some a) (nd : ks.Nodup) (ht : takeC w.S ks = some S0) (n : Nx G (w.into ks S0) wc S1) (hp : putC w.S ks S1 = some S2) :
    Nx G w { H := wc.H, O := w.O, N := w.N, io := w.io, S := S2 } S2 ∧ Stay wc.H wc.H wc.ow (Wd.ow { H := wc.H, O := w.O, N := w.N, io := w.io, S := S2 }) ∧ wc.O = (fun a => w.ow a ∧ a ∉ adrs w ks) := by
  obtain ⟨l, pa, pb⟩ := putC_get hp nd
  have hO : wc.O = (fun a => w.ow a ∧ a ∉ adrs w ks) := n.g.O
  have lt : ∀ {k : Nat} {a : Addr}, w.io[k]? = some a → k < w.S.length := fun {k a} h => by rw [← s.len]; exact (List.getElem?_eq_some_iff.mp h).1
  -- what is alive behind the call
  have al : ∀ {k : Nat} {a : Addr}, w.io[k]? = some a → alive S2 k → alive w.S k := fun {k a} h ⟨c, h1, h2⟩ => by
    by_cases hk : k ∈ ks
    · obtain ⟨j, hj⟩ := List.mem_iff_getElem?.mp hk
      obtain ⟨d, q1, q2, q3⟩ := takeC_get ht hj
      exact ⟨d, q1, pureC_alive q3⟩
    · rw [pa k hk] at h1; exact ⟨c, h1, h2⟩
  have mem : ∀ {k : Nat} {a : Addr}, w.io[k]? = some a → (a ∈ adrs w ks ↔ k ∈ ks) := fun {k a} h => by
    constructor
    · intro q
      obtain ⟨j, hj, e⟩ := adrs_mem q
      obtain ⟨b, hb2⟩ := hb j hj
      rw [io_getD hb2] at e
      subst e
      exact s.uniq h hb2 ▸ hj
    · intro q
      obtain ⟨j, hj⟩ := List.mem_iff_getElem?.mp q
      have z := adrs_get (w := w) hj
      rw [io_getD h] at z
      exact List.mem_of_getElem? z
  have g : Gro w { H := wc.H, O := w.O, N := w.N, io := w.io, S := S2 } := by
    refine ⟨rfl, rfl, fun b o e nb => ?_, fun a ⟨k, h1, h2⟩ => .inl ⟨k, h1, al h1 h2⟩, fun _ _ e => e⟩
    refine n.g.keep b o e fun ⟨j, h1, c, h2, h3⟩ => ?_
    have h1 : (adrs w ks)[j]? = some b := h1
    obtain ⟨k, hk, e2⟩ := adrs_mem (List.mem_of_getElem? h1)
    obtain ⟨x, hx⟩ := hb k hk
    rw [io_getD hx] at e2
    subst e2
    obtain ⟨i, hi⟩ := List.mem_iff_getElem?.mp hk
    obtain ⟨d, q1, q2, q3⟩ := takeC_get ht hi
    exact nb ⟨k, hx, d, q1, pureC_alive q3⟩
  have st : Stay wc.H wc.H wc.ow (Wd.ow { H := wc.H, O := w.O, N := w.N, io := w.io, S := S2 }) := by
    intro b o e nb
    refine ⟨e, fun q => nb ?_⟩
    rcases q with q | ⟨k, h1, h2⟩
    · left
      rw [hO]
      refine ⟨.inl q, fun z => ?_⟩
      obtain ⟨k, hk, e2⟩ := adrs_mem z
      obtain ⟨x, hx⟩ := hb k hk
      rw [io_getD hx] at e2
      subst e2
      exact s.dis k b hx q
    · have h1 : w.io[k]? = some b := h1
      by_cases hk : k ∈ ks
      · right
        obtain ⟨j, hj⟩ := List.mem_iff_getElem?.mp hk
        obtain ⟨c, q1, q2, q3⟩ := pb j k hj (lt h1)
        have z := adrs_get (w := w) hj
        rw [io_getD h1] at z
        refine ⟨j, n.g.io j b z, c, by rw [n.S]; exact q1, pureC_alive q3⟩
      · left
        rw [hO]
        exact ⟨.inr ⟨k, h1, al h1 h2⟩, fun z => hk ((mem h1).mp z)⟩
  refine ⟨⟨rfl, ?_, g⟩, st, hO⟩
  refine ⟨by show w.io.length = S2.length; rw [l]; exact s.len, s.nd, s.dis, fun a h => s.oh' g a h, s.nO, fun k a h => s.ih' g (fun b ⟨k, h1, h2⟩ => ?_) h, fun k a c h1 h2 => ?_⟩
  · by_cases hk : k ∈ ks
    · obtain ⟨j, hj⟩ := List.mem_iff_getElem?.mp hk
      have z := adrs_get (w := w) hj
      rw [io_getD h1] at z
      exact n.r.ih j b (n.g.io j b z)
    · obtain ⟨o, q⟩ := s.ih k b h1
      exact ⟨o, n.g.keep b o q fun ⟨j, z1, _⟩ => hk ((mem h1).mp (List.mem_of_getElem? (show (adrs w ks)[j]? = some b from z1)))⟩
  · have h1 : w.io[k]? = some a := h1
    have h2 : S2[k]? = some c := h2
    by_cases hk : k ∈ ks
    · obtain ⟨j, hj⟩ := List.mem_iff_getElem?.mp hk
      obtain ⟨d, q1, q2, q3⟩ := pb j k hj (lt h1)
      rw [h2] at q2
      cases q2
      have z := adrs_get (w := w) hj
      rw [io_getD h1] at z
      exact repC_stay st rfl q3 (n.r.cell j a c (n.g.io j a z) (by rw [n.S]; exact q1))
    · rw [pa k hk] at h2
      by_cases hd : c = .dead
      · subst hd; trivial
      have q := s.cell k a c h1 h2
      obtain ⟨o, e, _⟩ := s.tupleSafe h1 h2 hd
      have hh : wc.H a = w.H a := by
        rw [e]
        exact n.g.keep a o e fun ⟨j, z1, _⟩ => hk ((mem h1).mp (List.mem_of_getElem? (show (adrs w ks)[j]? = some a from z1)))
      cases c with
      | lst xs => obtain ⟨vs, z, r⟩ := q; exact ⟨vs, hh.trans z, g.repWs r⟩
      | dct kvs => obtain ⟨vs, z, r⟩ := q; exact ⟨vs, hh.trans z, g.repWk r⟩
      | ins c fs => obtain ⟨dx, vs, z, r⟩ := q; exact ⟨dx, vs, hh.trans z, g.repWf r⟩
      | tab _ q' => exact ⟨q.1, s.tab g.keep hh q.2⟩
      | dead => trivial
end
end
end FD

set_option Elab.async false
set_option linter.all false
set_option autoImplicit false
set_option maxRecDepth 100000
set_option maxHeartbeats 2000000
/-! FDg: calls. -/
namespace FD
open PySem PySem.Spec PyProof.Rows L2
section
variable {G : Ga} {Wx : WX}
theorem repX_stay {w1 w2 : Wd} {e : Exn} {d : Addr} (st : Stay w1.H w2.H w1.ow w2.ow) (hH : w2.H d = w1.H d) (h : repX G w1 e d) : repX G w2 e d := by
  obtain ⟨vs, h1, h2⟩ := h
  exact ⟨vs, hH.trans h1, rep_stay.gof st _ _ h2⟩
/-- a call, seen from the callee: it has the cells ks -/
theorem callG_ok {w : Wd} {ks : List Nat} {S0 : Store} {ys : List W} {run : List W → Store → R W} {σ : L2.St} {Q : VK} (s : SR G w) (hb : ∀ k ∈ ks, ∃ a, w.io[k]? = some a) (nd : ks.Nodup) (ht : takeC w.S ks = some S0) (h : Ok G Wx (callG run ks S0 ys w.S) w σ Q) :
    OkF G (fun cls d H => Wx cls d σ H) (run ys S0) (w.into ks S0) Q := by
  unfold callG at h
  cases hr : run ys S0 with
  | bad => rw [hr] at h; exact h.elim
  | ex e S1 =>
    rw [hr] at h
    dsimp only at h
    cases hp : putC w.S ks S1 with
    | none => rw [hp] at h; exact h.elim
    | some S2 =>
      rw [hp] at h
      intro d wc n rx
      obtain ⟨nx, st, hO⟩ := back_nx s hb nd ht n hp
      exact h d { H := wc.H, O := w.O, N := w.N, io := w.io, S := S2 } nx (repX_stay (w2 := { H := wc.H, O := w.O, N := w.N, io := w.io, S := S2 }) st rfl rx)
  | ok x S1 =>
    rw [hr] at h
    dsimp only at h
    cases hp : putC w.S ks S1 with
    | none => rw [hp] at h; exact h.elim
    | some S2 =>
      rw [hp] at h
      dsimp only at h
      intro v wc n rx
      obtain ⟨nx, st, hO⟩ := back_nx s hb nd ht n hp
      cases x with
      | b q => exact h.elim
      | p q => exact h v { H := wc.H, O := w.O, N := w.N, io := w.io, S := S2 } nx (rep_stay st q v rx)
      | c j =>
        dsimp only at h
        by_cases hj : j < ks.length
        · rw [if_pos hj] at h; exact h.elim
        · rw [if_neg hj] at h
          cases hc : S1[j]? with
          | none => rw [hc] at h; exact h.elim
          | some c =>
            rw [hc] at h
            dsimp only at h
            cases hpc : pureC c with
            | none => rw [hpc] at h; exact h.elim
            | some q =>
              rw [hpc] at h
              obtain ⟨a, ha, ev⟩ := rx
              subst ev
              have cc : wc.S[j]? = some c := by rw [n.S]; exact hc
              have al : c ≠ .dead := pureC_alive (by rw [hpc]; rfl)
              -- the new cell's object was not there ahead of the call
              have new : w.H a = none := by
                rcases n.g.own a ⟨j, ha, c, cc, al⟩ with ⟨i, z1, z2⟩ | z
                · have z3 := n.g.io i a z1
                  have e := n.r.uniq z3 ha
                  have z1 : (adrs w ks)[i]? = some a := z1
                  have := (List.getElem?_eq_some_iff.mp z1).1
                  rw [adrs_len] at this
                  exact absurd (e ▸ this) hj
                · exact z
              have nio : ∀ (k : Nat), w.io[k]? ≠ some a := fun k z => by
                obtain ⟨o, q⟩ := s.ih k a z
                rw [new] at q; cases q
              obtain ⟨o, ho⟩ := n.r.ih j a ha
              -- the caller's world with one cell more
              have hS : S2.length = w.io.length := by rw [← nx.r.len]
              have g : Gro w { H := wc.H, O := w.O, N := w.N, io := w.io ++ [a], S := S2 ++ [c] } := by
                refine ⟨rfl, rfl, nx.g.keep, fun b ⟨k, h1, d, h2, h3⟩ => ?_, fun k b e => get_app_lt e⟩
                rcases get_app_one (show (w.io ++ [a])[k]? = some b from h1) with z | ⟨_, z⟩
                · refine nx.g.own b ⟨k, z, d, ?_, h3⟩
                  rcases get_app_one (show (S2 ++ [c])[k]? = some d from h2) with y | ⟨hk, y⟩
                  · exact y
                  · have := (List.getElem?_eq_some_iff.mp z).1
                    rw [hk, hS] at this
                    exact absurd this (Nat.lt_irrefl _)
                · rw [z]; exact .inr new
              have st2 : Stay wc.H wc.H wc.ow (Wd.ow { H := wc.H, O := w.O, N := w.N, io := w.io ++ [a], S := S2 ++ [c] }) := by
                intro b u e nb
                refine ⟨e, fun q => ?_⟩
                rcases q with q | ⟨k, h1, d, h2, h3⟩
                · exact (st b u e nb).2 (.inl q)
                · rcases get_app_one (show (w.io ++ [a])[k]? = some b from h1) with z | ⟨_, z⟩
                  · refine (st b u e nb).2 (.inr ⟨k, z, d, ?_, h3⟩)
                    rcases get_app_one (show (S2 ++ [c])[k]? = some d from h2) with y | ⟨hk, y⟩
                    · exact y
                    · have := (List.getElem?_eq_some_iff.mp z).1
                      rw [hk, hS] at this
                      exact absurd this (Nat.lt_irrefl _)
                  · exact nb (.inr ⟨j, by rw [z]; exact ha, c, cc, al⟩)
              have sr : SR G { H := wc.H, O := w.O, N := w.N, io := w.io ++ [a], S := S2 ++ [c] } := by
                refine ⟨by show (w.io ++ [a]).length = (S2 ++ [c]).length; simp [hS], ?_, fun k b h1 hb2 => ?_, fun b hb2 => nx.r.oh b hb2, s.nO, fun k b h1 => ?_, fun k b d h1 h2 => ?_⟩
                · show (w.io ++ [a]).Nodup
                  refine List.nodup_append.mpr ⟨s.nd, by simp, fun x hx y hy => ?_⟩
                  rw [List.mem_singleton.mp hy]
                  rintro rfl
                  obtain ⟨k, hk⟩ := List.mem_iff_getElem?.mp hx
                  exact nio k hk
                · rcases get_app_one (show (w.io ++ [a])[k]? = some b from h1) with z | ⟨_, z⟩
                  · exact s.dis k b z hb2
                  · rw [z] at hb2
                    obtain ⟨u, q⟩ := s.oh a hb2
                    rw [new] at q; cases q
                · rcases get_app_one (show (w.io ++ [a])[k]? = some b from h1) with z | ⟨_, z⟩
                  · exact nx.r.ih k b z
                  · rw [z]; exact ⟨o, ho⟩
                · rcases get_app_one (show (w.io ++ [a])[k]? = some b from h1) with z | ⟨hk, z⟩
                  · rcases get_app_one (show (S2 ++ [c])[k]? = some d from h2) with y | ⟨hk, y⟩
                    · have q := nx.r.cell k b d z y
                      have stA : Stay wc.H wc.H (Wd.ow { H := wc.H, O := w.O, N := w.N, io := w.io, S := S2 }) (Wd.ow { H := wc.H, O := w.O, N := w.N, io := w.io ++ [a], S := S2 ++ [c] }) → True := fun _ => trivial
                      by_cases hks : k ∈ ks
                      · -- a cell that the callee had: plain
                        obtain ⟨i, hi⟩ := List.mem_iff_getElem?.mp hks
                        obtain ⟨l, pa, pb⟩ := putC_get hp nd
                        obtain ⟨d', q1, q2, q3⟩ := pb i k hi (by rw [← s.len]; exact (List.getElem?_eq_some_iff.mp z).1)
                        rw [y] at q2
                        cases q2
                        have zz := adrs_get (w := w) hi
                        rw [io_getD z] at zz
                        exact repC_stay st2 rfl q3 (n.r.cell i b d (n.g.io i b zz) (by rw [n.S]; exact q1))
                      · obtain ⟨l, pa, pb⟩ := putC_get hp nd
                        rw [pa k hks] at y
                        by_cases hd : d = .dead
                        · subst hd; trivial
                        have q0 := s.cell k b d z y
                        obtain ⟨u, e, _⟩ := s.tupleSafe z y hd
                        have hh : wc.H b = w.H b := by
                          rw [e]
                          refine n.g.keep b u e fun ⟨i, z1, _⟩ => hks ?_
                          obtain ⟨m, hm, e2⟩ := adrs_mem (List.mem_of_getElem? (show (adrs w ks)[i]? = some b from z1))
                          obtain ⟨x, hx⟩ := hb m hm
                          rw [io_getD hx] at e2
                          subst e2
                          exact s.uniq z hx ▸ hm
                        cases d with
                        | lst xs => obtain ⟨vs, z, r⟩ := q0; exact ⟨vs, hh.trans z, g.repWs r⟩
                        | dct kvs => obtain ⟨vs, z, r⟩ := q0; exact ⟨vs, hh.trans z, g.repWk r⟩
                        | ins c fs => obtain ⟨dx, vs, z, r⟩ := q0; exact ⟨dx, vs, hh.trans z, g.repWf r⟩
                        | tab _ q' => exact ⟨q0.1, s.tab g.keep hh q0.2⟩
                        | dead => trivial
                    · have := (List.getElem?_eq_some_iff.mp z).1
                      rw [hk, hS] at this
                      exact absurd this (Nat.lt_irrefl _)
                  · rcases get_app_one (show (S2 ++ [c])[k]? = some d from h2) with y | ⟨_, y⟩
                    · have := (List.getElem?_eq_some_iff.mp y).1
                      rw [hk, hS] at this
                      exact absurd this (Nat.lt_irrefl _)
                    · rw [y, z]
                      exact repC_stay st2 rfl (by rw [hpc]; rfl) (n.r.cell j a c ha cc)
              refine h _ { H := wc.H, O := w.O, N := w.N, io := w.io ++ [a], S := S2 ++ [c] } ⟨rfl, sr, g⟩ ⟨a, ?_, rfl⟩
              show (w.io ++ [a])[S2.length]? = some a
              rw [hS]; simp
/-- a call, seen from the caller -/
theorem callW_ok {w : Wd} {xs : List W} {vs : List V} {run : List W → Store → R W} {σ : L2.St} {Q : VK} (s : SR G w) (r : repWs G w xs vs) (h : Ok G Wx (callW run xs w.S) w σ Q) :
    ∃ (xs' : List W) (wc : Wd), wc.H = w.H ∧ SR G wc ∧ repWs G wc xs' vs ∧ OkF G (fun cls d H => Wx cls d σ H) (run xs' wc.S) wc Q := by
  unfold callW at h
  have lent : ∀ {g : R W}, g = (match lendWs w.S xs with | some ys => callG run [] [] ys w.S | none => .bad) → Ok G Wx g w σ Q →
      ∃ (xs' : List W) (wc : Wd), wc.H = w.H ∧ SR G wc ∧ repWs G wc xs' vs ∧ OkF G (fun cls d H => Wx cls d σ H) (run xs' wc.S) wc Q := fun {g} e h => by
    subst e
    cases hl : lendWs w.S xs with
    | none => rw [hl] at h; exact h.elim
    | some ys =>
      rw [hl] at h
      have hb : ∀ k ∈ ([] : List Nat), ∃ a, w.io[k]? = some a := fun k hk => nomatch hk
      exact ⟨ys, w.into [] [], rfl, into_sr s hb List.nodup_nil rfl, lend_args s hl r, callG_ok s hb List.nodup_nil rfl h⟩
  by_cases nd : (refsOf xs).Nodup
  · rw [if_pos nd] at h
    cases ht : takeC w.S (refsOf xs) with
    | none => rw [ht] at h; exact lent rfl h
    | some S0 =>
      rw [ht] at h
      have hb := refs_bound r
      exact ⟨xs.map (reIx (refsOf xs)), w.into (refsOf xs) S0, rfl, into_sr s hb nd ht, into_args s hb ht (fun _ q => q) r, callG_ok s hb nd ht h⟩
  · rw [if_neg nd] at h; exact lent rfl h
end
end FD

set_option Elab.async false
set_option linter.all false
set_option autoImplicit false
set_option maxRecDepth 100000
set_option maxHeartbeats 2000000
/-! FDh: what a def promises; calls by name, by keywords. -/
namespace FD
open PySem PySem.Spec PyProof.Rows L2

/-- a def, as a caller sees it -/
structure FnI where
  ad : Addr
  fd : FuncData
  ps : List Str
/-- what a def promises -/
def FnP (P : Program) (w : World) (K : PySem.W.Frag) (mg : Str → Option Value) (base : Heap) (G : Ga) (F : FnI) (run : List W → Store → R W) (n : Nat) : Prop :=
  ∀ (A : Around) (outer : List PySem.Env) (s : Shared) (H : Hp) (args : Args) (Q : VK) (E : XK) (Gd : List V → Hp → Prop), Room n A → A.guards = some [] → Env0 P w K mg base A outer s H →
    StX.Bnd (L2.CX P w) P w K mg base F.fd args F.ps A outer s H E Gd →
    (∀ vs H2, Gd vs H2 → ∃ (xs : List W) (wd : Wd), wd.H = H2 ∧ SR G wd ∧ repWs G wd xs vs ∧ OkF G E (run xs wd.S) wd Q) →
    codeAny (model P w) A (.call (.ref F.ad) args) (CR (L2.CX P w) outer P w H s Q E) s
theorem FnP.mono {P : Program} {w : World} {K : PySem.W.Frag} {mg : Str → Option Value} {base : Heap} {G : Ga} {F : FnI} {run : List W → Store → R W} {j k : Nat} (h : FnP P w K mg base G F run j) (hj : j ≤ k) : FnP P w K mg base G F run k :=
  fun A outer s H args Q E Gd hr => h A outer s H args Q E Gd (hr.mono hj)

/-! ### how the parameters are bound -/
def GdOf (G : Ga) : List Src → List V → Hp → List V → Hp → Prop
  | [], _, H, xs, H2 => xs = [] ∧ H2 = H
  | .a i :: pm, all, H, xs, H2 => ∃ v r, all[i]? = some v ∧ xs = v :: r ∧ GdOf G pm all H r H2
  | .d p :: pm, all, H, xs, H2 => ∃ r, xs = flatV G p :: r ∧ GdOf G pm all H r H2
  | .star i :: pm, all, H, xs, H2 => ∃ q r, H q = none ∧ xs = .ref q :: r ∧ GdOf G pm all (upd H q (.tup (all.drop i))) r H2
/-- a call with npos values by place and keywords ks binds so -/
def BdOk (P : Program) (w : World) (K : PySem.W.Frag) (mg : Str → Option Value) (base : Heap) (G : Ga) (F : FnI) (npos : Nat) (ks : List Str) (pm : List Src) : Prop :=
  ∀ (A : Around) (outer : List PySem.Env) (s : Shared) (H : Hp) (us ws : List Value) (vs zs : List V) (E : XK), Env0 P w K mg base A outer s H → Vals vs us → Vals zs ws → us.length = npos → ws.length = ks.length →
    StX.Bnd (L2.CX P w) P w K mg base F.fd ⟨us, ks.zip ws⟩ F.ps A outer s H E (GdOf G pm (vs ++ zs) H)

section
variable {G : Ga} {Wx : WX}
theorem repWs_get' {w : Wd} {xs : List W} {vs : List V} {i : Nat} {v : V} (r : repWs G w xs vs) (h : vs[i]? = some v) : ∃ x, xs[i]? = some x ∧ repW G w x v := by
  have hl := repWs_len r
  have hi : i < xs.length := by
    have := (List.getElem?_eq_some_iff.mp h).1
    omega
  obtain ⟨u, h1, h2⟩ := repWs_get r (List.getElem?_eq_getElem hi)
  rw [h] at h1
  cases h1
  exact ⟨xs[i], List.getElem?_eq_getElem hi, h2⟩
theorem repWs_drop {w : Wd} : ∀ {xs : List W} {vs : List V} (n : Nat), repWs G w xs vs → repWs G w (xs.drop n) (vs.drop n)
  | xs, vs, 0, r => r
  | [], vs, n + 1, r => by rw [show vs = [] from r]; rfl
  | x :: xs, vs, n + 1, ⟨v, t, e, r1, r2⟩ => by subst e; exact repWs_drop n r2
theorem repWs_app {w : Wd} : ∀ {xs ys : List W} {vs us : List V}, repWs G w xs vs → repWs G w ys us → repWs G w (xs ++ ys) (vs ++ us)
  | [], _, vs, _, r, q => by rw [show vs = [] from r]; exact q
  | x :: xs, _, vs, _, ⟨v, t, e, r1, r2⟩, q => by subst e; exact ⟨v, _, rfl, r1, repWs_app r2 q⟩
theorem hot_ow {w : Wd} (hs : SR G w) {a : Addr} (h : w.hot a) : w.ow a := h.elim .inr fun z => .inl (hs.nO a z)
theorem borW_rep {w : Wd} (hs : SR G w) {x : W} {p : P} {v : V} (h : borW x = some p) (r : repW G w x v) : rep G w.H w.hot p v := by
  cases x with
  | p q => cases h; exact rep_stay (fun b o e n => ⟨e, fun z => n (hot_ow hs z)⟩) _ _ (show rep G w.H w.ow _ v from r)
  | b q => cases h; exact r
  | c k => cases h
theorem borWs_rep {w : Wd} (hs : SR G w) : ∀ {xs : List W} {ps : List P} {vs : List V}, borWs xs = some ps → repWs G w xs vs → rep.reps G w.H w.hot ps vs
  | [], ps, vs, h, r => by cases h; exact r
  | x :: xs, ps, vs, h, ⟨v, t, e, r1, r2⟩ => by
    unfold borWs at h
    cases h1 : borW x with
    | none => rw [h1] at h; cases h
    | some p =>
      cases h2 : borWs xs with
      | none => rw [h1, h2] at h; cases h
      | some qs =>
        rw [h1, h2] at h
        cases h
        exact ⟨v, t, e, borW_rep hs h1 r1, borWs_rep hs h2 r2⟩
/-- what is bound is what the data says -/
theorem gd_rep : ∀ (pm : List Src) (w : Wd) (all : List W) (vs : List V) (ys : List W) (xs : List V) (H2 : Hp), SR G w → repWs G w all vs → srcWs all pm = some ys → GdOf G pm vs w.H xs H2 →
    ∃ w', w'.H = H2 ∧ Nx G w w' w.S ∧ repWs G w' ys xs
  | [], w, all, vs, ys, xs, H2, s, r, h, g => by
    cases h
    exact ⟨w, g.2.symm, Nx.refl s, g.1⟩
  | x :: pm, w, all, vs, ys, xs, H2, s, r, h, g => by
    unfold srcWs at h
    cases h1 : srcW all x with
    | none => rw [h1] at h; cases h
    | some y =>
      cases h2 : srcWs all pm with
      | none => rw [h1, h2] at h; cases h
      | some zs =>
        rw [h1, h2] at h
        cases h
        cases x with
        | a i =>
          obtain ⟨v, t, e1, e2, g⟩ := g
          obtain ⟨w', eH, n, rr⟩ := gd_rep pm w all vs zs t H2 s r h2 g
          obtain ⟨x, e3, rx⟩ := repWs_get' r e1
          have e4 : all[i]? = some y := h1
          rw [e3] at e4
          cases e4
          exact ⟨w', eH, n, v, t, e2, n.g.repW rx, rr⟩
        | d p =>
          obtain ⟨t, e2, g⟩ := g
          obtain ⟨w', eH, n, rr⟩ := gd_rep pm w all vs zs t H2 s r h2 g
          have h1 : (if flatP p then some (W.p p) else none) = some y := h1
          cases hp : flatP p with
          | false => rw [hp] at h1; cases h1
          | true =>
            rw [hp] at h1
            cases h1
            exact ⟨w', eH, n, _, t, e2, rep_flat hp, rr⟩
        | star i =>
          obtain ⟨q, t, hq, e2, g⟩ := g
          have h1 : (match pureWs (all.drop i) with | some ps => some (W.p (.tup ps)) | none => match borWs (all.drop i) with | some ps => some (W.b (.tup ps)) | none => none) = some y := h1
          have rd := repWs_drop i r
          have ga := Gro.alloc (w := w) (o := .tup (vs.drop i)) hq
          have sa : SR G { w with H := upd w.H q (.tup (vs.drop i)) } := s.alloc hq
          obtain ⟨w', eH, n, rr⟩ := gd_rep pm { w with H := upd w.H q (.tup (vs.drop i)) } all vs zs t H2 sa (ga.repWs r) h2 g
          have n0 : Nx G w { w with H := upd w.H q (.tup (vs.drop i)) } w.S := ⟨rfl, sa, ga⟩
          refine ⟨w', eH, n0.trans n, _, t, e2, n.g.repW ?_, rr⟩
          cases hp : pureWs (all.drop i) with
          | some ps =>
            rw [hp] at h1
            cases h1
            exact (new_tup s (pureWs_rep hp rd) hq).2
          | none =>
            rw [hp] at h1
            dsimp only at h1
            cases hb : borWs (all.drop i) with
            | none => rw [hb] at h1; cases h1
            | some ps =>
              rw [hb] at h1
              cases h1
              exact ⟨q, vs.drop i, rfl, .inl ⟨.inl upd_same, fun z => s.fresh hq (hot_ow s z)⟩, rep_stay.go ga.stayO _ _ (borWs_rep s hb rd)⟩
/-- the callee's wish, with its parameters' values -/
theorem arr_ok {Ex : XK} {pm : List Src} {run : List W → Store → R W} {w : Wd} {all : List W} {vs : List V} {Q : VK} (s : SR G w) (r : repWs G w all vs) (h : OkF G Ex (arr pm run all w.S) w Q) :
    ∀ xs H2, GdOf G pm vs w.H xs H2 → ∃ (ys : List W) (wd : Wd), wd.H = H2 ∧ SR G wd ∧ repWs G wd ys xs ∧ OkF G Ex (run ys wd.S) wd Q := by
  intro xs H2 g
  unfold arr at h
  cases hs : srcWs all pm with
  | none => rw [hs] at h; exact h.elim
  | some ys =>
    rw [hs] at h
    obtain ⟨w', eH, n, rr⟩ := gd_rep pm w all vs ys xs H2 s r hs g
    refine ⟨ys, w', eH, n.r, rr, ?_⟩
    have h : OkF G Ex (run ys w.S) w Q := h
    rw [n.S]
    cases hr : run ys w.S with
    | ok x S' =>
      rw [hr] at h
      exact fun v w2 n2 r2 => h v w2 (n.trans n2) r2
    | ex e S' =>
      rw [hr] at h
      exact fun d w2 n2 r2 => h d w2 (n.trans n2) r2
    | bad => rw [hr] at h; exact h.elim

/-! ### the callee runs -/
variable {X : Cx} {pins : List (Addr × Obj)} {σ : L2.St} {H : Hp} {s : Shared}
theorem run_fnP {F : FnI} {run : List W → Store → R W} {k npos : Nat} {ks : List Str} {pm : List Src} {all : List W} {wd : Wd} {vs zs : List V} {us ws : List Value} {Q : VK} (h : FnP X.prog X.w X.K X.mg X.base G F run k) (hr : Room k X.A) (hg : X.A.guards = some []) (tk : Takes X Wx)
    (bd : BdOk X.prog X.w X.K X.mg X.base G F npos ks pm) (I : Inv X pins σ H s) (rv : Vals vs us) (rz : Vals zs ws) (l1 : us.length = npos) (l2 : ws.length = ks.length) (eH : wd.H = H) (sr : SR G wd) (ra : repWs G wd all (vs ++ zs))
    (hq : OkF G (fun cls d H => Wx cls d σ H) (arr pm run all wd.S) wd Q) : codeAny (model X.prog X.w) X.A (.call (.ref F.ad) ⟨us, ks.zip ws⟩) (fun r s' => match r with | .ok (.ret v) => EP X pins σ Q v s' | .ok _ => False | .error e => X.xe e s') s := by
  subst eH
  refine codeAny_mono (h X.A X.stack s wd.H ⟨us, ks.zip ws⟩ Q (fun cls d H => Wx cls d σ H) _ hr hg I.env0 (bd X.A X.stack s wd.H us ws vs zs _ I.env0 rv rz l1 l2) (arr_ok sr ra hq)) fun r s' hq => ?_
  cases r with
  | error e => exact passAt tk σ pins wd.H s e s' I hq
  | ok fl =>
    cases fl with
    | ret u => exact I.after hq
    | next => exact False.elim hq
    | brk => exact False.elim hq
    | cont => exact False.elim hq

/-! ### the arguments -/
theorem evEs_len {O : Or} : ∀ {as : Es} {ρ : Env} {S S' : Store} {xs : List W}, evEs O as ρ S = .ok xs S' → xs.length = lenEs as
  | .nil, ρ, S, S', xs, h => by
    have h : R.ok [] S = R.ok xs S' := h
    cases h; rfl
  | .cons e r, ρ, S, S', xs, h => by
    have h : ((evE O e ρ S).bind fun x S1 => (evEs O r ρ S1).bind fun xs S2 => R.ok (x :: xs) S2) = R.ok xs S' := h
    cases h1 : evE O e ρ S with
    | bad => rw [h1] at h; cases h
    | ex _ _ => rw [h1] at h; cases h
    | ok x S1 =>
      rw [h1] at h
      have h : ((evEs O r ρ S1).bind fun xs S2 => R.ok (x :: xs) S2) = R.ok xs S' := h
      cases h2 : evEs O r ρ S1 with
      | bad => rw [h2] at h; cases h
      | ex _ _ => rw [h2] at h; cases h
      | ok ys S2 =>
        rw [h2] at h
        have h : R.ok (x :: ys) S2 = R.ok xs S' := h
        cases h
        have := evEs_len h2
        simp [lenEs, this]
/-- the keywords' names, all given by name -/
def kwNames : List Keyword → Option (List Str)
  | [] => some []
  | ⟨some n, _, _⟩ :: r => (kwNames r).map (n :: ·)
  | _ => none
theorem kw_facts {env : PySem.Env} {pos : Pos} : ∀ {kws : List Keyword} {ks : List Str}, kwNames kws = some ks →
    (backToKw pos (keywordEach kws env)).all (·.1.isSome) = true ∧ (backToKw pos (keywordEach kws env)).filterMap (·.1) = ks ∧ (backToKw pos (keywordEach kws env)).any (·.1.isNone) = false
  | [], ks, h => by cases h; exact ⟨rfl, rfl, rfl⟩
  | ⟨some n, e, p⟩ :: r, ks, h => by
    have h : (kwNames r).map (n :: ·) = some ks := h
    cases h1 : kwNames r with
    | none => rw [h1] at h; cases h
    | some l =>
      rw [h1] at h
      cases h
      obtain ⟨a, b, c⟩ := kw_facts (env := env) (pos := pos) h1
      refine ⟨a, ?_, c⟩
      show n :: (backToKw pos (keywordEach r env)).filterMap (·.1) = n :: l
      rw [b]
  | ⟨none, e, p⟩ :: r, ks, h => by cases h
theorem fk_nil {O : Or} : PK X [] (tA G Wx (evEs O .nil)) := ⟨fun pos pins s σ H Q I ⟨ρ, w, e, sr, he, h⟩ => by
  subst e
  exact pk_nil.run pos pins s σ w.H Q I (h [] w (Nx.refl sr) rfl)⟩
theorem fk_cons {O : Or} {a : E} {as : Es} {ea : PySem.Expr} {kws : List Keyword} {nm : Option Str} {kpos : Pos} (ha : PE X ea (tE G Wx (evE O a))) (hr : PK X kws (tA G Wx (evEs O as))) : PK X (⟨nm, ea, kpos⟩ :: kws) (tA G Wx (evEs O (.cons a as))) :=
  ⟨fun pos pins s σ H Q I ⟨ρ, w, e, sr, he, h⟩ => by
    subst e
    refine (pk_cons ha hr).run pos pins s σ w.H Q I ⟨ρ, w, rfl, sr, he, ok_seqL h fun x S1 v w1 _ h1 n1 r1 => tA_at n1 he (okL_seqL h1 fun xs S2 vs w2 _ h2 n2 r2 => ?_)⟩
    have eS := n2.S
    subst eS
    exact h2 (v :: vs) w2 (Nx.refl n2.r) ⟨v, vs, rfl, n2.g.repW r1, r2⟩⟩

/-- a call's arguments, then the call -/
theorem args_run {O : Or} {as ks : Es} {es : List PySem.Expr} {kws : List Keyword} {ksn : List Str} {f : Value} {first : List Value} {pos : Pos} {ρ : Env} {w : Wd} {Q : Value → Shared → Prop} {k : List W → List W → Store → R W} {Qv : VK}
    (hk : PySem.W.keepIn X.K f = true) (hst : notStars es = true) (hkn : kwNames kws = some ksn) (hz : es = [] → as = .nil) (ha : PA X es (tA G Wx (evEs O as))) (hkw : PK X kws (tA G Wx (evEs O ks)))
    (I : Inv X pins σ w.H s) (sr : SR G w) (he : RepE G w σ ρ) (h : Ok G Wx ((evEs O as ρ w.S).bind fun xs S1 => (evEs O ks ρ S1).bind fun ys S2 => k xs ys S2) w σ Qv)
    (hc : ∀ (us ws : List Value) (vs zs : List V) (xs ys : List W) (w2 : Wd) (s2 : Shared), Inv X pins σ w2.H s2 → Nx G w w2 w2.S → Vals vs us → Vals zs ws → repWs G w2 xs vs → repWs G w2 ys zs → xs.length = lenEs as → ys.length = lenEs ks → Ok G Wx (k xs ys w2.S) w2 σ Qv →
      wpAny (model X.prog X.w) X.A (call f (first ++ us) (ksn.zip ws)) Q X.xe s2) :
    wpAny (model X.prog X.w) X.A (callWith pos f first (backTo pos (starEach es X.env)) (backToKw pos (keywordEach kws X.env))) Q X.xe s := by
  obtain ⟨k1, k2, k3⟩ := kw_facts (env := X.env) (pos := pos) hkn
  cases es with
  | nil =>
    have e0 := hz rfl
    subst e0
    have h : Ok G Wx ((evEs O ks ρ w.S).bind fun ys S2 => k [] ys S2) w σ Qv := h
    refine PySem.W.callWith_KW0 (h₀ := X.base) I.ok.mod.kin hk k1 ?_ (by rw [k3]; rfl)
    refine thn (hkw.run pos pins s σ w.H (fun zs H2 => ∃ ys w2, w2.H = H2 ∧ Nx G w w2 w2.S ∧ repWs G w2 ys zs ∧ ys.length = lenEs ks ∧ Ok G Wx (k [] ys w2.S) w2 σ Qv) I ⟨ρ, w, rfl, sr, he, okL_seq h fun ys S2 zs w2 e2 h2 n2 r2 => ?_⟩) fun ws s2 hh => ?_
    · have eS := n2.S
      subst eS
      exact ⟨ys, w2, rfl, n2, r2, evEs_len e2, h2⟩
    · obtain ⟨zs, H2, I2, rz, ys, w2, eH, n2, r2, l2, h2⟩ := hh
      subst eH
      refine ⟨I2.kIn, ?_⟩
      rw [k2]
      exact hc [] ws [] zs [] ys w2 s2 I2 n2 .nil rz rfl r2 rfl l2 h2
  | cons e es =>
    obtain ⟨hs1, hs2⟩ := Bool.and_eq_true_iff.mp (show (notStar e && notStars es) = true from hst)
    refine PySem.W.callWith_KW (h₀ := X.base) I.ok.mod.kin hk k1 ?_ (by rw [star_none (es := e :: es) (by exact hst), k3]; rfl) (star_cons hs1)
    refine thn (ha.run pos pins s σ w.H (fun vs H1 => ∃ xs w1, w1.H = H1 ∧ Nx G w w1 w1.S ∧ repWs G w1 xs vs ∧ xs.length = lenEs as ∧ Ok G Wx ((evEs O ks ρ w1.S).bind fun ys S2 => k xs ys S2) w1 σ Qv) I
      ⟨ρ, w, rfl, sr, he, okL_seq h fun xs S1 vs w1 e1 h1 n1 r1 => ?_⟩) fun us s1 hh => ?_
    · have eS := n1.S
      subst eS
      exact ⟨xs, w1, rfl, n1, r1, evEs_len e1, h1⟩
    · obtain ⟨vs, H1, I1, rv, xs, w1, eH, n1, r1, l1, h1⟩ := hh
      subst eH
      refine thn (hkw.run pos pins s1 σ w1.H (fun zs H2 => ∃ ys w2, w2.H = H2 ∧ Nx G w1 w2 w2.S ∧ repWs G w2 ys zs ∧ ys.length = lenEs ks ∧ Ok G Wx (k xs ys w2.S) w2 σ Qv) I1 ⟨ρ, w1, rfl, n1.r, n1.g.env he, okL_seq h1 fun ys S2 zs w2 e2 h2 n2 r2 => ?_⟩) fun ws s2 hh => ?_
      · have eS := n2.S
        subst eS
        exact ⟨ys, w2, rfl, n2, r2, evEs_len e2, h2⟩
      · obtain ⟨zs, H2, I2, rz, ys, w2, eH, n2, r2, l2, h2⟩ := hh
        subst eH
        refine ⟨I2.kIn, ?_⟩
        rw [k2]
        exact hc us ws vs zs xs ys w2 s2 I2 (n1.trans n2) rv rz (n2.g.repWs r1) r2 l1 l2 h2

/-- the def's call, its values known -/
theorem call_at {F : FnI} {run : List W → Store → R W} {k npos : Nat} {ksn : List Str} {pm : List Src} {all : List W} {w : Wd} {vs zs : List V} {us ws : List Value} {Q : VK} (h : FnP X.prog X.w X.K X.mg X.base G F run k) (hr : Room k X.A) (hg : X.A.guards = some []) (tk : Takes X Wx)
    (bd : BdOk X.prog X.w X.K X.mg X.base G F npos ksn pm) (I : Inv X pins σ w.H s) (rv : Vals vs us) (rz : Vals zs ws) (l1 : us.length = npos) (l2 : ws.length = ksn.length) (sr : SR G w) (ra : repWs G w all (vs ++ zs))
    (hq : Ok G Wx (callW (arr pm run) all w.S) w σ Q) : codeAny (model X.prog X.w) X.A (.call (.ref F.ad) ⟨us, ksn.zip ws⟩) (fun r s' => match r with | .ok (.ret v) => EP X pins σ Q v s' | .ok _ => False | .error e => X.xe e s') s := by
  obtain ⟨xs', wc, eH, sc, rc, ok⟩ := callW_ok sr ra hq
  exact run_fnP h hr hg tk bd I rv rz l1 l2 eH sc rc ok
/-- f(..), f a def of the module -/
theorem fe_call {O : Or} {F : FnI} {f k : Nat} {ksn : List Str} {pm : List Src} {as ks : Es} {es : List PySem.Expr} {kws : List Keyword} {x : Str} {p pos : Pos} (hF : FnP X.prog X.w X.K X.mg X.base G F (O.run f) k) (hr : Room k X.A) (hg : X.A.guards = some []) (tk : Takes X Wx)
    (hgl : Gl X x) (hm : X.mg x = some (.ref F.ad)) (hk : PySem.W.keepIn X.K (.ref F.ad) = true) (bd : BdOk X.prog X.w X.K X.mg X.base G F (lenEs as) ksn pm) (hdb : (x == ("__debug__" : Str)) = false)
    (hst : notStars es = true) (hkn : kwNames kws = some ksn) (hl : lenEs ks = ksn.length) (hz : es = [] → as = .nil) (ha : PA X es (tA G Wx (evEs O as))) (hkw : PK X kws (tA G Wx (evEs O ks))) :
    PE X (.Call (.Name x p) es kws pos) (tE G Wx (evE O (.call f as ks pm))) := by
  refine ⟨fun pins s σ H Q I ⟨ρ, w, e, sr, he, h⟩ => ?_⟩
  subst e
  refine wpAny_Call_Name_kw (ld_glob I hgl hm ?_ hdb)
  refine args_run (k := fun xs ys S2 => callW (arr pm (O.run f)) (xs ++ ys) S2) hk hst hkn hz ha hkw I sr he h fun us ws vs zs xs ys w2 s2 I2 n2 rv rz r1 r2 l1 l2 h2 => ?_
  refine wpAny_call (call_at hF hr hg tk bd I2 rv rz ?_ ?_ n2.r (repWs_app r1 r2) h2)
  · show us.length = _
    rw [← rv.length, repWs_len r1, l1]
  · rw [← rz.length, repWs_len r2, l2, hl]
end
end FD

set_option Elab.async false
set_option linter.all false
set_option autoImplicit false
set_option maxRecDepth 100000
set_option maxHeartbeats 2000000
/-! FDi: making an instance; methods. -/
namespace FD
open PySem PySem.Spec PyProof.Rows L2
section
variable {G : Ga} {Wx : WX}
theorem under_guards {A : Around} {C : Addr} {us : List Value} {kw : List (Str × Value)} (h : A.guards = some []) : (A.under (.builtin "type.__call__" ⟨.ref C :: us, kw⟩)).guards = some [] := by
  first
    | exact h
    | (simp [Around.under, Code.guards, Code.isGuard, guardIds, pushGuards]; exact h)
    | simpa [Around.under, Code.guards, Code.isGuard, guardIds, pushGuards] using h
/-- the world of an __init__: the new instance at x, the arguments lent -/
def mkW (w : Wd) (C c : Nat → Addr) (cn : Nat) (x dx : Addr) : Wd :=
  Wd.more { w.into [] [] with H := upd w.H dx (.own x) } x (.ins (C cn) dx []) (.ins cn [])
theorem mk_world {w : Wd} {c : Nat} {x dx : Addr} (s : SR G w) (hx : w.H x = none) (hd : w.H dx = none) (ne : dx ≠ x) :
    Nx G (w.into [] []) (mkW w G.ca G.ca c x dx) [.ins c []] := by
  have hb : ∀ k ∈ ([] : List Nat), ∃ a, w.io[k]? = some a := fun k hk => nomatch hk
  have s0 : SR G (w.into [] []) := into_sr s hb List.nodup_nil rfl
  have s1 : SR G { w.into [] [] with H := upd w.H dx (.own x) } := s0.alloc hd
  have hx1 : (upd w.H dx (.own x)) x = none := by rw [upd_ne (Ne.symm ne)]; exact hx
  have g1 : Gro (w.into [] []) { w.into [] [] with H := upd w.H dx (.own x) } := Gro.alloc hd
  have g2 := Gro.more (w := { w.into [] [] with H := upd w.H dx (.own x) }) (o := .ins (G.ca c) dx []) (c := .ins c []) s1 hx1
  exact ⟨rfl, s1.more hx1 ⟨dx, [], upd_same, rfl⟩, g1.trans g2⟩
/-- what an __init__ must do -/
theorem makeW_ok {w : Wd} {c : Nat} {x dx : Addr} {xs : List W} {vs : List V} {run : List W → Store → R W} {σ : L2.St} {Q : VK} (s : SR G w) (hx : w.H x = none) (hd : w.H dx = none) (ne : dx ≠ x) (r : repWs G w xs vs) (h : Ok G Wx (makeW run c xs w.S) w σ Q) :
    ∃ (ys : List W) (wc : Wd), wc.H = upd (upd w.H dx (.own x)) x (.ins (G.ca c) dx []) ∧ SR G wc ∧ repWs G wc ys (.ref x :: vs) ∧ OkF G (fun cls d H => Wx cls d σ H) (run ys wc.S) wc (fun v H => v = .non ∧ Q (.ref x) H) := by
  unfold makeW at h
  cases hl : lendWs w.S xs with
  | none => rw [hl] at h; exact h.elim
  | some ys =>
    rw [hl] at h
    dsimp only at h
    have n1 := mk_world (G := G) (c := c) s hx hd ne
    have hb : ∀ k ∈ ([] : List Nat), ∃ a, w.io[k]? = some a := fun k hk => nomatch hk
    refine ⟨.c 0 :: ys, mkW w G.ca G.ca c x dx, rfl, n1.r, ⟨_, _, rfl, ⟨x, rfl, rfl⟩, n1.g.repWs (lend_args s hl r)⟩, ?_⟩
    show OkF G _ (run (.c 0 :: ys) [.ins c []]) _ _
    have nio : ∀ (k : Nat), w.io[k]? ≠ some x := fun k z => by
      obtain ⟨o, q⟩ := s.ih k x z
      rw [hx] at q; cases q
    cases hr : run (.c 0 :: ys) [.ins c []] with
    | bad => rw [hr] at h; exact h.elim
    | ex e S1 =>
      rw [hr] at h
      intro d wc n rx
      obtain ⟨nx, st, hO⟩ := back_nx s hb List.nodup_nil rfl (n1.trans n) (S2 := w.S) (by simp [putC])
      exact h d { H := wc.H, O := w.O, N := w.N, io := w.io, S := w.S } nx (repX_stay (w2 := { H := wc.H, O := w.O, N := w.N, io := w.io, S := w.S }) st rfl rx)
    | ok v S1 =>
      rw [hr] at h
      cases v with
      | c _ => exact h.elim
      | b _ => exact h.elim
      | p p =>
        cases p with
        | non =>
          dsimp only at h
          cases hc : S1[0]? with
          | none => rw [hc] at h; exact h.elim
          | some ce =>
            rw [hc] at h
            cases ce with
            | ins d fs =>
              dsimp only at h
              by_cases hdc : d = c
              · subst hdc
                rw [if_pos rfl] at h
                cases hp : pureF fs with
                | none => rw [hp] at h; exact h.elim
                | some ps =>
                  rw [hp] at h
                  intro v wc n rv
                  refine ⟨rv, ?_⟩
                  obtain ⟨nx, st, hO⟩ := back_nx s hb List.nodup_nil rfl (n1.trans n) (S2 := w.S) (by simp [putC])
                  have hio : wc.io[0]? = some x := n.g.io 0 x rfl
                  obtain ⟨dx2, fv, e1, rf⟩ := n.r.cell 0 x _ hio (by rw [n.S]; exact hc)
                  refine h (.ref x) { H := wc.H, O := w.O, N := w.N, io := w.io, S := w.S } nx ⟨x, dx2, fv, rfl, e1, fun q => ?_, rep_stay.gof st _ _ (pureF_rep hp rf)⟩
                  rcases q with q | ⟨k, q, _⟩
                  · obtain ⟨o, z⟩ := s.oh x q
                    rw [hx] at z; cases z
                  · exact nio k q
              · rw [if_neg hdc] at h; exact h.elim
            | _ => exact h.elim
        | _ => exact h.elim

variable {X : Cx} {pins : List (Addr × Obj)} {σ : L2.St} {H : Hp} {s : Shared}
theorem make_at {F : FnI} {c : Nat} {run : List W → Store → R W} {k npos : Nat} {ksn : List Str} {pm : List Src} {all : List W} {w : Wd} {vs zs : List V} {us ws : List Value} {Q : VK} (M : Mk X.K (G.ca c) F.ad) (h : FnP X.prog X.w X.K X.mg X.base G F run k) (hr : Room (k + 1) X.A) (hg : X.A.guards = some [])
    (tk : Takes X Wx) (bd : BdOk X.prog X.w X.K X.mg X.base G F (npos + 1) ksn pm) (I : Inv X pins σ w.H s) (rv : Vals vs us) (rz : Vals zs ws) (l1 : us.length = npos) (l2 : ws.length = ksn.length) (sr : SR G w) (ra : repWs G w all (vs ++ zs))
    (hq : Ok G Wx (makeW (arr pm run) c all w.S) w σ Q) : wpAny (model X.prog X.w) X.A (call (.ref (G.ca c)) us (ksn.zip ws)) (EP X pins σ Q) X.xe s := by
  have hx := I.hok.fresh (Nat.le_succ s.heap.objs.size)
  have hd := I.hok.fresh (Nat.le_refl s.heap.objs.size)
  have ne : s.heap.objs.size ≠ s.heap.objs.size + 1 := Nat.ne_of_lt (Nat.lt_succ_self _)
  obtain ⟨ys, wc, eH, sc, rc, ok⟩ := makeW_ok (x := s.heap.objs.size + 1) (dx := s.heap.objs.size) sr hx hd ne ra hq
  have I2 := Inv.made (C := G.ca c) I
  rw [← eH] at I2
  have r2 : Vals (V.ref (s.heap.objs.size + 1) :: vs) (Value.ref (s.heap.objs.size + 1) :: us) := .cons rfl rv
  have e2 := I2.env0.make (G.ca c) us (ksn.zip ws)
  refine wpAny_call (make_map (f := F.ad) I.kIn M.makes M.init (beq_iff_eq.mp M.fn) (codeAny_mono (h _ X.stack _ wc.H ⟨Value.ref (s.heap.objs.size + 1) :: us, ksn.zip ws⟩ _ (fun cls d H => Wx cls d σ H) _ (hr.make _ us _) (under_guards hg) e2
    (bd _ X.stack _ wc.H (Value.ref (s.heap.objs.size + 1) :: us) ws (V.ref (s.heap.objs.size + 1) :: vs) zs _ e2 r2 rz (by rw [List.length_cons, l1]) l2) (arr_ok sc rc ok)) fun r s' hq' => ?_))
  cases r with
  | error e => exact passAt tk σ pins _ _ e s' I2 hq'
  | ok fl =>
    cases fl with
    | ret u =>
      obtain ⟨v, H', I3, rv, ev, q3⟩ := I2.after hq'
      subst ev
      exact ⟨rv, ⟨V.ref (s.heap.objs.size + 1), H', I3, rfl, q3⟩⟩
    | next => exact False.elim hq'
    | brk => exact False.elim hq'
    | cont => exact False.elim hq'
/-- C(..), C a class of the module -/
theorem fe_make {O : Or} {F : FnI} {f c k : Nat} {ksn : List Str} {pm : List Src} {as ks : Es} {es : List PySem.Expr} {kws : List Keyword} {x : Str} {p pos : Pos} (M : Mk X.K (G.ca c) F.ad) (hF : FnP X.prog X.w X.K X.mg X.base G F (O.run f) k) (hr : Room (k + 1) X.A) (hg : X.A.guards = some []) (tk : Takes X Wx)
    (hgl : Gl X x) (hm : X.mg x = some (.ref (G.ca c))) (bd : BdOk X.prog X.w X.K X.mg X.base G F (lenEs as + 1) ksn pm) (hdb : (x == ("__debug__" : Str)) = false)
    (hst : notStars es = true) (hkn : kwNames kws = some ksn) (hl : lenEs ks = ksn.length) (hz : es = [] → as = .nil) (ha : PA X es (tA G Wx (evEs O as))) (hkw : PK X kws (tA G Wx (evEs O ks))) :
    PE X (.Call (.Name x p) es kws pos) (tE G Wx (evE O (.make c f as ks pm))) := by
  refine ⟨fun pins s σ H Q I ⟨ρ, w, e, sr, he, h⟩ => ?_⟩
  subst e
  refine wpAny_Call_Name_kw (ld_glob I hgl hm ?_ hdb)
  refine args_run (k := fun xs ys S2 => makeW (arr pm (O.run f)) c (xs ++ ys) S2) M.kp hst hkn hz ha hkw I sr he h fun us ws vs zs xs ys w2 s2 I2 n2 rv rz r1 r2 l1 l2 h2 => ?_
  refine make_at M hF hr hg tk bd I2 rv rz ?_ ?_ n2.r (repWs_app r1 r2) h2
  · show us.length = _
    rw [← rv.length, repWs_len r1, l1]
  · rw [← rz.length, repWs_len r2, l2, hl]

/-! ### methods -/
/-- an instance, of a known class, that has no field m -/
theorem cls_at {w : Wd} {x : W} {v : V} {m : Str} {c : Nat} (sr : SR G w) (r : repW G w x v) (h : clsOf w.S m x = some c) : ∃ a dx fs, v = .ref a ∧ w.H a = some (.ins (G.ca c) dx fs) ∧ fs.lookup m = none := by
  have is_none : ∀ {α : Type} {o : Option α} {d : Nat}, (if o.isNone then some d else none) = some c → o = none ∧ d = c := fun {α o d} h => by
    cases o with
    | none => cases h; exact ⟨rfl, rfl⟩
    | some x => cases h
  cases x with
  | p p =>
    cases p with
    | ins d fs =>
      obtain ⟨e1, e2⟩ := is_none (show (if (fs.lookup m).isNone then some d else none) = some c from h)
      subst e2
      obtain ⟨a, dx, vs, ev, ea, _, rf⟩ := r
      exact ⟨a, dx, vs, ev, ea, repf_none rf e1⟩
    | _ => cases h
  | b p =>
    cases p with
    | ins d fs =>
      obtain ⟨e1, e2⟩ := is_none (show (if (fs.lookup m).isNone then some d else none) = some c from h)
      subst e2
      obtain ⟨a, dx, vs, ev, ea, _, rf⟩ := (show rep G w.H w.hot _ v from r)
      exact ⟨a, dx, vs, ev, ea, repf_none rf e1⟩
    | _ => cases h
  | c k =>
    have h : (match w.S[k]? with | some (.ins c fs) => if (fs.lookup m).isNone then some c else none | _ => none) = some c := h
    cases q : w.S[k]? with
    | none => rw [q] at h; cases h
    | some ce =>
      rw [q] at h
      cases ce with
      | ins d fs =>
        obtain ⟨e1, e2⟩ := is_none (show (if (fs.lookup m).isNone then some d else none) = some c from h)
        subst e2
        obtain ⟨a, ha, ev⟩ := r
        obtain ⟨dx, vs, ea, rf⟩ := sr.cell k a _ ha q
        refine ⟨a, dx, vs, ev, ea, ?_⟩
        have : ∀ {fs : List (Str × W)} {vs : List (Str × V)}, repWf G w fs vs → fs.lookup m = none → vs.lookup m = none := by
          intro fs
          induction fs with
          | nil => intro vs r _; rw [show vs = [] from r]; rfl
          | cons p fs ih =>
            obtain ⟨g, y⟩ := p
            intro vs ⟨v, t, e, r1, r2⟩ q
            subst e
            rw [List.lookup_cons] at q ⊢
            cases hb : m == g with
            | true => rw [hb] at q; cases q
            | false => rw [hb] at q; exact ih r2 q
        exact this rf e1
      | _ => cases h
/-- o.m(..), o an instance -/
theorem fe_meth {O : Or} {k : Nat} {ksn : List Str} {a : E} {as ks : Es} {ea : PySem.Expr} {es : List PySem.Expr} {kws : List Keyword} {m : Str} {apos pos : Pos} {pl : Sem Bool} {fi : Nat → FnI} (hg : X.A.guards = some []) (tk : Takes X Wx) (hr : Room k X.A)
    (hc : ∀ c, Cls X.K (G.ca c)) (hm : ∀ c f pm, O.meth c m (lenEs as) ksn = some (f, pm) → Meth X.K (G.ca c) m (fi f).ad ∧ FnP X.prog X.w X.K X.mg X.base G (fi f) (O.run f) k ∧ BdOk X.prog X.w X.K X.mg X.base G (fi f) (lenEs as + 1) ksn pm)
    (hst : notStars es = true) (hkn : kwNames kws = some ksn) (hl : lenEs ks = ksn.length) (hz : es = [] → as = .nil) (he : PE X ea (tE G Wx (evE O a))) (ha : PA X es (tA G Wx (evEs O as))) (hkw : PK X kws (tA G Wx (evEs O ks)))
    (ht : eval (.Call (.Attribute ea m apos) es kws pos) X.env = (do
      let ov ← eval ea X.env
      standAt apos.atName
      let (f, first) ← holding [ov] (getMethod ov m pl)
      callWith pos f first (backTo pos (starEach es X.env)) (backToKw pos (keywordEach kws X.env)))) :
    PE X (.Call (.Attribute ea m apos) es kws pos) (tE G Wx (evE O (.meth a m as ks ksn))) := by
  refine ⟨fun pins s σ H Q I ⟨ρ, w, e, sr, hen, h⟩ => ?_⟩
  subst e
  refine PySem.W.methodCall_KW (pl := pl) (thn (he.run pins s σ w.H (fun v H1 => ∃ x w1, w1.H = H1 ∧ Nx G w w1 w1.S ∧ repW G w1 x v ∧ Ok G Wx (match clsOf w1.S m x with
    | some c => match O.meth c m (lenEs as) ksn with
      | some (f, pm) => (evEs O as ρ w1.S).bind fun xs S2 => (evEs O ks ρ S2).bind fun ys S3 => callW (arr pm (O.run f)) (x :: (xs ++ ys)) S3
      | none => .bad
    | none => .bad) w1 σ Q) I ⟨ρ, w, rfl, sr, hen, ok_seq h fun x S1 v w1 e1 h1 n1 r1 => ?_⟩) fun u s1 hh => ?_) ht
  · have eS := n1.S
    subst eS
    exact ⟨x, w1, rfl, n1, r1, h1⟩
  obtain ⟨v, H1, I1, rv, x, w1, eH, n1, r1, h1⟩ := hh
  subst eH
  cases hcl : clsOf w1.S m x with
  | none => rw [hcl] at h1; exact h1.elim
  | some c =>
    rw [hcl] at h1
    dsimp only at h1
    obtain ⟨ad, dx, fs, ev, ea2, lk⟩ := cls_at n1.r r1 hcl
    subst ev
    obtain rfl : u = Value.ref ad := rv
    cases hme : O.meth c m (lenEs as) ksn with
    | none => rw [hme] at h1; exact h1.elim
    | some fp =>
      obtain ⟨f, pm⟩ := fp
      rw [hme] at h1
      obtain ⟨M, hF, bd⟩ := hm c f pm hme
      refine getmeth_ok I1 ea2 (hc c) M lk ?_
      refine args_run (k := fun xs ys S3 => callW (arr pm (O.run f)) (x :: (xs ++ ys)) S3) M.kp hst hkn hz ha hkw I1 n1.r (n1.g.env hen) h1 fun us ws vs zs xs ys w2 s2 I2 n2 rv rz q1 q2 l1 l2 h2 => ?_
      refine wpAny_call (call_at (us := .ref ad :: us) (vs := .ref ad :: vs) hF hr hg tk bd I2 (.cons rfl rv) rz ?_ ?_ n2.r (repWs_app (xs := x :: xs) (vs := .ref ad :: vs) ⟨_, _, rfl, n2.g.repW r1, q1⟩ q2) h2)
      · rw [List.length_cons, ← rv.length, repWs_len q1, l1]
      · rw [← rz.length, repWs_len q2, l2, hl]
end
end FD

set_option Elab.async false
set_option linter.all false
set_option autoImplicit false
set_option maxRecDepth 100000
set_option maxHeartbeats 2000000
/-! FDj: statements, targets. -/
namespace FD
open PySem PySem.Spec PyProof.Rows L2
section
variable (G : Ga) (Wx : WX)
/-- a statement's reading -/
def OkS (o : Out) (w : Wd) (D : Ends) : Prop := match o with
  | .nx ρ S' => ∀ σ' w', Nx G w w' S' → RepE G w' σ' ρ → D.nx σ' w'.H
  | .rt x S' => ∀ v w', Nx G w w' S' → repW G w' x v → D.rt v w'.H
  | .bk ρ S' => ∀ σ' w', Nx G w w' S' → RepE G w' σ' ρ → D.bk σ' w'.H
  | .ct ρ S' => ∀ σ' w', Nx G w w' S' → RepE G w' σ' ρ → D.ct σ' w'.H
  | .ex e ρ S' => ∀ d σ' w', Nx G w w' S' → RepE G w' σ' ρ → repX G w' e d → Wx (.ref (G.xa e.c)) (some d) σ' w'.H
  | .bad => False
def tS (g : Env → Store → Out) : TS := fun D σ H => In G σ H fun ρ w => OkS G Wx (g ρ w.S) w D
end
section
variable {G : Ga} {Wx : WX} {X : Cx} {O : Or}
theorem OkS.from {o : Out} {w w1 : Wd} {S1 : Store} {D : Ends} (h : OkS G Wx o w D) (n : Nx G w w1 S1) : OkS G Wx o w1 D := by
  cases o with
  | nx ρ S' => exact fun σ' w' n' r => h σ' w' (n.trans n') r
  | rt x S' => exact fun v w' n' r => h v w' (n.trans n') r
  | bk ρ S' => exact fun σ' w' n' r => h σ' w' (n.trans n') r
  | ct ρ S' => exact fun σ' w' n' r => h σ' w' (n.trans n') r
  | ex e ρ S' => exact fun d σ' w' n' r rx => h d σ' w' (n.trans n') r rx
  | bad => exact h
theorem tS_at {g : Env → Store → Out} {w1 : Wd} {σ : L2.St} {ρ : Env} {D : Ends} (s : SR G w1) (he : RepE G w1 σ ρ) (h : OkS G Wx (g ρ w1.S) w1 D) : tS G Wx g D σ w1.H := ⟨ρ, w1, rfl, s, he, h⟩
/-- an expression's outcome, then what follows -/
theorem ok_out {r : R W} {ρ : Env} {k : W → Store → Out} {w : Wd} {σ : L2.St} {D : Ends} {Q : VK} (he : RepE G w σ ρ) (h : OkS G Wx (r.out ρ k) w D)
    (hk : ∀ x S' v w', r = .ok x S' → OkS G Wx (k x S') w' D → Nx G w w' S' → repW G w' x v → Q v w'.H) : Ok G Wx r w σ Q := by
  cases r with
  | ok x S' => exact fun v w' n rp => hk x S' v w' rfl (OkS.from (show OkS G Wx (k x S') w D from h) n) n rp
  | ex e S' => exact fun d w' n rx => h d σ w' n (n.g.env he) rx
  | bad => exact h
theorem fs_nil : PSs X [] (tS G Wx (exSs O [])) := PSs.imp pss_nil fun D σ H ⟨ρ, w, e, s, he, h⟩ => by
  subst e
  exact h σ w (Nx.refl s) he
theorem fs_cons {st : Stmt} {rest : List Stmt} {a : Sm} {as : List Sm} (h1 : PS X st (tS G Wx (exS O a))) (h2 : PSs X rest (tS G Wx (exSs O as))) : PSs X (st :: rest) (tS G Wx (exSs O (a :: as))) :=
  PSs.imp (pss_cons h1 h2) fun D σ H ⟨ρ, w, e, s, he, h⟩ => by
    subst e
    refine ⟨ρ, w, rfl, s, he, ?_⟩
    have h : OkS G Wx (match exS O a ρ w.S with | .nx ρ1 S1 => exSs O as ρ1 S1 | o => o) w D := h
    show OkS G Wx (exS O a ρ w.S) w { D with nx := tS G Wx (exSs O as) D }
    cases q : exS O a ρ w.S with
    | nx ρ1 S1 =>
      rw [q] at h
      intro σ' w' n r
      have eS := n.S
      subst eS
      exact tS_at n.r r (OkS.from h n)
    | rt x S' => rw [q] at h; exact h
    | bk ρ' S' => rw [q] at h; exact h
    | ct ρ' S' => rw [q] at h; exact h
    | ex e ρ' S' => rw [q] at h; exact h
    | bad => rw [q] at h; exact h
theorem fs_pass {pos : Pos} : PS X (.Pass pos) (tS G Wx (exS O .pass)) := PS.imp ps_pass fun D σ H ⟨ρ, w, e, s, he, h⟩ => by
  subst e
  exact h σ w (Nx.refl s) he
theorem fs_brk {pos : Pos} : PS X (.Break pos) (tS G Wx (exS O .brk)) := PS.imp ps_break fun D σ H ⟨ρ, w, e, s, he, h⟩ => by
  subst e
  exact h σ w (Nx.refl s) he
theorem fs_cont {pos : Pos} : PS X (.Continue pos) (tS G Wx (exS O .cont)) := PS.imp ps_continue fun D σ H ⟨ρ, w, e, s, he, h⟩ => by
  subst e
  exact h σ w (Nx.refl s) he
theorem fs_nope {st : Stmt} : PS X st (tS G Wx (exS O .nope)) := PS.imp ps_never fun D σ H ⟨ρ, w, e, s, he, h⟩ => h
theorem fs_expr {e : PySem.Expr} {a : E} {pos : Pos} (ha : PE X e (tE G Wx (evE O a))) (hs : swapsWith e none pos.line X.env = pure false) : PS X (.Expr e pos) (tS G Wx (exS O (.expr a))) :=
  PS.imp (ps_expr ha hs) fun D σ H ⟨ρ, w, e, s, he, h⟩ => by
    subst e
    refine ⟨ρ, w, rfl, s, he, ok_out he h fun x S' v w' _ h1 n _ => ?_⟩
    exact h1 σ w' ⟨n.S, n.r, Gro.refl w'⟩ (n.g.env he)
theorem fs_doc {x j pos pos'} : PS X (.Expr (.Constant (.str x) j pos) pos') (tS G Wx (exS O .pass)) := PS.imp ps_doc fun D σ H ⟨ρ, w, e, s, he, h⟩ => by
  subst e
  exact h σ w (Nx.refl s) he
theorem fs_ret {e : PySem.Expr} {a : E} {pos : Pos} (ha : PE X e (tE G Wx (evE O a))) : PS X (.Return (some e) pos) (tS G Wx (exS O (.ret a))) :=
  PS.imp (ps_ret ha) fun D σ H ⟨ρ, w, e, s, he, h⟩ => by
    subst e
    refine ⟨ρ, w, rfl, s, he, ok_out he h fun x S' v w' _ h1 n r => ?_⟩
    exact h1 v w' ⟨n.S, n.r, Gro.refl w'⟩ r
theorem fs_retN {pos : Pos} : PS X (.Return none pos) (tS G Wx (exS O .retN)) := PS.imp ps_retN fun D σ H ⟨ρ, w, e, s, he, h⟩ => by
  subst e
  exact h .non w (Nx.refl s) rfl
theorem fs_if {c : PySem.Expr} {t : T} {p q : List Stmt} {a b : List Sm} {pos : Pos} (hc : PT X c (tT G Wx (evT O t))) (ha : PSs X p (tS G Wx (exSs O a))) (hb : PSs X q (tS G Wx (exSs O b))) : PS X (.If c p q pos) (tS G Wx (exS O (.ifs t a b))) :=
  PS.imp (ps_if hc ha hb) fun D σ H ⟨ρ, w, e, s, he, h⟩ => by
    subst e
    refine ⟨ρ, w, rfl, s, he, ?_⟩
    have h : OkS G Wx (match evT O t ρ w.S with | .ok k S1 => if k = true then exSs O a ρ S1 else exSs O b ρ S1 | .ex e S1 => .ex e ρ S1 | .bad => .bad) w D := h
    show OkB G Wx (evT O t ρ w.S) w σ _
    cases z : evT O t ρ w.S with
    | ok k S1 =>
      rw [z] at h
      dsimp only at h
      intro w' n
      have eS := n.S
      subst eS
      cases k with
      | true => rw [if_pos rfl] at h ⊢; exact tS_at n.r (n.g.env he) (OkS.from h n)
      | false => rw [if_neg Bool.false_ne_true] at h ⊢; exact tS_at n.r (n.g.env he) (OkS.from h n)
    | ex e S1 =>
      rw [z] at h
      exact fun d w' n rx => h d σ w' n (n.g.env he) rx
    | bad => rw [z] at h; exact h.elim

/-! ### targets -/
mutual
def ixT : Tg → List Nat
  | .nm i => [i]
  | .tup ts => ixTs ts
def ixTs : Tgs → List Nat
  | .nil => []
  | .cons t ts => ixT t ++ ixTs ts
end
def lenTs : Tgs → Nat
  | .nil => 0
  | .cons _ r => lenTs r + 1
/-- what a target does with a value -/
def tG (G : Ga) (t : Tg) : TG := fun v σ H Q => ∃ (x : W) (ρ : Env) (w : Wd) (ρ' : Env), w.H = H ∧ SR G w ∧ RepE G w σ ρ ∧ repW G w x v ∧ bindTg t x ρ = some ρ' ∧
  ∀ σ', RepE G w σ' ρ' → σ'.length = σ.length → (∀ i, i ∉ ixT t → σ'[i]? = σ[i]?) → Q σ' H
def tGs (G : Ga) (ts : Tgs) : TGs := fun vs σ H Q => ∃ (xs : List W) (ρ : Env) (w : Wd) (ρ' : Env), w.H = H ∧ SR G w ∧ RepE G w σ ρ ∧ repWs G w xs vs ∧ bindTgs ts xs ρ = some ρ' ∧
  ∀ σ', RepE G w σ' ρ' → σ'.length = σ.length → (∀ i, i ∉ ixTs ts → σ'[i]? = σ[i]?) → Q σ' H
theorem PG.imp {e : PySem.Expr} {t t' : TG} (h : PG X e t) (hi : ∀ v σ H Q, t' v σ H Q → t v σ H Q) : PG X e t' := ⟨fun pins s σ H v u Q I r q => h.run pins s σ H v u Q I r (hi v σ H Q q)⟩
theorem PGs.imp {es : List PySem.Expr} {t t' : TGs} (h : PGs X es t) (hi : ∀ v σ H Q, t' v σ H Q → t v σ H Q) : PGs X es t' := ⟨fun pins s σ H v u Q I r q => h.run pins s σ H v u Q I r (hi v σ H Q q)⟩
theorem RepE.set {w : Wd} {σ : L2.St} {ρ : Env} {x : W} {v : V} {i : Nat} (he : RepE G w σ ρ) (r : repW G w x v) : RepE G w (σ.set i (some v)) (ρ.set i (some x)) := by
  refine ⟨by rw [List.length_set, List.length_set]; exact he.1, fun j y q => ?_⟩
  by_cases hj : i = j
  · subst hj
    have hl : i < ρ.length := by
      have := (List.getElem?_eq_some_iff.mp q).1
      rwa [List.length_set] at this
    rw [List.getElem?_set_self hl] at q
    cases q
    exact ⟨v, by rw [List.getElem?_set_self (by rw [← he.1]; exact hl)], r⟩
  · rw [List.getElem?_set_ne hj] at q
    obtain ⟨u, h1, h2⟩ := he.2 j y q
    exact ⟨u, by rw [List.getElem?_set_ne hj]; exact h1, h2⟩
theorem fg_nm {i : Nat} {x : Str} {pos : Pos} (hN : X.N.Nodup) (hi : X.N[i]? = some x) (hx : Loc X.env.scope x) (hf : X.fn x = true ∨ X.env.scope.names.lookup x = some .local) : PG X (.Name x pos) (tG G (.nm i)) :=
  PG.imp (pg_name hN hi hx hf) fun v σ H Q ⟨y, ρ, w, ρ', e, s, he, r, hb, h⟩ => by
    have hb : (if i < ρ.length then some (ρ.set i (some y)) else none) = some ρ' := hb
    by_cases c : i < ρ.length
    · rw [if_pos c] at hb
      cases hb
      exact h _ (he.set r) (by rw [List.length_set]) fun j hj => List.getElem?_set_ne fun z => hj (by rw [z]; exact List.mem_singleton.mpr rfl)
    · rw [if_neg c] at hb; cases hb
theorem fgs_nil : PGs X [] (tGs G .nil) := PGs.imp pgs_nil fun vs σ H Q ⟨xs, ρ, w, ρ', e, s, he, r, hb, h⟩ => by
  cases xs with
  | nil =>
    have hb : some ρ = some ρ' := hb
    cases hb
    exact ⟨r, h σ he rfl fun _ _ => rfl⟩
  | cons x xs => cases hb
/-- a target that is not starred -/
theorem assign_cons {e : PySem.Expr} {es : List PySem.Expr} {env : PySem.Env} (h : notStar e = true) : assignEach (e :: es) env = (false, assign e env) :: assignEach es env := by
  cases e <;> first | rfl | (cases h)
theorem fgs_cons {e : PySem.Expr} {es : List PySem.Expr} {t : Tg} {ts : Tgs} (hs : notStar e = true) (h1 : PG X e (tG G t)) (h2 : PGs X es (tGs G ts)) : PGs X (e :: es) (tGs G (.cons t ts)) :=
  PGs.imp (pgs_cons h1 h2 (by rw [assign_cons hs]; rfl)) fun vs σ H Q ⟨xs, ρ, w, ρ', e, s, he, r, hb, h⟩ => by
    cases xs with
    | nil => cases hb
    | cons x xs =>
      obtain ⟨v, vr, ev, r1, r2⟩ := r
      have hb : (match bindTg t x ρ with | some ρ1 => bindTgs ts xs ρ1 | none => none) = some ρ' := hb
      cases q : bindTg t x ρ with
      | none => rw [q] at hb; cases hb
      | some ρ1 =>
        rw [q] at hb
        refine ⟨v, vr, ev, x, ρ, w, ρ1, e, s, he, r1, q, fun σ1 he1 l1 k1 => ⟨xs, ρ1, w, ρ', e, s, he1, r2, hb, fun σ2 he2 l2 k2 => ?_⟩⟩
        refine h σ2 he2 (l2.trans l1) fun i hi => ?_
        have hi : i ∉ ixT t ++ ixTs ts := hi
        rw [List.mem_append, not_or] at hi
        rw [k2 i hi.2, k1 i hi.1]
theorem assign_len {env : PySem.Env} : ∀ {es : List PySem.Expr}, (assignEach es env).length = es.length
  | [] => rfl
  | e :: es => by
    cases e <;> exact congrArg Nat.succ (assign_len (es := es))
theorem assign_nost {env : PySem.Env} : ∀ {es : List PySem.Expr}, notStars es = true → (assignEach es env).findIdx? (·.1) = none
  | [], _ => rfl
  | e :: es, h => by
    obtain ⟨h1, h2⟩ := Bool.and_eq_true_iff.mp (show (notStar e && notStars es) = true from h)
    rw [assign_cons h1, List.findIdx?_cons]
    simp [assign_nost h2]
theorem bindTgs_len : ∀ {ts : Tgs} {xs : List W} {ρ ρ' : Env}, bindTgs ts xs ρ = some ρ' → xs.length = lenTs ts
  | .nil, [], _, _, _ => rfl
  | .nil, _ :: _, _, _, h => by cases h
  | .cons _ _, [], _, _, h => by cases h
  | .cons t ts, x :: xs, ρ, ρ', h => by
    have h : (match bindTg t x ρ with | some ρ1 => bindTgs ts xs ρ1 | none => none) = some ρ' := h
    cases q : bindTg t x ρ with
    | none => rw [q] at h; cases h
    | some ρ1 =>
      rw [q] at h
      exact congrArg Nat.succ (bindTgs_len h)
theorem reps_map {w : Wd} : ∀ {ps : List P} {vs : List V}, rep.reps G w.H w.ow ps vs → repWs G w (ps.map W.p) vs
  | [], _, h => h
  | _ :: _, _, ⟨v, t, e, r1, r2⟩ => ⟨v, t, e, r1, reps_map r2⟩
theorem reps_mapb {w : Wd} : ∀ {ps : List P} {vs : List V}, rep.reps G w.H w.hot ps vs → repWs G w (ps.map borP) vs
  | [], _, h => h
  | _ :: _, _, ⟨v, t, e, r1, r2⟩ => ⟨v, t, e, borP_rep r1, reps_mapb r2⟩
theorem fg_tup {es : List PySem.Expr} {k : Nat} {pos : Pos} {ts : Tgs} (hK : X.K = G.K) (hc : X.calm = true) (hst : notStars es = true) (hl : es.length = lenTs ts) (h : PGs X es (tGs G ts)) : PG X (.Tuple es k pos) (tG G (.tup ts)) :=
  PG.imp (pg_tup hc h (n := lenTs ts) (by rw [assign_len, hl]) (assign_nost hst)) fun v σ H Q ⟨x, ρ, w, ρ', e, s, he, r, hb, h⟩ => by
    subst e
    cases x with
    | p p =>
      cases p with
      | tup ps =>
        obtain ⟨a, vs, ev, t, rs⟩ := r
        have hb : bindTgs ts (ps.map W.p) ρ = some ρ' := hb
        have rw' := reps_map rs
        exact ⟨a, vs, ev, by rw [hK]; exact t.sq, by rw [repWs_len rw', bindTgs_len hb], ps.map W.p, ρ, w, ρ', rfl, s, he, rw', hb, h⟩
      | _ => cases hb
    | b p =>
      cases p with
      | tup ps =>
        obtain ⟨a, vs, ev, t, rs⟩ := (show rep G w.H w.hot _ v from r)
        have hb : bindTgs ts (ps.map borP) ρ = some ρ' := hb
        have rw' := reps_mapb rs
        exact ⟨a, vs, ev, by rw [hK]; exact t.sq, by rw [repWs_len rw', bindTgs_len hb], ps.map borP, ρ, w, ρ', rfl, s, he, rw', hb, h⟩
      | _ => cases hb
    | c k => cases hb

/-! ### target = value -/
theorem asg_body {t : Tg} {a : E} {ρ : Env} {w : Wd} {σ : L2.St} {D : Ends} (he : RepE G w σ ρ) (h : OkS G Wx (exS O (.asg t a) ρ w.S) w D) : Ok G Wx (evE O a ρ w.S) w σ fun v H1 => tG G t v σ H1 D.nx := by
  refine ok_out (k := fun x S1 => match bindTg t x ρ with | some ρ1 => .nx ρ1 S1 | none => .bad) he h fun x S' v w' _ h1 n r => ?_
  cases q : bindTg t x ρ with
  | none => rw [q] at h1; exact h1.elim
  | some ρ1 =>
    rw [q] at h1
    exact ⟨x, ρ, w', ρ1, rfl, n.r, n.g.env he, r, q, fun σ' he' _ _ => h1 σ' w' ⟨n.S, n.r, Gro.refl w'⟩ he'⟩
theorem fs_asg {tg e : PySem.Expr} {t : Tg} {a : E} {pos : Pos} (ha : PE X e (tE G Wx (evE O a))) (hg : PG X tg (tG G t)) (hst : notStar tg = true) (hs : swapsWithSole [tg] e pos.line X.env = pure false) (hw : swappedStores [tg] e X.env = pure none) :
    PS X (.Assign [tg] e pos) (tS G Wx (exS O (.asg t a))) :=
  PS.imp (ps_asg ha hg hs hw (by rw [assign_cons hst]; rfl)) fun D σ H ⟨ρ, w, e, s, he, h⟩ => by
    subst e
    exact ⟨ρ, w, rfl, s, he, asg_body he h⟩
/-- name = value -/
theorem fs_set {i : Nat} {x : Str} {e : PySem.Expr} {a : E} {pos pos' : Pos} (hN : X.N.Nodup) (hi : X.N[i]? = some x) (hx : Loc X.env.scope x) (hf : X.fn x = true ∨ X.env.scope.names.lookup x = some .local) (ha : PE X e (tE G Wx (evE O a))) (hs : swapsWith e (some (.Name x pos')) pos.line X.env = pure false) :
    PS X (.Assign [.Name x pos'] e pos) (tS G Wx (exS O (.asg (.nm i) a))) :=
  PS.imp (ps_set hN hi hx ha hs hf) fun D σ H ⟨ρ, w, e, s, he, h⟩ => by
    subst e
    refine ⟨ρ, w, rfl, s, he, ok_out (k := fun x S1 => match bindTg (.nm i) x ρ with | some ρ1 => .nx ρ1 S1 | none => .bad) he h fun y S' v w' _ h1 n r => ?_⟩
    have h1 : OkS G Wx (match (if i < ρ.length then some (ρ.set i (some y)) else none) with | some ρ1 => .nx ρ1 S' | none => .bad) w' D := h1
    by_cases c : i < ρ.length
    · rw [if_pos c] at h1
      exact h1 _ w' ⟨n.S, n.r, Gro.refl w'⟩ ((n.g.env he).set r)
    · rw [if_neg c] at h1; exact h1.elim

/-! ### o.f = value, o a new instance of one's own -/
theorem putF_rep {w : Wd} {f : Str} {x : W} {v : V} (r : repW G w x v) : ∀ {fs : List (Str × W)} {vs : List (Str × V)}, repWf G w fs vs → repWf G w (putW f x fs) (putF f v vs)
  | [], vs, h => by rw [show vs = [] from h]; exact ⟨v, [], rfl, r, rfl⟩
  | (g, y) :: fs, vs, ⟨u, t, e, r1, r2⟩ => by
    subst e
    unfold putW putF
    by_cases c : g = f
    · rw [if_pos c]
      first
        | (rw [if_pos c]; exact ⟨v, t, rfl, r, r2⟩)
        | (simp only [c, if_true, beq_self_eq_true]; exact ⟨v, t, rfl, r, r2⟩)
    · rw [if_neg c]
      first
        | (rw [if_neg c]; exact ⟨u, _, rfl, r1, putF_rep r r2⟩)
        | (simp only [beq_iff_eq, c, if_false]; exact ⟨u, _, rfl, r1, putF_rep r r2⟩)
theorem repWf_len {w : Wd} : ∀ {fs : List (Str × W)} {vs : List (Str × V)}, repWf G w fs vs → vs.length = fs.length
  | [], _, h => by rw [show _ = [] from h]; rfl
  | _ :: _, _, ⟨_, _, e, _, r⟩ => by rw [e, List.length_cons, List.length_cons, repWf_len r]
theorem fs_setf {o value : PySem.Expr} {f : Str} {a b : E} {pos pos' : Pos} (hc : ∀ c, Cls X.K (G.ca c)) (hn : ∀ c, NoAttr X.K (G.ca c) f) (ho : PE X o (tE G Wx (evE O a))) (hv : PE X value (tE G Wx (evE O b)))
    (hs : swapsWith value (some (.Attribute o f pos')) pos.line X.env = pure false) : PS X (.Assign [.Attribute o f pos'] value pos) (tS G Wx (exS O (.setf a f b))) :=
  PS.imp (ps_fld ho hv hs) fun D σ H ⟨ρ, w, e, s, he, h⟩ => by
    subst e
    refine ⟨ρ, w, rfl, s, he, ok_out he h fun y S1 u w1 _ h1 n1 r1 => ⟨ρ, w1, rfl, n1.r, n1.g.env he, ?_⟩⟩
    have eS := n1.S
    subst eS
    refine ok_out (n1.g.env he) h1 fun x S2 v w2 _ h2 n2 r2 => ?_
    have eS := n2.S
    subst eS
    cases x with
    | p p => exact h2.elim
    | b p => exact h2.elim
    | c k =>
      dsimp only at h2
      cases q : w2.S[k]? with
      | none => rw [q] at h2; exact h2.elim
      | some ce =>
        rw [q] at h2
        cases ce with
        | ins c fs =>
          dsimp only at h2
          by_cases hl : fs.length < 1000
          · rw [if_pos hl] at h2
            obtain ⟨ad, ha, ev⟩ := r2
            obtain ⟨dx, vs, ea, rf⟩ := n2.r.cell k ad _ ha q
            refine ⟨ad, G.ca c, dx, vs, ev, ea, hc c, hn c, by rw [repWf_len rf]; exact hl, ?_⟩
            have hk : alive w2.S k := ⟨_, q, fun z => by cases z⟩
            have g3 := Gro.put (o := .ins (G.ca c) dx (putF f u vs)) (c := .ins c (putW f y fs)) n2.r ha hk
            have s3 := SR.put (o := .ins (G.ca c) dx (putF f u vs)) (c := .ins c (putW f y fs)) n2.r ha hk ⟨dx, _, upd_same, putF_rep (g3.repW (n2.g.repW r1)) (g3.repWf rf)⟩
            exact h2 σ (w2.put k ad (.ins (G.ca c) dx (putF f u vs)) (.ins c (putW f y fs))) ⟨rfl, s3, g3⟩ ((n1.trans (n2.trans ⟨rfl, s3, g3⟩)).g.env he)
          · rw [if_neg hl] at h2; exact h2.elim
        | _ => exact h2.elim
end
end FD

set_option Elab.async false
set_option linter.all false
set_option autoImplicit false
set_option maxRecDepth 100000
set_option maxHeartbeats 2000000
/-! FDk: what loops walk; for, while. -/
namespace FD
open PySem PySem.Spec PyProof.Rows L2
/-- what is told of values stays told -/
structure Mov (w w' : Wd) : Prop where
  st : Stay w.H w'.H w.ow w'.ow
  sh : Stay w.H w'.H w.hot w'.hot
  io : ∀ (k : Nat) (a : Addr), w.io[k]? = some a → w'.io[k]? = some a
/-- from a world to a later one where more may be barred -/
structure Bas (w w' : Wd) : Prop where
  keep : ∀ b o, w.H b = some o → ¬ w.own b → w'.H b = some o
  own : ∀ a, w'.own a → w.own a ∨ w.H a = none
  out : ∀ a, w'.ow a → w.ow a ∨ w.H a = none
  hot : ∀ a, w'.hot a → w.hot a ∨ w.H a = none
  io : ∀ (k : Nat) (a : Addr), w.io[k]? = some a → w'.io[k]? = some a
section
variable {G : Ga} {w w1 w2 w3 w' : Wd}
theorem Gro.bas (e : Gro w w') : Bas w w' := ⟨e.keep, e.own, fun a h => by
  rcases h with h | h
  · rw [e.O] at h; exact .inl (.inl h)
  · rcases e.own a h with z | z
    · exact .inl (.inr z)
    · exact .inr z, fun a h => by
  rcases h with h | h
  · rcases e.own a h with z | z
    · exact .inl (.inl z)
    · exact .inr z
  · rw [e.N] at h; exact .inl (.inr h), e.io⟩
theorem Bas.trans (a : Bas w1 w2) (b : Gro w2 w3) : Bas w1 w3 := by
  have up : ∀ {c : Addr}, w2.H c = none → ∀ o, w1.H c = some o → w1.own c := fun {c} h o e => by
    by_cases n : w1.own c
    · exact n
    · rw [a.keep c o e n] at h; cases h
  have non : ∀ {c : Addr}, w2.H c = none → w1.own c ∨ w1.H c = none := fun {c} h => by
    cases q : w1.H c with
    | none => exact .inr rfl
    | some o => exact .inl (up h o q)
  have own3 : ∀ c, w3.own c → w1.own c ∨ w1.H c = none := fun c h => by
    rcases b.own c h with z | z
    · exact a.own c z
    · exact non z
  refine ⟨fun c o h n => ?_, own3, fun c h => ?_, fun c h => ?_, fun k c h => b.io k c (a.io k c h)⟩
  · refine b.keep c o (a.keep c o h n) fun q => ?_
    rcases a.own c q with z | z
    · exact n z
    · rw [h] at z; cases z
  · rcases h with h | h
    · rw [b.O] at h; exact a.out c (.inl h)
    · rcases own3 c h with z | z
      · exact .inl (.inr z)
      · exact .inr z
  · rcases h with h | h
    · rcases own3 c h with z | z
      · exact .inl (.inl z)
      · exact .inr z
    · rw [b.N] at h; exact a.hot c (.inr h)
theorem Bas.refl : Bas w w := (Gro.refl w).bas
theorem Bas.mov (e : Bas w w') : Mov w w' := ⟨fun b o h n => ⟨e.keep b o h fun z => n (.inr z), fun q => by
  rcases e.out b q with z | z
  · exact n z
  · rw [h] at z; cases z⟩, fun b o h n => ⟨e.keep b o h fun z => n (.inl z), fun q => by
  rcases e.hot b q with z | z
  · exact n z
  · rw [h] at z; cases z⟩, e.io⟩
theorem Mov.repW (e : Mov w w') : ∀ {x : W} {v : V}, repW G w x v → repW G w' x v
  | .p x, v, h => rep_stay e.st x v h
  | .c k, v, ⟨a, h1, h2⟩ => ⟨a, e.io k a h1, h2⟩
  | .b x, v, h => rep_stay e.sh x v h
theorem Mov.repWs (e : Mov w w') : ∀ {xs : List W} {vs : List V}, repWs G w xs vs → repWs G w' xs vs
  | [], _, h => h
  | _ :: _, _, ⟨v, r, q, h1, h2⟩ => ⟨v, r, q, e.repW h1, e.repWs h2⟩
theorem Mov.repWk (e : Mov w w') : ∀ {xs : List (P × W)} {vs : List (Key × V)}, repWk G w xs vs → repWk G w' xs vs
  | [], _, h => h
  | _ :: _, _, ⟨j, v, r, q, k, h1, h2⟩ => ⟨j, v, r, q, k, e.repW h1, e.repWk h2⟩
theorem Mov.repWf (e : Mov w w') : ∀ {xs : List (Str × W)} {vs : List (Str × V)}, repWf G w xs vs → repWf G w' xs vs
  | [], _, h => h
  | _ :: _, _, ⟨v, r, q, h1, h2⟩ => ⟨v, r, q, e.repW h1, e.repWf h2⟩
theorem Mov.env (e : Mov w w') {σ : L2.St} {ρ : Env} (h : RepE G w σ ρ) : RepE G w' σ ρ := ⟨h.1, fun i x q => let ⟨v, a, b⟩ := h.2 i x q; ⟨v, a, e.repW b⟩⟩
theorem Mov.repC (e : Mov w w') {a : Addr} {c : Cell} (hH : w'.H a = w.H a) (hx : ∀ b φ, w.H b = some (.ext φ) → w'.H b = some (.ext φ)) (h : repC G w a c) : repC G w' a c := by
  cases c with
  | lst xs => obtain ⟨vs, z, r⟩ := h; exact ⟨vs, hH.trans z, e.repWs r⟩
  | dct kvs => obtain ⟨vs, z, r⟩ := h; exact ⟨vs, hH.trans z, e.repWk r⟩
  | ins c fs => obtain ⟨dx, vs, z, r⟩ := h; exact ⟨dx, vs, hH.trans z, e.repWf r⟩
  | tab _ q' =>
    obtain ⟨h0, ps, h1, h2, h3⟩ := h
    refine ⟨h0, ps, hH.trans h1, h2, fun pos cv hc => ?_⟩
    obtain ⟨c, e1, e2⟩ := h3 pos cv hc
    exact ⟨c, e1, hx _ _ e2⟩
  | dead => trivial

/-- J walks the items xs -/
structure Walks (G : Ga) (w1 : Wd) (J : L2.It) (xs : List W) : Prop where
  goes : ∀ i w2, Bas w1 w2 → i < xs.length → J.go i w2.H
  stops : ∀ w2, Bas w1 w2 → J.stop xs.length w2.H
  yields : ∀ i w2 v H', Bas w1 w2 → SR G w2 → i < xs.length → J.yld i w2.H v H' → ∃ (w3 : Wd) (y : W), w3.H = H' ∧ Nx G w2 w3 w2.S ∧ xs[i]? = some y ∧ repW G w3 y v
theorem Walks.from {J : L2.It} {xs : List W} (h : Walks G w1 J xs) (e : Gro w1 w2) (tr : ∀ w3, Bas w2 w3 → Bas w1 w3) : Walks G w2 J xs :=
  ⟨fun i w3 b => h.goes i w3 (tr w3 b), fun w3 b => h.stops w3 (tr w3 b), fun i w3 v H' b => h.yields i w3 v H' (tr w3 b)⟩
/-- a walk that leaves the heap as it is -/
theorem walks_of {J : L2.It} {xs : List W} {vs : List V} {Gd : Hp → Prop} (wk : Walk J vs.length Gd (YAt vs)) (hg : ∀ w2, Bas w1 w2 → Gd w2.H) (r : repWs G w1 xs vs) : Walks G w1 J xs := by
  have hl := repWs_len r
  refine ⟨fun i w2 b hi => wk.goes i w2.H (by omega) (hg w2 b), fun w2 b => ?_, fun i w2 v H' b s hi y => ?_⟩
  · rw [← hl]; exact wk.stops w2.H (hg w2 b)
  · obtain ⟨e, q⟩ := wk.yields i w2.H v H' (by omega) (hg w2 b) y
    obtain ⟨x, h1, h2⟩ := repWs_get' r q
    exact ⟨w2, x, e.symm, ⟨rfl, s, Gro.refl w2⟩, h1, b.mov.repW h2⟩
theorem lst_bas {a : Addr} {vs : List V} {ow : Addr → Prop} (ho : ∀ a, w1.own a → ow a) (h : LstAt w1.H ow a vs) (b : Bas w1 w2) : SqL G.K w2.H a vs := .inl (.inl (b.keep a _ h.1 fun z => h.2 (ho a z)))
theorem tup_bas {a : Addr} {vs : List V} {ow : Addr → Prop} (ho : ∀ a, w1.own a → ow a) (h : TupAt G w1.H ow a vs) (b : Bas w1 w2) : SqT G.K w2.H a vs := by
  rcases h with ⟨h, n⟩ | h
  · have nn : ¬ w1.own a := fun z => n (ho a z)
    rcases h with h | ⟨o, h⟩
    · exact .inl (.inl (b.keep a _ h nn))
    · exact .inl (.inr ⟨o, b.keep a _ h nn⟩)
  · exact TupAt.sq (H := w2.H) (ow := ow) (.inr h)
end

/-! ### what is walked -/
section
variable (G : Ga) (Wx : WX)
def OkI (g : R (List W)) (w : Wd) (σ : L2.St) (R : L2.It → Hp → Prop) : Prop := match g with
  | .ok xs S' => ∀ J w', Nx G w w' S' → Walks G w' J xs → R J w'.H
  | .ex e S' => ∀ d w', Nx G w w' S' → repX G w' e d → Wx (.ref (G.xa e.c)) (some d) σ w'.H
  | .bad => False
def tI (g : Env → Store → R (List W)) : TI := fun σ H R => In G σ H fun ρ w => OkI G Wx (g ρ w.S) w σ R
end
section
variable {G : Ga} {Wx : WX} {X : Cx} {O : Or}
theorem PI.imp {tg e : PySem.Expr} {t t' : TI} (h : PI X tg e t) (hi : ∀ σ H R, t' σ H R → t σ H R) : PI X tg e t' := ⟨fun pins s σ H R I q => h.run pins s σ H R I (hi σ H R q)⟩
theorem OkI.from {g : R (List W)} {w w1 : Wd} {S1 : Store} {σ : L2.St} {R : L2.It → Hp → Prop} (h : OkI G Wx g w σ R) (n : Nx G w w1 S1) : OkI G Wx g w1 σ R := by
  cases g with
  | ok xs S' => exact fun J w' n' wk => h J w' (n.trans n') wk
  | ex e S' => exact fun d w' n' rp => h d w' (n.trans n') rp
  | bad => exact h
theorem ok_seqI {r : R W} {k : W → Store → R (List W)} {w : Wd} {σ : L2.St} {Q : VK} {R' : L2.It → Hp → Prop} (h : OkI G Wx (r.bind k) w σ R')
    (hk : ∀ x S' v w', r = .ok x S' → OkI G Wx (k x S') w' σ R' → Nx G w w' S' → repW G w' x v → Q v w'.H) : Ok G Wx r w σ Q := by
  cases r with
  | ok x S' => exact fun v w' n rp => hk x S' v w' rfl (OkI.from (show OkI G Wx (k x S') w σ R' from h) n) n rp
  | ex e S' => exact h
  | bad => exact h
theorem okL_seqI {r : R (List W)} {k : List W → Store → R (List W)} {w : Wd} {σ : L2.St} {Q : List V → Hp → Prop} {R' : L2.It → Hp → Prop} (h : OkI G Wx (r.bind k) w σ R')
    (hk : ∀ x S' v w', r = .ok x S' → OkI G Wx (k x S') w' σ R' → Nx G w w' S' → repWs G w' x v → Q v w'.H) : OkL G Wx r w σ Q := by
  cases r with
  | ok x S' => exact fun v w' n rp => hk x S' v w' rfl (OkI.from (show OkI G Wx (k x S') w σ R' from h) n) n rp
  | ex e S' => exact h
  | bad => exact h
variable {pins : List (Addr × Obj)} {σ : L2.St} {H : Hp} {s : Shared}
theorem lst_it {tg : PySem.Expr} {a : Addr} {xs : List V} {R : L2.It → Hp → Prop} (I : Inv X pins σ H s) (hq : SqL X.K H a xs) (q : R (Itl X.K a) H) : wpAny (model X.prog X.w) X.A (pyIter (.ref a)) (PIE X pins σ tg R) X.xe s := by
  obtain ⟨its, rv, p, hz⟩ := I.list hq
  refine wpAny_pyIter_list p.isList ?_
  refine ⟨s.heap.objs.size, [s.heap.objs.size], _, _, H, rfl, I.kept (t' := s.toks) fun b o e => Heap.get?_push_of_some _ e, turn_list a _, ⟨_, Heap.get?_push_size _ rfl, rfl, rfl⟩, fun b hb => ?_, q⟩
  have e : b = s.heap.objs.size := by simpa using hb
  subst e
  exact I.fpOk (Nat.le_refl _) (I.hok.fresh (Nat.le_refl _))
theorem tup_it {tg : PySem.Expr} {a : Addr} {xs : List V} {R : L2.It → Hp → Prop} (I : Inv X pins σ H s) (hq : SqT X.K H a xs) (q : R (Itt X.K a) H) : wpAny (model X.prog X.w) X.A (pyIter (.ref a)) (PIE X pins σ tg R) X.xe s := by
  obtain ⟨its, rv, p, hz⟩ := I.tuple hq
  refine wpAny_pyIter_tuple (show s.heap.IsTuple a its.toArray from p) ?_
  refine ⟨s.heap.objs.size, [s.heap.objs.size], _, _, H, rfl, I.kept (t' := s.toks) fun b o e => Heap.get?_push_of_some _ e, turn_tuple a _, ⟨_, Heap.get?_push_size _ rfl, rfl, rfl⟩, fun b hb => ?_, q⟩
  have e : b = s.heap.objs.size := by simpa using hb
  subst e
  exact I.fpOk (Nat.le_refl _) (I.hok.fresh (Nat.le_refl _))
/-- a list or a tuple -/
theorem fi_seq {tg e : PySem.Expr} {a : E} (hK : X.K = G.K) (he : PE X e (tE G Wx (evE O a))) : PI X tg e (tI G Wx (evIt O (.seq a))) :=
  ⟨fun pins s σ H R I ⟨ρ, w, e, sr, hen, h⟩ => by
    subst e
    refine thn (he.run pins s σ w.H (fun v H1 => ∃ x w1 xs, w1.H = H1 ∧ SR G w1 ∧ repW G w1 x v ∧ itemsW x = some xs ∧ ∀ J, Walks G w1 J xs → R J w1.H) I ⟨ρ, w, rfl, sr, hen, ok_seqI h fun x S1 v w1 _ h1 n1 r1 => ?_⟩) fun u s1 hh => ?_
    · have eS := n1.S
      subst eS
      cases q : itemsW x with
      | none => rw [q] at h1; exact h1.elim
      | some xs =>
        rw [q] at h1
        exact ⟨x, w1, xs, rfl, n1.r, r1, q, fun J wk => h1 J w1 (Nx.refl n1.r) wk⟩
    · obtain ⟨v, H1, I1, rv, x, w1, xs, eH, s1r, r1, hx, hR⟩ := hh
      subst eH
      have fin : ∀ (p : P) (ow : Addr → Prop) (ho : ∀ a, w1.own a → ow a), rep G w1.H ow p v → (∀ ps vs, itemsP p = some ps → rep.reps G w1.H ow ps vs → repWs G w1 xs vs) → (itemsP p).isSome = true → wpAny (model X.prog X.w) X.A (pyIter u) (PIE X pins σ tg R) X.xe s1 := fun p ow ho r hr hs => by
        cases p with
        | tup ps =>
          obtain ⟨ad, vs, ev, t, rs⟩ := r
          subst ev
          obtain rfl : u = Value.ref ad := rv
          exact tup_it I1 (by rw [hK]; exact t.sq) (hR _ (by rw [hK]; exact walks_of walk_tup (fun w2 b => tup_bas ho t b) (hr ps vs rfl rs)))
        | lst ps =>
          obtain ⟨ad, vs, ev, t, rs⟩ := r
          subst ev
          obtain rfl : u = Value.ref ad := rv
          exact lst_it I1 (by rw [hK]; exact t.sq) (hR _ (by rw [hK]; exact walks_of walk_list (fun w2 b => lst_bas ho t b) (hr ps vs rfl rs)))
        | _ => cases hs
      cases x with
      | p p =>
        have hx : (itemsP p).map (List.map W.p) = some xs := hx
        cases q : itemsP p with
        | none => rw [q] at hx; cases hx
        | some ps =>
          rw [q] at hx
          cases hx
          exact fin p w1.ow (fun a z => .inr z) r1 (fun ps' vs e rs => by rw [q] at e; cases e; exact reps_map rs) (by rw [q]; rfl)
      | b p =>
        have hx : (itemsP p).map (List.map borP) = some xs := hx
        cases q : itemsP p with
        | none => rw [q] at hx; cases hx
        | some ps =>
          rw [q] at hx
          cases hx
          exact fin p w1.hot (fun a z => .inl z) r1 (fun ps' vs e rs => by rw [q] at e; cases e; exact reps_mapb rs) (by rw [q]; rfl)
      | c k => cases hx⟩
theorem okL_one {a : E} {ρ : Env} {w : Wd} {Q : List V → Hp → Prop} (h : Ok G Wx (evE O a ρ w.S) w σ fun v H1 => Q [v] H1) : OkL G Wx (evEs O (.cons a .nil) ρ w.S) w σ Q := by
  show OkL G Wx ((evE O a ρ w.S).bind fun x S1 => (R.ok ([] : List W) S1).bind fun xs S2 => .ok (x :: xs) S2) w σ Q
  cases q : evE O a ρ w.S with
  | ok x S' =>
    rw [q] at h
    intro vs w' n ⟨v, t, e, r1, r2⟩
    rw [e, show t = [] from r2]
    exact h v w' n r1
  | ex e S' => rw [q] at h; exact h
  | bad => rw [q] at h; exact h
theorem okL_two {a b : E} {ρ : Env} {w : Wd} {Q : List V → Hp → Prop} {k : W → W → Store → R (List W)} {R' : L2.It → Hp → Prop} (he : RepE G w σ ρ) (h : OkI G Wx ((evE O a ρ w.S).bind fun x S1 => (evE O b ρ S1).bind fun y S2 => k x y S2) w σ R')
    (hk : ∀ x y v u w2, OkI G Wx (k x y w2.S) w2 σ R' → Nx G w w2 w2.S → repW G w2 x v → repW G w2 y u → Q [v, u] w2.H) : OkL G Wx (evEs O (.cons a (.cons b .nil)) ρ w.S) w σ Q := by
  show OkL G Wx ((evE O a ρ w.S).bind fun x S1 => ((evE O b ρ S1).bind fun y S2 => (R.ok ([] : List W) S2).bind fun xs S3 => .ok (y :: xs) S3).bind fun xs S2 => .ok (x :: xs) S2) w σ Q
  cases q : evE O a ρ w.S with
  | ok x S' =>
    rw [q] at h
    have h : OkI G Wx ((evE O b ρ S').bind fun y S2 => k x y S2) w σ R' := h
    show OkL G Wx (((evE O b ρ S').bind fun y S2 => (R.ok ([] : List W) S2).bind fun xs S3 => .ok (y :: xs) S3).bind fun xs S2 => .ok (x :: xs) S2) w σ Q
    cases q2 : evE O b ρ S' with
    | ok y S2 =>
      rw [q2] at h
      intro vs w' n ⟨v, t, e, r1, u, t2, e2, r2, r3⟩
      rw [e, e2, show t2 = [] from r3]
      have eS := n.S
      subst eS
      exact hk x y v u w' (OkI.from (show OkI G Wx (k x y w'.S) w σ R' from h) n) n r1 r2
    | ex e S2 => rw [q2] at h; exact h
    | bad => rw [q2] at h; exact h
  | ex e S' => rw [q] at h; exact h
  | bad => rw [q] at h; exact h
theorem okRng_ok {i j : Int} (h : okRng i j = true) : -(2 ^ 62) ≤ i ∧ i < 2 ^ 62 ∧ -(2 ^ 62) ≤ j ∧ j < 2 ^ 62 := of_decide_eq_true h
theorem rngL_len {lo : Int} {n : Nat} : (rngL lo n).length = n := by simp [rngL]
theorem walks_rng {w1 : Wd} {lo : Int} {n : Nat} : Walks G w1 (Itr lo n) (rngL lo n) := by
  refine ⟨fun i w2 b hi => by rw [rngL_len] at hi; exact hi, fun w2 b => by rw [rngL_len]; exact Nat.le_refl n, fun i w2 v H' b s hi y => ?_⟩
  obtain ⟨e1, e2⟩ := y
  rw [rngL_len] at hi
  refine ⟨w2, .p (.int (lo + (i : Nat))), e1.symm, Nx.refl s, ?_, e2⟩
  simp [rngL, hi]
theorem fi_rng {tg ea : PySem.Expr} {a : E} {p pos : Pos} (hg : Gl X "range") (hm : X.mg "range" = none) (hs : notStar ea = true) (ha : PE X ea (tE G Wx (evE O a))) : PI X tg (.Call (.Name "range" p) [ea] [] pos) (tI G Wx (evIt O (.rng a))) :=
  PI.imp (pi_range1 hg hm (fa_cons hs ha fa_nil) (star_cons hs)) fun σ H R ⟨ρ, w, e, sr, hen, h⟩ => by
    subst e
    refine ⟨ρ, w, rfl, sr, hen, okL_one (ok_seqI h fun x S1 v w1 _ h1 n1 r1 => ?_)⟩
    have eS := n1.S
    subst eS
    cases x with
    | p p =>
      cases p with
      | int i =>
        dsimp only at h1
        cases q : okRng 0 i with
        | false => rw [q] at h1; exact h1.elim
        | true =>
          rw [q] at h1
          obtain ⟨_, _, q1, q2⟩ := okRng_ok q
          have r1 : v = .int i := r1
          exact ⟨i, by rw [r1], q1, q2, h1 _ w1 (Nx.refl n1.r) walks_rng⟩
      | _ => exact h1.elim
    | _ => exact h1.elim
theorem fi_rng2 {tg ea eb : PySem.Expr} {a b : E} {p pos : Pos} (hg : Gl X "range") (hm : X.mg "range" = none) (hs : notStar ea = true) (hs2 : notStar eb = true) (ha : PE X ea (tE G Wx (evE O a))) (hb : PE X eb (tE G Wx (evE O b))) : PI X tg (.Call (.Name "range" p) [ea, eb] [] pos) (tI G Wx (evIt O (.rng2 a b))) :=
  PI.imp (pi_range2 hg hm (fa_cons hs ha (fa_cons hs2 hb fa_nil)) (by rw [star_cons hs, star_cons hs2]; rfl) (by rw [star_cons hs2]; rfl)) fun σ H R ⟨ρ, w, e, sr, hen, h⟩ => by
    subst e
    refine ⟨ρ, w, rfl, sr, hen, okL_two hen h fun x y v u w2 h2 n2 r1 r2 => ?_⟩
    cases x with
    | p p =>
      cases y with
      | p q =>
        cases p with
        | int i =>
          cases q with
          | int j =>
            dsimp only at h2
            cases q : okRng i j with
            | false => rw [q] at h2; exact h2.elim
            | true =>
              rw [q] at h2
              have r1 : v = .int i := r1
              have r2 : u = .int j := r2
              exact ⟨i, j, by rw [r1, r2], okRng_ok q, h2 _ w2 (Nx.refl n2.r) walks_rng⟩
          | _ => exact h2.elim
        | _ => exact h2.elim
      | _ => cases p <;> exact h2.elim
    | _ => exact h2.elim

/-! ### for -/
theorem drop_get {α : Type} {xs : List α} {i : Nat} {x : α} (h : xs[i]? = some x) : xs.drop i = x :: xs.drop (i + 1) := by
  obtain ⟨h1, h2⟩ := List.getElem?_eq_some_iff.mp h
  rw [List.drop_eq_getElem_cons h1, h2]
theorem for_w {J : L2.It} {xs : List W} {w1 : Wd} {t : Tg} {body : List Sm} {ρ : Env} {D : Ends} (wk : Walks G w1 J xs) (s1 : SR G w1) (he : RepE G w1 σ ρ) (h : OkS G Wx (forL t (exSs O body) xs ρ w1.S) w1 D) :
    ∃ W : Nat → Nat → L2.St → Hp → Prop, (∃ m, W 0 m σ w1.H) ∧ ∀ i m σ H, W i m σ H → (J.stop i H ∧ D.nx σ H) ∨ (J.go i H ∧ ∃ N : L2.St → Hp → Prop, (∀ σ' H', N σ' H' → ∃ m', m' < m ∧ W (i + 1) m' σ' H') ∧
      ∀ x H', J.yld i H x H' → tG G t x σ H' fun σ2 H2 => tS G Wx (exSs O body) { D with nx := N, ct := N, bk := D.nx } σ2 H2) := by
  refine ⟨fun i m σ H => m = xs.length - i ∧ i ≤ xs.length ∧ ∃ ρ w2, w2.H = H ∧ Gro w1 w2 ∧ SR G w2 ∧ RepE G w2 σ ρ ∧ OkS G Wx (forL t (exSs O body) (xs.drop i) ρ w2.S) w2 D, ⟨_, rfl, Nat.zero_le _, ρ, w1, rfl, Gro.refl w1, s1, he, h⟩, ?_⟩
  rintro i m σ H ⟨rfl, hi, ρ, w2, eH, g2, s2, he2, h2⟩
  subst eH
  by_cases hlt : i < xs.length
  · refine .inr ⟨wk.goes i w2 g2.bas hlt, fun σ H => ∃ ρ w2, w2.H = H ∧ Gro w1 w2 ∧ SR G w2 ∧ RepE G w2 σ ρ ∧ OkS G Wx (forL t (exSs O body) (xs.drop (i + 1)) ρ w2.S) w2 D, fun σ' H' hN => ⟨_, by omega, rfl, hlt, hN⟩, fun v H' y => ?_⟩
    obtain ⟨w3, x, eH, n3, hx, r3⟩ := wk.yields i w2 v H' g2.bas s2 hlt y
    subst eH
    rw [drop_get hx] at h2
    have h2 : OkS G Wx (match bindTg t x ρ with
      | some ρ1 => match exSs O body ρ1 w2.S with
        | .nx ρ2 S2 => forL t (exSs O body) (xs.drop (i + 1)) ρ2 S2
        | .ct ρ2 S2 => forL t (exSs O body) (xs.drop (i + 1)) ρ2 S2
        | .bk ρ2 S2 => .nx ρ2 S2
        | o => o
      | none => .bad) w2 D := h2
    cases hb : bindTg t x ρ with
    | none => rw [hb] at h2; exact h2.elim
    | some ρ1 =>
      rw [hb] at h2
      dsimp only at h2
      have eS := n3.S
      refine ⟨x, ρ, w3, ρ1, rfl, n3.r, n3.g.env he2, r3, hb, fun σ' he' _ _ => tS_at n3.r he' ?_⟩
      have h3 := OkS.from h2 n3
      rw [← eS] at h3
      cases q : exSs O body ρ1 w3.S with
      | nx ρ2 S2 =>
        rw [q] at h3
        intro σ4 w4 n4 r4
        have e4 := n4.S
        subst e4
        exact ⟨ρ2, w4, rfl, g2.trans (n3.g.trans n4.g), n4.r, r4, OkS.from h3 n4⟩
      | ct ρ2 S2 =>
        rw [q] at h3
        intro σ4 w4 n4 r4
        have e4 := n4.S
        subst e4
        exact ⟨ρ2, w4, rfl, g2.trans (n3.g.trans n4.g), n4.r, r4, OkS.from h3 n4⟩
      | bk ρ2 S2 => rw [q] at h3; exact h3
      | rt x S2 => rw [q] at h3; exact h3
      | ex e ρ2 S2 => rw [q] at h3; exact h3
      | bad => rw [q] at h3; exact h3.elim
  · have e : i = xs.length := by omega
    subst e
    rw [List.drop_length] at h2
    exact .inl ⟨wk.stops w2 g2.bas, h2 σ w2 (Nx.refl s2) he2⟩
theorem fs_for {tg iter : PySem.Expr} {it : It} {t : Tg} {body : List Stmt} {b : List Sm} {pos : Pos} (hp : PassesOwn (model X.prog X.w) X.A X.env X.xe) (hc : X.calm = true) (hi : PI X tg iter (tI G Wx (evIt O it))) (hg : PG X tg (tG G t)) (hb : PSs X body (tS G Wx (exSs O b)))
    (hs : ∀ x, foldedSetIterable iter X.env x = pure x) : PS X (.For tg iter body [] pos) (tS G Wx (exS O (.for_ it t b))) :=
  PS.imp (ps_for hp hc hi hg hb hs) fun D σ H ⟨ρ, w, e, s, he, h⟩ => by
    subst e
    refine ⟨ρ, w, rfl, s, he, ?_⟩
    have h : OkS G Wx (match evIt O it ρ w.S with | .ok xs S1 => forL t (exSs O b) xs ρ S1 | .ex e S1 => .ex e ρ S1 | .bad => .bad) w D := h
    show OkI G Wx (evIt O it ρ w.S) w σ _
    cases q : evIt O it ρ w.S with
    | ok xs S1 =>
      rw [q] at h
      intro J w' n wk
      have eS := n.S
      subst eS
      exact for_w wk n.r (n.g.env he) (OkS.from h n)
    | ex e S1 =>
      rw [q] at h
      exact fun d w' n rx => h d σ w' n (n.g.env he) rx
    | bad => rw [q] at h; exact h.elim
/-! ### while -/
theorem fs_whl {c : PySem.Expr} {t : T} {body : List Stmt} {b : List Sm} {pos : Pos} {n : Nat} (hp : PassesOwn (model X.prog X.w) X.A X.env X.xe) (hc : PT X c (tT G Wx (evT O t))) (hb : PSs X body (tS G Wx (exSs O b))) : PS X (.While c body [] pos) (tS G Wx (exS O (.whl n t b))) :=
  PS.imp (ps_while hp hc hb) fun D σ H ⟨ρ, w, e, s, he, h⟩ => by
    subst e
    refine ⟨fun m σ H => ∃ ρ w, w.H = H ∧ SR G w ∧ RepE G w σ ρ ∧ OkS G Wx (whlL (evT O t) (exSs O b) m ρ w.S) w D, ⟨n, ρ, w, rfl, s, he, h⟩, ?_⟩
    rintro m σ H ⟨ρ, w, eH, s, he, h⟩
    subst eH
    cases m with
    | zero => exact h.elim
    | succ m =>
      refine ⟨ρ, w, rfl, s, he, ?_⟩
      have h : OkS G Wx (match evT O t ρ w.S with
        | .ok true S1 => match exSs O b ρ S1 with
          | .nx ρ2 S2 => whlL (evT O t) (exSs O b) m ρ2 S2
          | .ct ρ2 S2 => whlL (evT O t) (exSs O b) m ρ2 S2
          | .bk ρ2 S2 => .nx ρ2 S2
          | o => o
        | .ok false S1 => .nx ρ S1
        | .ex e S1 => .ex e ρ S1
        | .bad => .bad) w D := h
      show OkB G Wx (evT O t ρ w.S) w σ _
      cases q : evT O t ρ w.S with
      | ok k S1 =>
        rw [q] at h
        intro w' n
        have eS := n.S
        subst eS
        cases k with
        | true =>
          rw [if_pos rfl]
          dsimp only at h
          refine ⟨fun σ' H' => ∃ ρ w, w.H = H' ∧ SR G w ∧ RepE G w σ' ρ ∧ OkS G Wx (whlL (evT O t) (exSs O b) m ρ w.S) w D, fun σ' H' hN => ⟨m, Nat.lt_succ_self m, hN⟩, tS_at n.r (n.g.env he) ?_⟩
          have h3 := OkS.from h n
          cases z : exSs O b ρ w'.S with
          | nx ρ2 S2 =>
            rw [z] at h3
            intro σ4 w4 n4 r4
            have e4 := n4.S
            subst e4
            exact ⟨ρ2, w4, rfl, n4.r, r4, OkS.from h3 n4⟩
          | ct ρ2 S2 =>
            rw [z] at h3
            intro σ4 w4 n4 r4
            have e4 := n4.S
            subst e4
            exact ⟨ρ2, w4, rfl, n4.r, r4, OkS.from h3 n4⟩
          | bk ρ2 S2 => rw [z] at h3; exact h3
          | rt x S2 => rw [z] at h3; exact h3
          | ex e ρ2 S2 => rw [z] at h3; exact h3
          | bad => rw [z] at h3; exact h3.elim
        | false =>
          rw [if_neg Bool.false_ne_true]
          exact h σ w' n (n.g.env he)
      | ex e S1 =>
        rw [q] at h
        exact fun d w' n rx => h d σ w' n (n.g.env he) rx
      | bad => rw [q] at h; exact h.elim
end
end FD

set_option Elab.async false
set_option linter.all false
set_option autoImplicit false
set_option maxRecDepth 100000
set_option maxHeartbeats 2000000
/-! FDl: list comprehensions. -/
namespace FD
open PySem PySem.Spec PyProof.Rows L2
section
variable {G : Ga} {w w1 w2 w3 w' : Wd}
/-- the world while a list is built at D -/
def Wd.build (w : Wd) (D : Addr) (vs : List V) : Wd := { H := upd w.H D (.lst vs), O := fun a => w.O a ∨ a = D, N := fun a => w.N a ∨ a = D, io := w.io, S := w.S }
theorem build_bas {D : Addr} {vs : List V} (h : w.H D = none) : Bas w (w.build D vs) := by
  have up : ∀ {b : Addr} {o : HO}, w.H b = some o → (w.build D vs).H b = some o := fun {b o} e => (upd_ne (ne_of_none e h)).trans e
  refine ⟨fun b o e _ => up e, fun a q => .inl q, fun a q => ?_, fun a q => ?_, fun _ _ e => e⟩
  · rcases q with (q | q) | q
    · exact .inl (.inl q)
    · exact .inr (by rw [q]; exact h)
    · exact .inl (.inr q)
  · rcases q with q | (q | q)
    · exact .inl (.inl q)
    · exact .inl (.inr q)
    · exact .inr (by rw [q]; exact h)
theorem build_sr {D : Addr} {vs : List V} (s : SR G w) (h : w.H D = none) : SR G (w.build D vs) := by
  have b := build_bas (vs := vs) h
  have nD : ∀ (k : Nat) (a : Addr), w.io[k]? = some a → a ≠ D := fun k a e z => by
    obtain ⟨o, q⟩ := s.ih k a e
    rw [z, h] at q; cases q
  refine ⟨s.len, s.nd, fun k a e q => ?_, fun a q => ?_, fun a q => ?_, fun k a e => ?_, fun k a c e1 e2 => ?_⟩
  · rcases q with q | q
    · exact s.dis k a e q
    · exact nD k a e q
  · rcases q with q | q
    · obtain ⟨o, z⟩ := s.oh a q
      exact ⟨o, (upd_ne (ne_of_none z h)).trans z⟩
    · exact ⟨_, by rw [q]; exact upd_same⟩
  · rcases q with q | q
    · exact .inl (s.nO a q)
    · exact .inr q
  · obtain ⟨o, z⟩ := s.ih k a e
    exact ⟨o, (upd_ne (nD k a e)).trans z⟩
  · exact b.mov.repC (upd_ne (nD k a e1)) (fun c φ z => (upd_ne (ne_of_none z h)).trans z) (s.cell k a c e1 e2)
/-- the list that is built is written -/
theorem poke_mov {D : Addr} {o : HO} (s : SR G w) (h : w.N D) : Mov w { w with H := upd w.H D o } := by
  have hd : w.ow D := .inl (s.nO D h)
  exact ⟨fun b u e n => ⟨(upd_ne fun z => n (by rw [z]; exact hd)).trans e, n⟩, fun b u e n => ⟨(upd_ne fun z => n (by rw [z]; exact .inr h)).trans e, n⟩, fun _ _ e => e⟩
theorem poke_sr {D : Addr} {o : HO} (s : SR G w) (h : w.N D) (hx : ∀ φ, w.H D ≠ some (.ext φ)) : SR G { w with H := upd w.H D o } := by
  have nD : ∀ (k : Nat) (a : Addr), w.io[k]? = some a → a ≠ D := fun k a e z => s.dis k a e (by rw [z]; exact s.nO D h)
  refine ⟨s.len, s.nd, s.dis, fun a q => ?_, s.nO, fun k a e => ?_, fun k a c e1 e2 => ?_⟩
  · by_cases c : a = D
    · exact ⟨o, by rw [c]; exact upd_same⟩
    · obtain ⟨u, z⟩ := s.oh a q
      exact ⟨u, (upd_ne c).trans z⟩
  · obtain ⟨u, z⟩ := s.ih k a e
    exact ⟨u, (upd_ne (nD k a e)).trans z⟩
  · exact (poke_mov s h).repC (upd_ne (nD k a e1)) (fun c φ z => (upd_ne fun y => hx φ (by rw [← y]; exact z)).trans z) (s.cell k a c e1 e2)
theorem poke_bas {D : Addr} {o : HO} (b : Bas w1 w) (s : SR G w) (h : w.N D) (hD : w1.H D = none) : Bas w1 { w with H := upd w.H D o } := by
  refine ⟨fun c u e n => (upd_ne fun z => ?_).trans (b.keep c u e n), b.own, b.out, b.hot, b.io⟩
  rw [z, hD] at e; cases e
/-- the list is done: it is plain data -/
theorem built {D : Addr} {vs : List V} {acc : List P} (s1 : SR G w1) (hD : w1.H D = none) (s : SR G w) (b : Bas w1 w) (hO : w.O = fun a => w1.O a ∨ a = D) (hN : w.N = fun a => w1.N a ∨ a = D) (e : w.H D = some (.lst vs)) (r : rep.reps G w.H w.ow acc vs) :
    Nx G w1 { H := w.H, O := w1.O, N := w1.N, io := w.io, S := w.S } w.S ∧ repW G { H := w.H, O := w1.O, N := w1.N, io := w.io, S := w.S } (.p (.lst acc)) (.ref D) := by
  have o1 : ∀ {a : Addr}, w1.O a → w.O a := fun {a} h => by rw [hO]; exact .inl h
  have st : Stay w.H w.H w.ow (Wd.ow { H := w.H, O := w1.O, N := w1.N, io := w.io, S := w.S }) := fun b o e n => ⟨e, fun q => n (by
    rcases q with q | q
    · exact .inl (o1 q)
    · exact .inr q)⟩
  have sh : Stay w.H w.H w.hot (Wd.hot { H := w.H, O := w1.O, N := w1.N, io := w.io, S := w.S }) := fun b o e n => ⟨e, fun q => n (by
    rcases q with q | q
    · exact .inl q
    · exact .inr (by rw [hN]; exact .inl q))⟩
  have mv : Mov w { H := w.H, O := w1.O, N := w1.N, io := w.io, S := w.S } := ⟨st, sh, fun _ _ e => e⟩
  have sr : SR G { H := w.H, O := w1.O, N := w1.N, io := w.io, S := w.S } := by
    refine ⟨s.len, s.nd, fun k a e q => s.dis k a e (o1 q), fun a q => s.oh a (o1 q), s1.nO, s.ih, fun k a c e1 e2 => mv.repC rfl (fun _ _ z => z) (s.cell k a c e1 e2)⟩
  refine ⟨⟨rfl, sr, rfl, rfl, b.keep, b.own, b.io⟩, D, vs, rfl, ⟨e, fun q => ?_⟩, rep_stay.go st _ _ r⟩
  rcases q with q | ⟨k, q, _⟩
  · obtain ⟨o, z⟩ := s1.oh D q
    rw [hD] at z; cases z
  · exact s.dis k D q (by rw [hO]; exact .inr rfl)
end

section
variable {G : Ga} {Wx : WX} {X : Cx} {O : Or}
theorem wipe_get {σ : L2.St} {ρ : Env} {w : Wd} (h : RepE G w σ ρ) : ∀ vs : List Nat, RepE G w (wipe σ vs) (wipeW ρ vs)
  | [] => h
  | v :: vs => by
    have ih := wipe_get h vs
    refine ⟨by show ((wipeW ρ vs).set v none).length = ((wipe σ vs).set v none).length; rw [List.length_set, List.length_set]; exact ih.1, fun i x q => ?_⟩
    have q : ((wipeW ρ vs).set v none)[i]? = some (some x) := q
    by_cases hi : v = i
    · subst hi
      have hl : v < (wipeW ρ vs).length := by
        have := (List.getElem?_eq_some_iff.mp q).1
        rwa [List.length_set] at this
      rw [List.getElem?_set_self hl] at q
      cases q
    · rw [List.getElem?_set_ne hi] at q
      obtain ⟨u, h1, h2⟩ := ih.2 i x q
      exact ⟨u, by show ((wipe σ vs).set v none)[i]? = _; rw [List.getElem?_set_ne hi]; exact h1, h2⟩
theorem wipe_in {σ : L2.St} {i : Nat} : ∀ {vs : List Nat}, i ∈ vs → i < σ.length → (wipe σ vs)[i]? = some none
  | [], h, _ => by cases h
  | v :: vs, h, hl => by
    show ((wipe σ vs).set v none)[i]? = some none
    by_cases hi : v = i
    · subst hi
      rw [List.getElem?_set_self (by rw [wipe_length]; exact hl)]
    · rw [List.getElem?_set_ne hi]
      rcases List.mem_cons.mp h with z | z
      · exact absurd z.symm hi
      · exact wipe_in z hl
theorem wipe_same {σ σ' : L2.St} {vs : List Nat} (hl : σ'.length = (wipe σ vs).length) (h : ∀ i, i ∉ vs → σ'[i]? = (wipe σ vs)[i]?) : wipe σ' vs = wipe σ vs := by
  refine List.ext_getElem? fun i => ?_
  rw [wipe_length] at hl
  by_cases hi : i ∈ vs
  · by_cases hlt : i < σ.length
    · rw [wipe_in hi hlt, wipe_in hi (by rw [hl]; exact hlt)]
    · rw [List.getElem?_eq_none (by rw [wipe_length, hl]; omega), List.getElem?_eq_none (by rw [wipe_length]; omega)]
  · rw [wipe_out hi, h i hi]
/-- a clause's tests -/
def notComp : PySem.Expr → Bool
  | .ListComp _ _ _ _ => false
  | .SetComp _ _ _ _ => false
  | .DictComp _ _ _ _ _ => false
  | _ => true
theorem fts_nil : PTs X [] (tT G Wx (evT O .tt)) := ⟨fun pins s σ H Q I ⟨ρ, w, e, sr, he, h⟩ => by
  subst e
  exact pts_nil.run pins s σ w.H Q I (h w (Nx.refl sr))⟩
theorem fts_one {c : PySem.Expr} {t : T} (h : PT X c (tT G Wx (evT O t))) : PTs X [c] (tT G Wx (evT O t)) := pts_one h
theorem comp_w {J : L2.It} {xs : List W} {w1 : Wd} {t : Tg} {ts : T} {a : E} {own : List Nat} {σ : L2.St} {ρ : Env} {Wb : WX} {D : Addr} {Q : VK} {ys : List P} {S2 : Store} (wk : Walks G w1 J xs) (s1 : SR G w1) (he : RepE G w1 σ ρ) (hD : w1.H D = none) (hix : ∀ i ∈ ixT t, i ∈ own)
    (hc : compL t (evT O ts) (evE O a) (wipeW ρ own) xs [] w1.S = .ok ys S2) (hq : Ok G Wx (.ok (.p (.lst ys)) S2) w1 σ Q) :
    ∃ W : Nat → Nat → Hp → Prop, (∃ m, W 0 m (upd w1.H D (.lst []))) ∧ ∀ i m H, W i m H → (J.stop i H ∧ Q (.ref D) H) ∨ (J.go i H ∧ ∃ Nx : Hp → Prop, (∀ H', Nx H' → ∃ m', m' < m ∧ W (i + 1) m' H') ∧
      ∀ x H', J.yld i H x H' → tG G t x (wipe σ own) H' fun σ2 H2 => wipe σ2 own = wipe σ own ∧ tT G Wb (evT O ts) σ2 H2 fun b H3 =>
        if b = true then tE G Wb (evE O a) σ2 H3 fun y H4 => ∃ acc, H4 D = some (.lst acc) ∧ acc.length < sizeLine ∧ Nx (upd H4 D (.lst (acc ++ [y]))) else Nx H3) := by
  refine ⟨fun i m H => m = xs.length - i ∧ i ≤ xs.length ∧ ∃ acc vs w2, w2.H = H ∧ Bas w1 w2 ∧ SR G w2 ∧ (w2.O = fun a => w1.O a ∨ a = D) ∧ (w2.N = fun a => w1.N a ∨ a = D) ∧ w2.H D = some (.lst vs) ∧ rep.reps G w2.H w2.ow acc vs ∧
    compL t (evT O ts) (evE O a) (wipeW ρ own) (xs.drop i) acc w2.S = .ok ys S2, ⟨_, rfl, Nat.zero_le _, [], [], w1.build D [], rfl, build_bas hD, build_sr s1 hD, rfl, rfl, upd_same, rfl, hc⟩, ?_⟩
  rintro i m H ⟨rfl, hi, acc, vs, w2, eH, b2, s2, hO, hN, eD, ra, h2⟩
  subst eH
  by_cases hlt : i < xs.length
  · refine .inr ⟨wk.goes i w2 b2 hlt, fun H => ∃ acc vs w2, w2.H = H ∧ Bas w1 w2 ∧ SR G w2 ∧ (w2.O = fun a => w1.O a ∨ a = D) ∧ (w2.N = fun a => w1.N a ∨ a = D) ∧ w2.H D = some (.lst vs) ∧ rep.reps G w2.H w2.ow acc vs ∧
      compL t (evT O ts) (evE O a) (wipeW ρ own) (xs.drop (i + 1)) acc w2.S = .ok ys S2, fun H' hN => ⟨_, by omega, rfl, hlt, hN⟩, fun v H' y => ?_⟩
    obtain ⟨w3, x, eH, n3, hx, r3⟩ := wk.yields i w2 v H' b2 s2 hlt y
    subst eH
    rw [drop_get hx] at h2
    have h2 : (match bindTg t x (wipeW ρ own) with
      | some ρ1 => match evT O ts ρ1 w2.S with
        | .ok true S1 => match evE O a ρ1 S1 with
          | .ok (.p y) S2 => if acc.length < sizeLine then compL t (evT O ts) (evE O a) (wipeW ρ own) (xs.drop (i + 1)) (acc ++ [y]) S2 else .bad
          | _ => .bad
        | .ok false S1 => compL t (evT O ts) (evE O a) (wipeW ρ own) (xs.drop (i + 1)) acc S1
        | _ => .bad
      | none => .bad) = .ok ys S2 := h2
    have b3 : Bas w1 w3 := b2.trans n3.g
    have dio : ∀ {u : Wd}, SR G u → (u.O = fun a => w1.O a ∨ a = D) → ¬ u.own D := fun {u} su hu ⟨k, z, _⟩ => su.dis k D z (by rw [hu]; exact .inr rfl)
    cases hb : bindTg t x (wipeW ρ own) with
    | none => rw [hb] at h2; cases h2
    | some ρ1 =>
      rw [hb] at h2
      dsimp only at h2
      have eS := n3.S
      rw [← eS] at h2
      refine ⟨x, wipeW ρ own, w3, ρ1, rfl, n3.r, b3.mov.env (wipe_get he own), r3, hb, fun σ' he' hl hsame => ⟨wipe_same hl fun j hj => hsame j fun z => hj (hix j z), ρ1, w3, rfl, n3.r, he', ?_⟩⟩
      cases q : evT O ts ρ1 w3.S with
      | bad => rw [q] at h2; cases h2
      | ex _ _ => rw [q] at h2; cases h2
      | ok k S4 =>
        rw [q] at h2
        show OkB G Wb (evT O ts ρ1 w3.S) w3 σ' _
        rw [q]
        intro w4 n4
        have e4 := n4.S
        subst e4
        have O4 : w4.O = fun a => w1.O a ∨ a = D := by rw [n4.g.O, n3.g.O, hO]
        have N4 : w4.N = fun a => w1.N a ∨ a = D := by rw [n4.g.N, n3.g.N, hN]
        have D3 : w3.H D = some (.lst vs) := n3.g.keep D _ eD (dio s2 hO)
        have D4 : w4.H D = some (.lst vs) := n4.g.keep D _ D3 (dio n3.r (by rw [n3.g.O, hO]))
        have r4 : rep.reps G w4.H w4.ow acc vs := rep_stay.go n4.g.stay _ _ (rep_stay.go n3.g.stay _ _ ra)
        cases k with
        | false =>
          rw [if_neg Bool.false_ne_true]
          exact ⟨acc, vs, w4, rfl, b3.trans n4.g, n4.r, O4, N4, D4, r4, h2⟩
        | true =>
          rw [if_pos rfl]
          dsimp only at h2
          refine ⟨ρ1, w4, rfl, n4.r, n4.g.env he', ?_⟩
          show Ok G Wb (evE O a ρ1 w4.S) w4 σ' _
          cases q2 : evE O a ρ1 w4.S with
          | bad => rw [q2] at h2; cases h2
          | ex _ _ => rw [q2] at h2; cases h2
          | ok yv S5 =>
            rw [q2] at h2
            cases yv with
            | c _ => cases h2
            | b _ => cases h2
            | p yp =>
              dsimp only at h2
              by_cases hz : acc.length < sizeLine
              · rw [if_pos hz] at h2
                intro u w5 n5 r5
                have e5 := n5.S
                subst e5
                have O5 : w5.O = fun a => w1.O a ∨ a = D := by rw [n5.g.O, O4]
                have N5 : w5.N = fun a => w1.N a ∨ a = D := by rw [n5.g.N, N4]
                have D5 : w5.H D = some (.lst vs) := n5.g.keep D _ D4 (dio n4.r O4)
                have rr : rep.reps G w5.H w5.ow acc vs := rep_stay.go n5.g.stay _ _ r4
                have hND : w5.N D := by rw [N5]; exact .inr rfl
                have mv := poke_mov (o := .lst (vs ++ [u])) n5.r hND
                refine ⟨vs, D5, by rw [reps_len rr]; exact hz, acc ++ [yp], vs ++ [u], { w5 with H := upd w5.H D (.lst (vs ++ [u])) }, rfl, poke_bas ((b3.trans n4.g).trans n5.g) n5.r hND hD, poke_sr n5.r hND (fun φ z => by rw [D5] at z; cases z), O5, N5, upd_same, ?_, h2⟩
                exact rep_stay.go mv.st _ _ (reps_app rr ⟨u, [], rfl, r5, rfl⟩)
              · rw [if_neg hz] at h2; cases h2
  · have e : i = xs.length := by omega
    subst e
    rw [List.drop_length] at h2
    have h2 : R.ok acc w2.S = R.ok ys S2 := h2
    cases h2
    obtain ⟨n, r⟩ := built s1 hD s2 b2 hO hN eD ra
    exact .inl ⟨wk.stops w2 b2, hq (.ref D) { H := w2.H, O := w1.O, N := w1.N, io := w2.io, S := w2.S } n r⟩
theorem fe_comp {elt tg iter : PySem.Expr} {ifs : List PySem.Expr} {scope : Scope} {own : List (Str × Nat)} {pos : Pos} {it : It} {t : Tg} {ts : T} {a : E} {Wb : WX} (hc : X.calm = true) (hN : X.N.Nodup) (hi : PI X tg iter (tI G Wx (evIt O it))) (ok : BlkOk X.N X.env.scope scope own)
    (hix : ∀ i ∈ ixT t, i ∈ own.map (·.2))
    (hg : ∀ (s : Shared) (H : Hp) (C : Addr) (cl : List (Str × Addr)) (fp : List Addr), PG (X.blk s H scope (compEnvC scope cl C X.env) fp) tg (tG G t))
    (ht : ∀ (s : Shared) (H : Hp) (C : Addr) (cl : List (Str × Addr)) (fp : List Addr), PTs (X.blk s H scope (compEnvC scope cl C X.env) fp) ifs (tT G Wb (evT O ts)))
    (he : ∀ (s : Shared) (H : Hp) (C : Addr) (cl : List (Str × Addr)) (fp : List Addr), PE (X.blk s H scope (compEnvC scope cl C X.env) fp) elt (tE G Wb (evE O a))) (hs : ∀ x, foldedSetIterable iter X.env x = pure x) :
    PE X (.ListComp elt [⟨tg, iter, ifs, 0⟩] scope pos) (tE G Wx (evE O (.comp it t (own.map (·.2)) ts a))) :=
  PE.imp (pe_lc hc hN hi ok hg ht he hs) fun σ H Q ⟨ρ, w, e, s, hen, h⟩ => by
    subst e
    refine ⟨ρ, w, rfl, s, hen, ?_⟩
    have h : Ok G Wx ((evIt O it ρ w.S).bind fun xs S1 => match compL t (evT O ts) (evE O a) (wipeW ρ (own.map (·.2))) xs [] S1 with | .ok ys S2 => .ok (.p (.lst ys)) S2 | _ => .bad) w σ Q := h
    show OkI G Wx (evIt O it ρ w.S) w σ _
    cases q : evIt O it ρ w.S with
    | ok xs S1 =>
      rw [q] at h
      intro J w' n wk D hD
      have eS := n.S
      subst eS
      have h := Ok.from (show Ok G Wx (match compL t (evT O ts) (evE O a) (wipeW ρ (own.map (·.2))) xs [] w'.S with | .ok ys S2 => .ok (.p (.lst ys)) S2 | _ => .bad) w σ Q from h) n
      cases q2 : compL t (evT O ts) (evE O a) (wipeW ρ (own.map (·.2))) xs [] w'.S with
      | ok ys S2 =>
        rw [q2] at h
        exact comp_w wk n.r (n.g.env hen) hD hix q2 h
      | ex _ _ => rw [q2] at h; exact h.elim
      | bad => rw [q2] at h; exact h.elim
    | ex e S1 => rw [q] at h; exact h
    | bad => rw [q] at h; exact h
end
end FD

set_option Elab.async false
set_option linter.all false
set_option autoImplicit false
set_option maxRecDepth 100000
set_option maxHeartbeats 2000000
/-! FDm: the program's own ==, !=, truth: what the machine does. -/
namespace FD
open PySem PySem.Spec PyProof.Rows L2 PySem.W
section
variable {prog : Program} {w : World} {A : Around} {E : Value → Shared → Prop} {s : Shared} {K : Frag} {x C D f : Addr} {ox : Obj} {od : Option Obj}
theorem tryEq_K {b : Value} {Q : Bool → Shared → Prop} (X : K.In s.heap) (I : InstAt s.heap x ox C od) (hs : findIn K (.ref C) "__eq__" = some (some (.ref f))) (hf : isFn K (.ref f) = true)
    (h : wpAny (model prog w) A (call (.ref f) [.ref x, b]) (fun v s' => ∃ k, v = .bool k ∧ Q k s') E s) : wpAny (model prog w) A (tryCompare (.ref x) "__eq__" b) (fun r s' => ∃ k, r = some (.bool k) ∧ Q k s') E s := by
  unfold tryCompare
  refine wpAny_bind (ifBound_K X I hs hf (wpAny_mono h (fun v s' hv => ?_) fun _ _ e => e))
  obtain ⟨k, e, q⟩ := hv
  subst e
  exact wpAny_pure ⟨k, rfl, q⟩
theorem ne_type_entry {M : Model} {Q : Option Value → Shared → Prop} {b : Value} (X : K.In s.heap) (I : InstAt s.heap x ox C od) (hn : findIn K (.ref C) "__ne__" = some (some (.builtin "object.__ne__")))
    (h : wpAny M A (call (.builtin "object.__ne__") [.ref x, b]) (fun v => Q (some v)) E s) : wpAny M A (callSpecialIfBound? (.ref x) "__ne__" [b]) Q E s := by
  have S := F.cmp_object.ne
  simp only [callSpecialIfBound?, bindSpecialIfBound?]
  refine wpAny_holding (wpAny_bind (wpAny_bind (wpAny_bind (I.type.here ((looks_findIn X hn).here ?_)))))
  simp only [S.bind]
  refine wpAny_bind (wpAny_askSetting (wpAny_ite ?_))
  have fin : wpAny M A (call (.builtin "object.__ne__") ([.ref x] ++ [b]) >>= fun v => pure (some v)) Q E s :=
    wpAny_bind (wpAny_mono h (fun v s' h' => wpAny_pure h') fun _ _ h' => h')
  split
  · exact wpAny_bind (wpAny_pure (wpAny_pure (by exact fin)))
  · exact wpAny_tryCatch (wpAny_bind (wpAny_pure (wpAny_pure (by exact fin))))
theorem tryNe_K {b : Value} {Q : Bool → Shared → Prop} (X : K.In s.heap) (I : InstAt s.heap x ox C od) (hn : findIn K (.ref C) "__ne__" = some (some (.builtin "object.__ne__"))) (hob : mroIn K C (.type "object") = some true) (hu : A.units + 1 < cLine)
    (hs : findIn K (.ref C) "__eq__" = some (some (.ref f))) (hf : isFn K (.ref f) = true)
    (h : wpAny (model prog w) A.in1 (call (.ref f) [.ref x, b]) (fun v s' => ∃ k, v = .bool k ∧ Q k s') E s) : wpAny (model prog w) A (tryCompare (.ref x) "__ne__" b) (fun r s' => ∃ k, r = some (.bool (!k)) ∧ Q k s') E s := by
  have S := F.cmp_object.ne
  have sub : Looks (model prog w) s.heap (isInstance (.ref x) (.type "object")) true := I.type.andThen (looks_mroIn X hob)
  unfold tryCompare
  refine wpAny_bind (ne_type_entry X I hn ?_)
  refine wpAny_call (codeAny_call_builtin S.plain F.cmpEntry_ne (@check_slot (model prog w) _ _ s "object.__ne__" "object" "__ne__" (.ref x) [b] [] _ F.cmpKind_ne F.cmpSplit_ne sub (F.cmpArgs_ne (.ref x) b) ?_))
  obtain ⟨hh, g, d, t, os⟩ := s
  unfold Builtin.«object.__ne__»
  repeat (first
    | with_reducible refine wpAny_cRoomFor hu ?_
    | (refine wpAny_bind (m := callSpecialIfBound? (.ref x) (Str.ofString "__eq__") [b])
        (ifBound_K X I hs hf (wpAny_mono h (fun r s' hr => by
          obtain ⟨k, rfl, hq⟩ := hr
          repeat (first | exact ⟨k, rfl, hq⟩ | exact wpAny_pure ⟨k, rfl, hq⟩ | (refine wpAny_bind (m := truthy (.bool _)) (wpAny_truthy_bool ?_)) | wp_step)) fun _ _ e => e)))
    | wp_step)
/-- a comparison whose first try answers -/
theorem rc_left {op : CmpOp} {b tb : Value} {Q : Value → Shared → Prop} (hu : A.units < cLine) (X : K.In s.heap) (I : InstAt s.heap x ox C od) (hb : Looks (model prog w) s.heap (typeOf b) tb) (hn : notFirst K C tb = true)
    (one : wpAny (model prog w) A (tryCompare (.ref x) (cmpInfo op).2.1 b) (fun r s' => ∃ v, r = some v ∧ Q v s') E s) : wpAny (model prog w) A (richCompare op (.ref x) b) Q E s := by
  unfold richCompare
  simp only [oneThing_ref]
  refine wpAny_holding (wpAny_bind (wpAny_cRoomFor hu ?_))
  refine wpAny_bind (I.type.here (wpAny_bind (hb.here ?_)))
  split
  · rename_i q
    have e : subIn K tb (.ref C) = some false := by
      rcases Bool.or_eq_true_iff.mp hn with e | e
      · rw [beq_iff_eq.mp e] at q; simp at q
      · exact beq_iff_eq.mp e
    refine wpAny_bind ((looks_subIn X e).here ?_)
    simp only [Bool.false_eq_true, if_false]
    refine wpAny_bind (wpAny_mono one (fun r s' z => ?_) fun _ _ e => e)
    obtain ⟨v, rfl, hq⟩ := z
    exact wpAny_pure hq
  · refine wpAny_bind (wpAny_pure ?_)
    simp only [Bool.false_eq_true, if_false]
    refine wpAny_bind (wpAny_mono one (fun r s' z => ?_) fun _ _ e => e)
    obtain ⟨v, rfl, hq⟩ := z
    exact wpAny_pure hq
/-- .. whose second value's class hangs on the first one's -/
theorem rc_right {op : CmpOp} {b tb : Value} {Q : Value → Shared → Prop} (hu : A.units < cLine) (X : K.In s.heap) (I : InstAt s.heap x ox C od) (hb : Looks (model prog w) s.heap (typeOf b) tb) (hne : (Value.ref C != tb) = true) (hsub : subIn K tb (.ref C) = some true)
    (one : wpAny (model prog w) A (tryCompare b (cmpInfo op).2.2 (.ref x)) (fun r s' => ∃ v, r = some v ∧ Q v s') E s) : wpAny (model prog w) A (richCompare op (.ref x) b) Q E s := by
  unfold richCompare
  simp only [oneThing_ref]
  refine wpAny_holding (wpAny_bind (wpAny_cRoomFor hu ?_))
  refine wpAny_bind (I.type.here (wpAny_bind (hb.here ?_)))
  rw [if_pos hne]
  refine wpAny_bind ((looks_subIn X hsub).here ?_)
  simp only [if_true]
  refine wpAny_bind (wpAny_mono one (fun r s' z => ?_) fun _ _ e => e)
  obtain ⟨v, rfl, hq⟩ := z
  first
    | exact wpAny_pure hq
    | exact wpAny_bind (wpAny_rule (wpAny_pure hq))
    | (refine wpAny_bind (wpAny_rule ?_); exact wpAny_pure hq)
end
end FD

set_option Elab.async false
set_option linter.all false
set_option autoImplicit false
set_option maxRecDepth 100000
set_option maxHeartbeats 2000000
/-! FDn: types, isinstance, truth, small things. -/
namespace FD
open PySem PySem.Spec PyProof.Rows L2
/-- what is told of the program's classes -/
structure ClsOk (K : PySem.W.Frag) (G : Ga) (O : Or) : Prop where
  ins : ∀ c, Cls K (G.ca c) ∧ PySem.W.findIn K (.ref (G.ca c)) "__class__" = some (some (.builtin "object.__class__")) ∧ PySem.W.specialIn K (.builtin "object.__class__") "__get__" = some (some (.builtin "getset_descriptor.__get__")) ∧
    PySem.W.takesIn K (.builtin "object.__class__") = some true ∧ PySem.W.mroIn K (G.ca c) (.type "object") = some true
  sub : ∀ d c, PySem.W.subIn K (.ref (G.ca d)) (.ref (G.ca c)) = some (O.isSub d c)
  kit : ∀ c, ((PySem.W.clsIn K (G.ca c)).isSome && PySem.W.typeIn K (.ref (G.ca c)) == some (.type "type")) = true
  refl : ∀ c, O.isSub c c = true
  bty : ∀ c n, n ∈ tyNames → PySem.W.kitOne K (.ref (G.ca c)) (.type n) = some false
  tys : ∀ c n, n ∈ tyNames → PySem.W.subIn K (.type n) (.ref (G.ca c)) = some false
  ne : ∀ c, PySem.W.findIn K (.ref (G.ca c)) "__ne__" = some (some (.builtin "object.__ne__"))
  anti : ∀ c d, O.isSub c d = true → O.isSub d c = true → G.ca c = G.ca d
/-- .. of its methods -/
def MethsOk (X : Cx) (G : Ga) (O : Or) (fi : Nat → FnI) (k : Nat) : Prop := ∀ c m n ks f pm, O.meth c m n ks = some (f, pm) →
  Meth X.K (G.ca c) m (fi f).ad ∧ FnP X.prog X.w X.K X.mg X.base G (fi f) (O.run f) k ∧ BdOk X.prog X.w X.K X.mg X.base G (fi f) (n + 1) ks pm
/-- a value's type -/
def typV (G : Ga) : P → Value
  | .ins c _ => .ref (G.ca c)
  | p => match tyName p with
    | some n => .type n
    | none => .none
section
variable {G : Ga} {Wx : WX} {X : Cx} {O : Or} {pins : List (Addr × Obj)} {σ : L2.St} {H : Hp} {s : Shared}
theorem ty_rep (hK : X.K = G.K) (C : ClsOk X.K G O) {p : P} {v : V} (r : rep G H nil p v) (h : insP p = true ∨ (tyName p).isSome = true) : TyX X.K H v (typV G p) := by
  cases p with
  | non => rw [show v = _ from r]; exact .base .non
  | bl b => rw [show v = _ from r]; exact .base (.bl b)
  | int b => rw [show v = _ from r]; exact .base (.int b)
  | str b => rw [show v = _ from r]; exact .base (.str b)
  | ty n => rcases h with h | h <;> cases h
  | glb n => rcases h with h | h <;> cases h
  | fz n => rcases h with h | h <;> cases h
  | tup xs =>
    obtain ⟨a, vs, e, t, _⟩ := r
    rw [e]
    rcases t.sq with (t | ⟨o, t⟩) | ⟨o, its, n, h1, h2, _⟩
    · exact .base (.tup t)
    · exact .fTuple t
    · exact .kTuple (by rw [hK]; exact h1) h2
  | lst xs =>
    obtain ⟨a, vs, e, t, _⟩ := r
    rw [e]
    rcases t.sq with (t | ⟨o, t⟩) | ⟨o, its, n, h1, h2, _⟩
    · exact .base (.lst t)
    · exact .base (.frz t)
    · exact .kList (by rw [hK]; exact h1) h2
  | dct xs =>
    obtain ⟨a, vs, e, t, _⟩ := r
    rw [e]
    exact .base (.dK t)
  | ins c xs =>
    obtain ⟨a, dx, vs, e, t, _⟩ := r
    obtain ⟨c1, c2, c3, c4, c5⟩ := C.ins c
    rw [e]
    exact .base (.ins t c1 c2 c3 c4 c5)

/-! ### isinstance -/
def clV (G : Ga) : Cl → V
  | .ty n => .ty n
  | .own c => .ref (G.ca c)
def clU (G : Ga) : Cl → Value
  | .ty n => .type n
  | .own c => .ref (G.ca c)
theorem clv (c : Cl) : ClsV (clV G c) (clU G c) := by cases c <;> constructor
theorem isi_kit (C : ClsOk X.K G O) {p : P} {c : Cl} {b : Bool} (h : isiP O p c = some b) : PySem.W.kitOne X.K (typV G p) (clU G c) = some b := by
  have own : ∀ (t : Value) (c : Nat) (b : Bool), PySem.W.subIn X.K t (.ref (G.ca c)) = some b → (t = .ref (G.ca c) → b = true) → PySem.W.kitOne X.K t (.ref (G.ca c)) = some b := fun t c b h1 h2 => by
    unfold PySem.W.kitOne
    split
    · rename_i e
      rw [h2 (beq_iff_eq.mp e)]
    · show (if _ then _ else _) = _
      rw [if_pos (C.kit c)]
      exact h1
  have oth : ∀ (n : String) (c : Nat) (b : Bool), n ∈ tyNames → some false = some b → PySem.W.kitOne X.K (.type n) (.ref (G.ca c)) = some b := fun n c b h1 h2 => by
    cases h2
    exact own _ c _ (C.tys c n h1) fun e => by cases e
  cases c with
  | ty n =>
    cases p with
    | ins d fs =>
      have h : (if tyNames.contains n then some false else none) = some b := h
      cases q : tyNames.contains n with
      | false => rw [q] at h; cases h
      | true =>
        rw [q] at h
        cases h
        exact C.bty d n (List.contains_iff_mem.mp q)
    | _ => first | exact h | (cases h)
  | own c =>
    cases p with
    | ins d fs =>
      have h : some (O.isSub d c) = some b := h
      cases h
      refine own _ c _ (C.sub d c) fun e => ?_
      have z := C.sub d c
      rw [Value.ref.inj e, C.sub c c, C.refl c] at z
      exact (Option.some.inj z).symm
    | non => exact oth "NoneType" c b (by decide) h
    | bl _ => exact oth "bool" c b (by decide) h
    | int _ => exact oth "int" c b (by decide) h
    | str _ => exact oth "str" c b (by decide) h
    | tup _ => exact oth "tuple" c b (by decide) h
    | lst _ => exact oth "list" c b (by decide) h
    | dct _ => exact oth "dict" c b (by decide) h
    | ty _ => cases h
    | glb _ => cases h
    | fz _ => cases h
theorem isi_any (C : ClsOk X.K G O) {p : P} : ∀ {cs : List Cl} {b : Bool}, isiAny O p cs = some b → PySem.W.kitAny X.K (typV G p) (cs.map (clU G)) = some b
  | [], b, h => by cases h; exact kitAny_nil
  | c :: cs, b, h => by
    have h : (match isiP O p c with | some true => some true | some false => isiAny O p cs | none => none) = some b := h
    cases q : isiP O p c with
    | none => rw [q] at h; cases h
    | some k =>
      rw [q] at h
      cases k with
      | true => cases h; exact kitAny_cons (isi_kit C q) (fun z => by cases z) fun _ => rfl
      | false => exact kitAny_cons (isi_kit C q) (fun _ => isi_any C h) fun z => by cases z
theorem isi_known {p : P} : ∀ {cs : List Cl} {b : Bool}, cs ≠ [] → isiAny O p cs = some b → insP p = true ∨ (tyName p).isSome = true
  | [], b, n, _ => absurd rfl n
  | c :: cs, b, _, h => by
    have h : (match isiP O p c with | some true => some true | some false => isiAny O p cs | none => none) = some b := h
    cases p with
    | ins _ _ => exact .inl rfl
    | ty _ => cases c <;> cases h
    | glb _ => cases c <;> cases h
    | fz _ => cases c <;> cases h
    | _ => exact .inr rfl
/-- the classes, as the text names them -/
theorem fe_isi1 {a : E} {ea ec : PySem.Expr} {c : Cl} {p pos : Pos} (hK : X.K = G.K) (C : ClsOk X.K G O) (hg : Gl X "isinstance") (hm : X.mg "isinstance" = none) (hs : notStar ea = true) (hs2 : notStar ec = true) (ha : PE X ea (tE G Wx (evE O a))) (hc : PE X ec (tC (clV G c))) :
    PE X (.Call (.Name "isinstance" p) [ea, ec] [] pos) (tE G Wx (evE O (.isi a [c]))) := by
  have he : PA X [ea, ec] _ := pa_cons ha (pa_cons hc pa_nil (star_cons hs2)) (star_cons hs)
  refine PE.imp (pe_callB call_isi hg hm PyProof.Rows.boot_isinstance he (by decide) (by decide) (star_cons hs) (by rw [star_cons hs2]; rfl)) fun σ H Q ⟨ρ, w, e, s, hen, h⟩ => ?_
  subst e
  refine ⟨ρ, w, rfl, s, hen, ok_seq h fun x S1 v w1 _ h1 n1 r1 => ?_⟩
  have eS := n1.S
  subst eS
  cases q : view w1.S x with
  | none => rw [q] at h1; exact h1.elim
  | some p =>
    rw [q] at h1
    have h1 : Ok G Wx (R.of ((isiAny O p [c]).map fun k => W.p (.bl k)) w1.S) w1 σ Q := h1
    cases q2 : isiAny O p [c] with
    | none => rw [q2] at h1; exact h1.elim
    | some b =>
      rw [q2] at h1
      have kn := isi_known (by simp) q2
      have e1 := isi_any C q2
      refine ⟨v, clV G c, typV G p, clU G c, b, rfl, clv c, ty_rep hK C (view_rep n1.r r1 q) kn, ?_, h1 _ w1 (Nx.refl n1.r) rfl⟩
      have q3 : (match isiP O p c with | some true => some true | some false => isiAny O p [] | none => none) = some b := q2
      cases z : isiP O p c with
      | none => rw [z] at q3; cases q3
      | some k =>
        rw [z] at q3
        have : k = b := by cases k <;> (cases q3; rfl)
        rw [← this]
        exact isi_kit C z
/-- class names in a row -/
def tCls (G : Ga) (cs : List Cl) : TA := fun _ H Q => Q (cs.map (clV G)) H
theorem cls_nil : PA X [] (tCls G []) := PA.imp pa_nil fun σ H Q h => h
theorem cls_cons {c : Cl} {cs : List Cl} {ec : PySem.Expr} {es : List PySem.Expr} (hs : notStar ec = true) (h : PE X ec (tC (clV G c))) (hr : PA X es (tCls G cs)) : PA X (ec :: es) (tCls G (c :: cs)) := PA.imp (pa_cons h hr (star_cons hs)) fun σ H Q h => h
theorem clv_all : ∀ cs : List Cl, Paired ClsV (cs.map (clV G)) (cs.map (clU G))
  | [] => .nil
  | c :: cs => .cons (clv c) (clv_all cs)
theorem fe_isiT {a : E} {ea : PySem.Expr} {ecs : List PySem.Expr} {cs : List Cl} {kt : Nat} {pt p pos : Pos} (hK : X.K = G.K) (C : ClsOk X.K G O) (hne : cs ≠ []) (hl : cs.length ≤ 100) (hg : Gl X "isinstance") (hm : X.mg "isinstance" = none) (hs : notStar ea = true) (ha : PE X ea (tE G Wx (evE O a))) (hc : PA X ecs (tCls G cs)) :
    PE X (.Call (.Name "isinstance" p) [ea, .Tuple ecs kt pt] [] pos) (tE G Wx (evE O (.isi a cs))) := by
  have he : PA X [ea, .Tuple ecs kt pt] _ := pa_cons ha (pa_cons (pe_tup hc) pa_nil (star_cons rfl)) (star_cons hs)
  refine PE.imp (pe_callB call_isiT hg hm PyProof.Rows.boot_isinstance he (by decide) (by decide) (star_cons hs) rfl) fun σ H Q ⟨ρ, w, e, s, hen, h⟩ => ?_
  subst e
  refine ⟨ρ, w, rfl, s, hen, ok_seq h fun x S1 v w1 _ h1 n1 r1 => ?_⟩
  have eS := n1.S
  subst eS
  cases q : view w1.S x with
  | none => rw [q] at h1; exact h1.elim
  | some p =>
    rw [q] at h1
    have h1 : Ok G Wx (R.of ((isiAny O p cs).map fun k => W.p (.bl k)) w1.S) w1 σ Q := h1
    cases q2 : isiAny O p cs with
    | none => rw [q2] at h1; exact h1.elim
    | some b =>
      rw [q2] at h1
      refine ⟨by rw [List.length_map, sizeLine_eq]; omega, fun tp hp => ?_⟩
      have st : Stay w1.H (upd w1.H tp (.tup (cs.map (clV G)))) nil nil := fun c o e n => ⟨(upd_ne (ne_of_none e hp)).trans e, n⟩
      have n2 : Nx G w1 { w1 with H := upd w1.H tp (.tup (cs.map (clV G))) } w1.S := ⟨rfl, n1.r.alloc hp, Gro.alloc hp⟩
      exact ⟨v, tp, cs.map (clV G), typV G p, cs.map (clU G), b, rfl, upd_same, clv_all cs, ty_rep hK C (rep_stay st _ _ (view_rep n1.r r1 q)) (isi_known hne q2), isi_any C q2, h1 _ _ n2 rfl⟩

/-! ### truth -/
def OkN (G : Ga) (g : R Bool) (w : Wd) (Q : Bool → Hp → Prop) : Prop := match g with
  | .ok k S' => ∀ w', Nx G w w' S' → Q k w'.H
  | _ => False
/-- a call without exceptions, at any place below the running body -/
theorem run_fnA {F : FnI} {run : List W → Store → R W} {k npos : Nat} {ks : List Str} {pm : List Src} {all : List W} {wd : Wd} {vs zs : List V} {us ws : List Value} {Q : VK} {A : Around} {E : Value → Shared → Prop} (h : FnP X.prog X.w X.K X.mg X.base G F run k) (hr : Room k A) (hg : A.guards = some []) (hf : A.frames = X.A.frames)
    (bd : BdOk X.prog X.w X.K X.mg X.base G F npos ks pm) (I : Inv X pins σ wd.H s) (rv : Vals vs us) (rz : Vals zs ws) (l1 : us.length = npos) (l2 : ws.length = ks.length) (sr : SR G wd) (ra : repWs G wd all (vs ++ zs))
    (hq : Ok G (fun _ _ _ _ => False) (callW (arr pm run) all wd.S) wd σ Q) : wpAny (model X.prog X.w) A (call (.ref F.ad) us (ks.zip ws)) (EP X pins σ Q) E s := by
  obtain ⟨xs', wc, eH, sc, rc, ok⟩ := callW_ok sr ra hq
  have e0 : Env0 X.prog X.w X.K X.mg X.base A X.stack s wd.H := by
    have e := I.env0
    exact ⟨by rw [hf]; exact e.frames, e.mod, e.bs, e.bsz, e.funs, e.frf, e.hok, e.bare⟩
  refine wpAny_call (codeAny_mono (h A X.stack s wd.H ⟨us, ks.zip ws⟩ Q (fun _ _ _ => False) _ hr hg e0 (bd A X.stack s wd.H us ws vs zs _ e0 rv rz l1 l2) (by rw [← eH]; exact arr_ok sc rc ok)) fun r s' hq => ?_)
  cases r with
  | error e =>
    obtain ⟨_, _, _, _, _, _, _, _, _, _, _, _, z⟩ := hq
    exact z.elim
  | ok fl =>
    cases fl with
    | ret u => exact I.after hq
    | next => exact False.elim hq
    | brk => exact False.elim hq
    | cont => exact False.elim hq
/-- .. that gives a truth -/
theorem okN_call {r : R W} {w : Wd} {Q : Bool → Hp → Prop} (h : OkN G (boolR r) w Q) : Ok G (fun _ _ _ _ => False) r w σ fun v H => ∃ k, v = .bl k ∧ Q k H := by
  cases r with
  | ok x S =>
    cases x with
    | p p =>
      cases p with
      | bl k => exact fun v w' n rv => ⟨k, rv, h w' n⟩
      | _ => exact h.elim
    | _ => exact h.elim
  | ex _ _ => exact h.elim
  | bad => exact h.elim
theorem ins_at {w : Wd} {x : W} {v : V} {c : Nat} (sr : SR G w) (r : repW G w x v) (h : insOf w.S x = some c) : ∃ a dx fs, v = .ref a ∧ w.H a = some (.ins (G.ca c) dx fs) := by
  cases x with
  | p p =>
    cases p with
    | ins d fs => cases h; obtain ⟨a, dx, vs, ev, ea, _, rf⟩ := r; exact ⟨a, dx, vs, ev, ea⟩
    | _ => cases h
  | b p =>
    cases p with
    | ins d fs => cases h; obtain ⟨a, dx, vs, ev, ea, _, rf⟩ := (show rep G w.H w.hot _ v from r); exact ⟨a, dx, vs, ev, ea⟩
    | _ => cases h
  | c k =>
    have h : (match w.S[k]? with | some (.ins c _) => some c | _ => none) = some c := h
    cases q : w.S[k]? with
    | none => rw [q] at h; cases h
    | some ce =>
      rw [q] at h
      cases ce with
      | ins d fs =>
        cases h
        obtain ⟨a, ha, ev⟩ := r
        obtain ⟨dx, vs, ea, rf⟩ := sr.cell k a _ ha q
        exact ⟨a, dx, vs, ev, ea⟩
      | _ => cases h
theorem tru_run {fi : Nat → FnI} {k : Nat} {w : Wd} {x : W} {v : V} {u : Value} {Q : Bool → Hp → Prop} (hK : X.K = G.K) (M : MethsOk X G O fi k) (hr : Room k X.A) (hg : X.A.guards = some []) (I : Inv X pins σ w.H s) (sr : SR G w) (r : repW G w x v) (rv : RelV v u) (h : OkN G (truW O x w.S) w Q) :
    wpAny (model X.prog X.w) X.A (truthy u) (TP X pins σ Q) X.xe s := by
  unfold truW at h
  cases q : insOf w.S x with
  | none =>
    rw [q] at h
    dsimp only at h
    cases q1 : view w.S x with
    | none => rw [q1] at h; exact h.elim
    | some p =>
      rw [q1] at h
      dsimp only at h
      cases q2 : truP p with
      | none => rw [q2] at h; exact h.elim
      | some b =>
        rw [q2] at h
        exact tru_ok pins s σ w.H v u Q I rv ⟨b, tru_at hK (view_rep sr r q1) q2, h w (Nx.refl sr)⟩
  | some c =>
    rw [q] at h
    dsimp only at h
    cases q1 : O.meth c "__bool__" 0 [] with
    | none => rw [q1] at h; exact h.elim
    | some fp =>
      obtain ⟨f, pm⟩ := fp
      rw [q1] at h
      obtain ⟨Mt, hF, bd⟩ := M c "__bool__" 0 [] f pm q1
      obtain ⟨a, dx, fs, ev, ea⟩ := ins_at sr r q
      subst ev
      obtain rfl : u = Value.ref a := rv
      obtain ⟨mA, J, _⟩ := ins_get I.hok ea
      obtain ⟨od, J, _⟩ := J.look
      obtain ⟨m, fr⟩ := I.fr
      refine PySem.W.truthy_K fr I.ok.mod.kin J Mt.at_ Mt.fn ?_
      refine thn (run_fnA (us := [.ref a]) (ws := []) (vs := [.ref a]) (zs := []) hF hr hg rfl bd I (.cons rfl .nil) .nil rfl rfl sr (by exact ⟨_, _, rfl, r, rfl⟩) (okN_call h)) fun z s' ⟨zv, H', I', rz, b, ez, hb⟩ => ?_
      subst ez
      cases rz
      exact ⟨H', I', hb⟩
theorem okN_of {g : R Bool} {w w1 : Wd} {Q : Bool → Hp → Prop} (h : OkB G Wx g w σ Q) (hx : ∀ e S, g ≠ .ex e S) : OkN G g w Q := by
  cases g with
  | ok k S => exact h
  | ex e S => exact absurd rfl (hx e S)
  | bad => exact h.elim
theorem boolR_ex {r : R W} {e : Exn} {S : Store} : boolR r ≠ .ex e S := by
  cases r with
  | ok x S =>
    cases x with
    | p p => cases p <;> (intro z; cases z)
    | _ => intro z; cases z
  | _ => intro z; cases z
theorem truW_ex {x : W} {S0 S : Store} {e : Exn} : truW O x S0 ≠ .ex e S := by
  unfold truW
  cases insOf S0 x with
  | none =>
    cases view S0 x with
    | none => intro z; cases z
    | some p =>
      show R.of (truP p) S0 ≠ _
      cases truP p <;> (intro z; cases z)
  | some c =>
    dsimp only
    cases O.meth c "__bool__" 0 [] with
    | none => intro z; cases z
    | some fp =>
      obtain ⟨f, pm⟩ := fp
      exact boolR_ex
theorem ft_e {fi : Nat → FnI} {k : Nat} {a : E} {ea : PySem.Expr} (hK : X.K = G.K) (M : MethsOk X G O fi k) (hr : Room k X.A) (hg : X.A.guards = some []) (ha : PE X ea (tE G Wx (evE O a))) (he : ∀ whole, isTrue ea X.env whole = (do let v ← whole; standAt ea.pos; holding [v] (truthy v))) : PT X ea (tT G Wx (evT O (.e a))) :=
  ⟨fun pins s σ H Q I ⟨ρ, w, e, sr, hen, h⟩ => by
    subst e
    refine PyProof.Rows.isTrue_plain (thn (ha.run pins s σ w.H (fun v H1 => ∃ x w1, w1.H = H1 ∧ SR G w1 ∧ repW G w1 x v ∧ OkN G (truW O x w1.S) w1 Q) I ⟨ρ, w, rfl, sr, hen, ok_seqB h fun x S1 v w1 _ h1 n1 r1 => ?_⟩) fun u s1 hh => ?_) (he _)
    · have eS := n1.S
      subst eS
      exact ⟨x, w1, rfl, n1.r, r1, okN_of (w1 := w1) h1 fun e S => truW_ex⟩
    · obtain ⟨v, H1, I1, rv, x, w1, eH, s1r, r1, h1⟩ := hh
      subst eH
      exact tru_run hK M hr hg I1 s1r r1 rv h1⟩
end
end FD

set_option Elab.async false
set_option linter.all false
set_option autoImplicit false
set_option maxRecDepth 100000
set_option maxHeartbeats 2000000
/-! FDo: bool(..), the program's own == and !=, == of tuples that hold instances. -/
namespace FD
open PySem PySem.Spec PyProof.Rows L2
section
variable {prog : Program} {w : World} {A : Around} {E : Value → Shared → Prop} {s : Shared}
theorem bool_meets {x : Value} : MeetsIn prog w (Builtin.«bool.__new__» ⟨[.type "bool", x], []⟩) (fun A R s => wpAny (model prog w) A.in1 (truthy x) (fun b s' => R (.ok (.ret (.bool b))) s') (fun e s' => R (.error e) s') s) :=
  .of_wp fun A R s h => by
    have f1 := F.conv_sub_bool
    obtain ⟨hp, g, d, tk, os⟩ := s
    repeat (any_goals (first | assumption | (refine wpAny_bind (m := truthy x) (wpAny_mono h (fun b s' hq => ?_) fun _ _ z => z)) | wp_step))
    exact ⟨_, rfl, hq⟩
theorem call_bool {x : Value} {Q : Value → Shared → Prop} (h : wpAny (model prog w) A.in1.in1 (truthy x) (fun b s' => Q (.bool b) s') E s) : wpAny (model prog w) A (call (.type "bool") [x]) Q E s :=
  callType_newIn F.called_bool F.newNe_bool (F.typeCall_bool_1 x) (F.newCall_bool_1 x) (fun obj => F.args_object_init_2 obj x) F.entry_bool_new bool_meets
    (wpAny_mono h (fun b s' hq => ⟨rfl, hq⟩) fun _ _ z => z)
end
section
variable {G : Ga} {Wx : WX} {X : Cx} {O : Or} {pins : List (Addr × Obj)} {σ : L2.St} {H : Hp} {s : Shared}
theorem inv_at {A : Around} (I : Inv X pins σ H s) (hf : A.frames = X.A.frames) (hh : A.handled = none) : Inv { X with A := A } pins σ H s :=
  ⟨⟨I.ok.mod, I.ok.kind, I.ok.glob, I.ok.blt, I.ok.above, I.ok.inj, I.ok.has, I.ok.cab, fun _ => hh, hf.trans I.ok.frames, I.ok.stk, I.ok.exf, I.ok.bs, I.ok.bsz, I.ok.noex, I.ok.exfs, I.ok.funs, I.ok.frf⟩, I.os, I.bare, I.base, I.loc, I.cell, I.free, I.freeC, I.pin, I.hok, I.len⟩
theorem inv_back {A : Around} (I : Inv { X with A := A } pins σ H s) (ok : X.Ok) : Inv X pins σ H s := ⟨ok, I.os, I.bare, I.base, I.loc, I.cell, I.free, I.freeC, I.pin, I.hok, I.len⟩
/-- bool(x) -/
theorem fe_boo {fi : Nat → FnI} {k : Nat} {a : E} {ea : PySem.Expr} {p pos : Pos} (hK : X.K = G.K) (M : MethsOk X G O fi k) (hr : Room (k + 2) X.A) (hgd : X.A.guards = some []) (hg : Gl X "bool") (hm : X.mg "bool" = none) (hs : notStar ea = true) (ha : PE X ea (tE G Wx (evE O a))) :
    PE X (.Call (.Name "bool" p) [ea] [] pos) (tE G Wx (evE O (.boo a))) := by
  have hc : CallR X (.type "bool") (fun vs H Q => ∃ v x w, vs = [v] ∧ w.H = H ∧ SR G w ∧ repW G w x v ∧ OkN G (truW O x w.S) w fun b H => Q (.bl b) H) := by
    intro pins s σ H xs us Q I r h
    obtain ⟨v, x, w, rfl, eH, sr, rx, h⟩ := h
    subst eH
    obtain ⟨u, rfl, ru⟩ := vals1 r
    have I2 := inv_at (A := X.A.in1.in1) I rfl hr.hd
    refine call_bool ?_
    refine wpAny_mono (tru_run (X := { X with A := X.A.in1.in1 }) (σ := σ) (pins := pins) hK M hr.in1.in1 hgd I2 sr rx ru h) (fun b s' ⟨H', I', q⟩ => ?_) fun _ _ z => z
    exact ⟨.bl b, H', inv_back I' I.ok, rfl, q⟩
  refine PE.imp (pe_callTy hc hg hm (by decide +kernel) (pa_cons ha pa_nil (star_cons hs)) (by decide) (by decide) (star_cons hs) rfl) fun σ H Q ⟨ρ, w, e, s, hen, h⟩ => ?_
  subst e
  refine ⟨ρ, w, rfl, s, hen, ok_seq h fun x S1 v w1 _ h1 n1 r1 => ⟨v, x, w1, rfl, rfl, n1.r, r1, ?_⟩⟩
  have eS := n1.S
  subst eS
  cases q : truW O x w1.S with
  | ok b S2 =>
    rw [q] at h1
    exact fun w' n => h1 _ w' n rfl
  | ex _ _ => rw [q] at h1; exact h1.elim
  | bad => rw [q] at h1; exact h1.elim

/-! ### x == y, x an instance -/
theorem ty_any {w : Wd} {y : W} {u : V} {q : P} (hK : X.K = G.K) (C : ClsOk X.K G O) (sr : SR G w) (r : repW G w y u) (hv : view w.S y = some q) (I : Inv X pins σ w.H s) {uu : Value} (ru : RelV u uu) (h : insP q = true ∨ (tyName q).isSome = true) :
    PySem.W.Looks (model X.prog X.w) s.heap (typeOf uu) (typV G q) := by
  obtain ⟨Pr, Z, p, hx⟩ := kit_of I ru (ty_rep hK C (view_rep sr r hv) h)
  exact Z.ty _ _ I.kIn p
theorem insOf_view {S : Store} {x : W} {c : Nat} {p : P} (h : insOf S x = some c) (hv : view S x = some p) : ∃ fs, p = .ins c fs := by
  cases x with
  | p q =>
    cases hv
    cases p with
    | ins d gs => cases h; exact ⟨_, rfl⟩
    | _ => cases h
  | b q =>
    cases hv
    cases p with
    | ins d gs => cases h; exact ⟨_, rfl⟩
    | _ => cases h
  | c k =>
    have h : (match S[k]? with | some (.ins c _) => some c | _ => none) = some c := h
    have hv : (match S[k]? with | some c => pureC c | none => none) = some p := hv
    cases q : S[k]? with
    | none => rw [q] at h; cases h
    | some ce =>
      rw [q] at h hv
      cases ce with
      | ins d fs =>
        cases h
        have hv : (pureF fs).map (P.ins c) = some p := hv
        cases z : pureF fs with
        | none => rw [z] at hv; cases hv
        | some ps => rw [z] at hv; cases hv; exact ⟨_, rfl⟩
      | _ => cases h
theorem view_ins {S : Store} {x : W} {c : Nat} {fs : List (Str × P)} (hv : view S x = some (.ins c fs)) : insOf S x = some c := by
  cases x with
  | p q => cases hv; rfl
  | b q => cases hv; rfl
  | c k =>
    show (match S[k]? with | some (.ins c _) => some c | _ => none) = some c
    have hv : (match S[k]? with | some c => pureC c | none => none) = some (.ins c fs) := hv
    cases q : S[k]? with
    | none => rw [q] at hv; cases hv
    | some ce =>
      rw [q] at hv
      cases ce with
      | ins d gs =>
        have hv : (pureF gs).map (P.ins d) = some (.ins c fs) := hv
        cases z : pureF gs with
        | none => rw [z] at hv; cases hv
        | some ps => rw [z] at hv; cases hv; rfl
      | lst xs =>
        have hv : (pureWs xs).map P.lst = some (.ins c fs) := hv
        cases z : pureWs xs <;> (rw [z] at hv; cases hv)
      | dct xs =>
        have hv : (pureK xs).map P.dct = some (.ins c fs) := hv
        cases z : pureK xs <;> (rw [z] at hv; cases hv)
      | tab _ _ => cases hv
      | dead => cases hv
/-- the comparison of an instance, at any place below the running body -/
theorem eqI_run {fi : Nat → FnI} {k : Nat} {A : Around} {neg : Bool} {w : Wd} {x y : W} {v u : V} {vv uu : Value} {Q : Bool → Hp → Prop} {E : Value → Shared → Prop} (hK : X.K = G.K) (C : ClsOk X.K G O) (M : MethsOk X G O fi k) (hr : Room (k + 1) A) (hg : A.guards = some []) (hf : A.frames = X.A.frames)
    (I : Inv X pins σ w.H s) (sr : SR G w) (rx : repW G w x v) (ry : repW G w y u) (rv : RelV v vv) (ru : RelV u uu) (h : OkN G (eqI O x y w.S) w Q) :
    wpAny (model X.prog X.w) A (richCompare (if neg then .NotEq else .Eq) vv uu) (fun r s' => ∃ b, r = .bool (xorB neg b) ∧ ∃ H', Inv X pins σ H' s' ∧ Q b H') E s := by
  unfold eqI at h
  cases ha : askEq O w.S x y with
  | none => rw [ha] at h; exact h.elim
  | some z =>
    obtain ⟨⟨f, pm⟩, a, b⟩ := z
    rw [ha] at h
    dsimp only at h
    cases h1 : view w.S x with
    | none => rw [h1] at h; exact h.elim
    | some p =>
      cases h2 : view w.S y with
      | none => rw [h1, h2] at h; exact h.elim
      | some q =>
        rw [h1, h2] at h
        dsimp only at h
        have hq : insP q = true ∨ (tyName q).isSome = true := by
          cases z : (insP q || (tyName q).isSome) with
          | true => exact Bool.or_eq_true_iff.mp z
          | false => rw [z] at h; exact h.elim
        rw [if_pos (Bool.or_eq_true_iff.mpr hq)] at h
        unfold askEq at ha
        cases h3 : insOf w.S x with
        | none => rw [h3] at ha; cases ha
        | some c =>
          rw [h3] at ha
          dsimp only at ha
          obtain ⟨ax, dx, fs, ev, ea⟩ := ins_at sr rx h3
          subst ev
          obtain rfl : vv = Value.ref ax := rv
          obtain ⟨mA, J, _⟩ := ins_get I.hok ea
          obtain ⟨od, J, _⟩ := J.look
          obtain ⟨c1, c2, c3, c4, c5⟩ := C.ins c
          -- one try of the def f, of x1 and y1
          have one : ∀ {e : Nat} {x1 y1 : W} {v1 u1 : V} {u1u : Value} {a1 dx1 : Addr} {fs1 : List (Str × V)}, (O.meth e "__eq__" 1 []).map (fun f => (f, x1, y1)) = some ((f, pm), a, b) → repW G w x1 v1 → repW G w y1 u1 → v1 = .ref a1 → RelV u1 u1u → w.H a1 = some (.ins (G.ca e) dx1 fs1) →
              wpAny (model X.prog X.w) A (tryCompare (.ref a1) (cmpInfo (if neg then .NotEq else .Eq)).2.1 u1u) (fun r s' => ∃ z, r = some z ∧ ∃ b, z = .bool (xorB neg b) ∧ ∃ H', Inv X pins σ H' s' ∧ Q b H') E s := fun {e x1 y1 v1 u1 u1u a1 dx1 fs1} hm r1 r2 e1 ru1 ea1 => by
            cases q1 : O.meth e "__eq__" 1 [] with
            | none => rw [q1] at hm; cases hm
            | some fp =>
              rw [q1] at hm
              cases hm
              obtain ⟨Mt, hF, bd⟩ := M e "__eq__" 1 [] f pm q1
              subst e1
              obtain ⟨mA1, J1, _⟩ := ins_get I.hok ea1
              obtain ⟨od1, J1, _⟩ := J1.look
              obtain ⟨d1, d2, d3, d4, d5⟩ := C.ins e
              have run : ∀ {B : Around} {E' : Value → Shared → Prop}, Room k B → B.guards = some [] → B.frames = X.A.frames → wpAny (model X.prog X.w) B (call (.ref (fi f).ad) [.ref a1, u1u]) (fun z s' => ∃ k, z = .bool k ∧ ∃ H', Inv X pins σ H' s' ∧ Q k H') E' s := fun {B E'} hb1 hb2 hb3 =>
                thn (run_fnA (us := [.ref a1, u1u]) (ws := []) (vs := [.ref a1, u1]) (zs := []) hF hb1 hb2 hb3 bd I (.cons rfl (.cons ru1 .nil)) .nil rfl rfl sr (by exact ⟨_, _, rfl, r1, _, _, rfl, r2, rfl⟩) (okN_call h)) fun z s' ⟨zv, H', I', rz, b, ez, hb⟩ => by
                  subst ez
                  cases rz
                  exact ⟨b, rfl, H', I', hb⟩
              cases neg with
              | false => exact thn (tryEq_K I.kIn J1 Mt.at_ Mt.fn (run (hr.mono (Nat.le_succ k)) hg hf)) fun r s' ⟨k, e, hk⟩ => ⟨_, e, k, rfl, hk⟩
              | true => exact thn (tryNe_K I.kIn J1 (C.ne e) d5 (by have := hr.un; omega) Mt.at_ Mt.fn (run hr.in1 hg hf)) fun r s' ⟨k, e, hk⟩ => ⟨_, e, k, rfl, hk⟩
          have refl : (cmpInfo (if neg then CmpOp.NotEq else CmpOp.Eq)).2.2 = (cmpInfo (if neg then CmpOp.NotEq else CmpOp.Eq)).2.1 := by cases neg <;> rfl
          have lty := ty_any hK C sr ry h2 I ru hq
          cases h4 : insOf w.S y with
          | none =>
            rw [h4] at ha
            refine rc_left hr.units0 I.kIn J lty ?_ (one ha rx ry rfl ru ea)
            have hn : insP q = false := by
              cases q with
              | ins d gs => rw [view_ins h2] at h4; cases h4
              | _ => rfl
            have tn : ∃ n, n ∈ tyNames ∧ typV G q = .type n := by
              cases q with
              | non => exact ⟨_, by decide, rfl⟩
              | bl _ => exact ⟨_, by decide, rfl⟩
              | int _ => exact ⟨_, by decide, rfl⟩
              | str _ => exact ⟨_, by decide, rfl⟩
              | tup _ => exact ⟨_, by decide, rfl⟩
              | lst _ => exact ⟨_, by decide, rfl⟩
              | dct _ => exact ⟨_, by decide, rfl⟩
              | ins _ _ => cases hn
              | ty _ => rcases hq with z | z <;> cases z
              | glb _ => rcases hq with z | z <;> cases z
              | fz _ => rcases hq with z | z <;> cases z
            obtain ⟨n, n1, n2⟩ := tn
            rw [n2]
            unfold PySem.W.notFirst
            rw [C.tys c n n1]
            simp
          | some d =>
            rw [h4] at ha
            dsimp only at ha
            obtain ⟨gs, eq⟩ := insOf_view h4 h2
            subst eq
            obtain ⟨ay, dy, gs', ev, ea2⟩ := ins_at sr ry h4
            by_cases hcd : c = d
            · rw [if_pos hcd] at ha
              subst hcd
              refine rc_left hr.units0 I.kIn J lty ?_ (one ha rx ry rfl ru ea)
              unfold PySem.W.notFirst
              show (Value.ref (G.ca c) == Value.ref (G.ca c) || _) = true
              simp
            · rw [if_neg hcd] at ha
              cases hs : O.isSub d c with
              | true =>
                cases hs2 : O.isSub c d with
                | true =>
                  rw [hs, hs2, if_neg (by decide)] at ha
                  refine rc_left hr.units0 I.kIn J lty ?_ (one ha rx ry rfl ru ea)
                  unfold PySem.W.notFirst
                  show (Value.ref (G.ca d) == Value.ref (G.ca c) || _) = true
                  rw [C.anti c d hs2 hs]
                  simp
                | false =>
                  rw [hs, hs2, if_pos (by rfl)] at ha
                  subst ev
                  obtain rfl : uu = Value.ref ay := ru
                  refine rc_right hr.units0 I.kIn J lty ?_ ?_ (by rw [refl]; exact one ha ry rx rfl rfl ea2)
                  · show (Value.ref (G.ca c) != Value.ref (G.ca d)) = true
                    have ne : G.ca c ≠ G.ca d := fun e => by
                      have z := C.sub c d
                      rw [e, C.sub d d, C.refl d, hs2] at z
                      cases z
                    simp [ne]
                  · show PySem.W.subIn X.K (.ref (G.ca d)) (.ref (G.ca c)) = some true
                    rw [C.sub d c, hs]
              | false =>
                rw [hs, if_neg (by simp)] at ha
                refine rc_left hr.units0 I.kIn J lty ?_ (one ha rx ry rfl ru ea)
                unfold PySem.W.notFirst
                show (_ || PySem.W.subIn X.K (.ref (G.ca d)) (.ref (G.ca c)) == some false) = true
                rw [C.sub d c, hs]
                simp
end
end FD

set_option Elab.async false
set_option linter.all false
set_option autoImplicit false
set_option maxRecDepth 100000
set_option maxHeartbeats 2000000
/-! FDp: == of tuples item by item, with either outcome. -/
namespace FDq
open PySem PySem.SeqAt
open AutoSeq1 (wpAny_loadPart')
open MeetsSeq MeetsSeq2 MeetsSeq3 SeqRoads2
section
variable {prog : Program} {w : World} {A : Around} {R : Result → Shared → Prop}
theorem tuple_eqB (l b : Addr) (items items2 : Array Value) (n n2 : Nat) (dd dd2 : Option Addr) (sl sl2 : Array (Option Value)) (hsz : items.size = items2.size) (I : Nat → Shared → Prop)
    (turn : ∀ i (h1 : i < items.size) (h2 : i < items2.size) s, I i s → wpAny (model prog w) A.in1 (eqBool items[i] items2[i]) (fun r s' => (r = true ∧ I (i + 1) s') ∨ (r = false ∧ R (.ok (.ret (.bool false))) s')) (fun e s' => R (.error e) s') s)
    (fin : ∀ s, I items.size s → R (.ok (.ret (.bool true))) s) {s : Shared} (hl1 : s.heap.get? l = some { cls := .type "tuple", dict := dd, data := .seq items n, slots := sl }) (hb1 : s.heap.get? b = some { cls := .type "tuple", dict := dd2, data := .seq items2 n2, slots := sl2 }) (h : I 0 s) :
    wpAny (model prog w) A.in1 (Builtin.«tuple.__eq__» ⟨[.ref l, .ref b], []⟩) (GQ.FinOf prog w A R) (fun e s' => R (.error e) s') s := by
  have f2 := AutoSeq1.sub_tuple_tuple
  have hZ : (items.toList.zip items2.toList).length = items.size := by simp [hsz]
  have h0 := h
  obtain ⟨hp, g, d, tk, os⟩ := s
  wp_walk using wpAny_loadPart' hl1, wpAny_loadPart' hb1, wpAny_forIn_list _ (fun rest b s' => b.1 = none ∧ ∃ i, rest = (items.toList.zip items2.toList).drop i ∧ i ≤ items.size ∧ I i s') _
  case turn =>
    rintro ⟨y, x⟩ rest b s' ⟨hb', i, hz, hi, hI⟩
    have hlt : i < (items.toList.zip items2.toList).length := by
      rcases Nat.lt_or_ge i (items.toList.zip items2.toList).length with h' | h'
      · exact h'
      · rw [List.drop_of_length_le h'] at hz; cases hz
    have h1 : i < items.size := hZ ▸ hlt
    have h2 : i < items2.size := hsz ▸ h1
    rw [List.drop_eq_getElem_cons hlt] at hz
    injection hz with hyx hrest
    have hy : y = items[i] := by have := congrArg Prod.fst hyx; simpa using this
    have hx : x = items2[i] := by have := congrArg Prod.snd hyx; simpa using this
    subst hy hx
    refine wpAny_bind (wpAny_mono (turn i h1 h2 s' hI) (fun r s2 q2 => ?_) fun _ _ x => x)
    rcases q2 with ⟨hr, q2⟩ | ⟨hr, q2⟩
    · subst hr
      wp_walk
      exact ⟨rfl, i + 1, hrest, h1, q2⟩
    · subst hr
      wp_walk
      all_goals exact q2
  case fin =>
    rintro ⟨b1, b2⟩ s' ⟨hb', i, hz, hi, hI⟩
    simp only at hb'
    subst hb'
    have hge : items.size ≤ i := by
      rcases Nat.lt_or_ge i (items.toList.zip items2.toList).length with h' | h'
      · rw [List.drop_eq_getElem_cons h'] at hz; cases hz
      · exact hZ ▸ h'
    have hi' : i = items.size := by omega
    have hR : R (.ok (.ret (.bool true))) s' := fin s' (hi' ▸ hI)
    wp_walk
    simpa [Builtin.Tuple.tupleCompareSizes, hsz] using hR
  case h =>
    exact ⟨rfl, 0, rfl, Nat.zero_le _, h0⟩
end
section
variable {prog : Program} {w : World} {A : Around} {E : Value → Shared → Prop} {s : Shared}
theorem rc_tupB {l b : Addr} {items items2 : Array Value} {Q : Value → Shared → Prop} (hsz : items.size = items2.size) (hu : A.units < cLine) (I : Nat → Shared → Prop)
    (hl : s.heap.IsTuple l items) (hb : s.heap.IsTuple b items2)
    (turn : ∀ i (h1 : i < items.size) (h2 : i < items2.size) s, I i s → wpAny (model prog w) A.in1 (eqBool items[i] items2[i]) (fun r s' => (r = true ∧ I (i + 1) s') ∨ (r = false ∧ Q (.bool false) s')) E s)
    (fin : ∀ s, I items.size s → Q (.bool true) s) (h : I 0 s) : wpAny (model prog w) A (richCompare .Eq (.ref l) (.ref b)) Q E s := by
  obtain ⟨⟨cls, dd, data, sl⟩, ho, hc, n, hd⟩ := id hl
  obtain ⟨⟨cls2, dd2, data2, sl2⟩, ho2, hc2, n2, hd2⟩ := id hb
  simp only at hc hd hc2 hd2
  subst hc hd hc2 hd2
  refine wpAny_richCompare_same_room (op := .Eq) ⟨_, ho, rfl⟩ ⟨_, ho2, rfl⟩ F.slot_tuple_eq (GQ.call_here F.slot_tuple_eq ⟨_, ho, rfl⟩ F.entry_tuple_eq (F.args_tuple_eq_2 _ _) ?_) hu
  refine tuple_eqB (R := wants (fun v s' => v ≠ .notImplemented ∧ Q v s') E) l b items items2 n n2 dd dd2 sl sl2 hsz I (fun i h1 h2 s' hI => ?_) (fun s' q => ⟨(fun x => nomatch x), fin s' q⟩) ho ho2 h
  refine wpAny_mono (turn i h1 h2 s' hI) (fun r s2 q => ?_) fun _ _ z => z
  rcases q with q | ⟨q1, q2⟩
  · exact .inl q
  · exact .inr ⟨q1, (fun x => nomatch x), q2⟩
/-- == of two values inside a built-in -/
theorem eqBool_of {l b : Value} {Q : Bool → Shared → Prop} (hf : ∀ a t, l ≠ .float a t) (hs : l = b → Q true s) (h : wpAny (model prog w) A (richCompare .Eq l b) (fun v s' => ∃ r, v = .bool r ∧ Q r s') E s) : wpAny (model prog w) A (eqBool l b) Q E s := by
  unfold eqBool
  refine wpAny_holding ?_
  refine wpAny_ite_split (fun hab => ?_) (fun _ => ?_)
  · exact wpAny_bind (wpAny_rule (wpAny_pure (hs (eq_of_beq hab))))
  · have fin : wpAny (model prog w) A (richCompare .Eq l b >>= truthOfDropped) Q E s := by
      refine wpAny_bind (wpAny_mono h (fun v s' hv => ?_) fun _ _ x => x)
      obtain ⟨r, rfl, q⟩ := hv
      exact wpAny_truthy_bool q
    cases l <;> first | exact fin | exact absurd rfl (hf _ _)
end
end FDq

set_option Elab.async false
set_option linter.all false
set_option autoImplicit false
set_option maxRecDepth 100000
set_option maxHeartbeats 2000000
/-! FDq: x == y, x != y. -/
namespace FD
open PySem PySem.Spec PyProof.Rows L2
section
variable {G : Ga} {Wx : WX} {X : Cx} {O : Or} {pins : List (Addr × Obj)} {σ : L2.St} {H : Hp} {s : Shared}
/-- what one value stands for -/
theorem rep_same (hK : X.K = G.K) (I : Inv X pins σ H s) {ow : Addr → Prop} : ∀ (p q : P) (v : V), rep G H ow p v → rep G H ow q v → sameP p q = true
  | .non, q, v, h1, h2 => by cases q <;> first | rfl | (have e1 : v = _ := h1; have e2 : v = _ := h2; rw [e1] at e2; cases e2)
  | .bl a, q, v, h1, h2 => by
    cases q with
    | bl b => have e1 : v = _ := h1; have e2 : v = _ := h2; rw [e1] at e2; cases e2; simp [sameP]
    | non => have e1 : v = _ := h1; have e2 : v = _ := h2; rw [e1] at e2; cases e2
    | int _ => have e1 : v = _ := h1; have e2 : v = _ := h2; rw [e1] at e2; cases e2
    | str _ => have e1 : v = _ := h1; have e2 : v = _ := h2; rw [e1] at e2; cases e2
    | _ => rfl
  | .int a, q, v, h1, h2 => by
    cases q with
    | int b => have e1 : v = _ := h1; have e2 : v = _ := h2; rw [e1] at e2; cases e2; simp [sameP]
    | non => have e1 : v = _ := h1; have e2 : v = _ := h2; rw [e1] at e2; cases e2
    | bl _ => have e1 : v = _ := h1; have e2 : v = _ := h2; rw [e1] at e2; cases e2
    | str _ => have e1 : v = _ := h1; have e2 : v = _ := h2; rw [e1] at e2; cases e2
    | _ => rfl
  | .str a, q, v, h1, h2 => by
    cases q with
    | str b => have e1 : v = _ := h1; have e2 : v = _ := h2; rw [e1] at e2; cases e2; simp [sameP]
    | non => have e1 : v = _ := h1; have e2 : v = _ := h2; rw [e1] at e2; cases e2
    | bl _ => have e1 : v = _ := h1; have e2 : v = _ := h2; rw [e1] at e2; cases e2
    | int _ => have e1 : v = _ := h1; have e2 : v = _ := h2; rw [e1] at e2; cases e2
    | _ => rfl
  | .ty _, q, v, h1, h2 => by cases q <;> rfl
  | .glb _, q, v, h1, h2 => by cases q <;> rfl
  | .dct _, q, v, h1, h2 => by cases q <;> rfl
  | .tup xs, q, v, h1, h2 => by
    cases q with
    | tup ys =>
      obtain ⟨a, vs, e1, t1, r1⟩ := h1
      obtain ⟨b, us, e2, t2, r2⟩ := h2
      rw [e1] at e2
      cases e2
      have ev := I.tuple_inj (by rw [hK]; exact t1.sq) (by rw [hK]; exact t2.sq)
      subst ev
      exact go xs ys vs r1 r2
    | _ => rfl
  | .lst xs, q, v, h1, h2 => by
    cases q with
    | lst ys =>
      obtain ⟨a, vs, e1, t1, r1⟩ := h1
      obtain ⟨b, us, e2, t2, r2⟩ := h2
      rw [e1] at e2
      cases e2
      have ev := I.list_inj (by rw [hK]; exact t1.sq) (by rw [hK]; exact t2.sq)
      subst ev
      exact go xs ys vs r1 r2
    | _ => rfl
  | .fz xs, q, v, h1, h2 => by cases q <;> rfl
  | .ins c fs, q, v, h1, h2 => by
    cases q with
    | ins d gs =>
      obtain ⟨a, dx, vs, e1, t1, _, r1⟩ := h1
      obtain ⟨b, dy, us, e2, t2, _, r2⟩ := h2
      rw [e1] at e2
      cases e2
      rw [t1] at t2
      have ev : vs = us := by injection (Option.some.inj t2)
      subst ev
      exact gof fs gs vs r1 r2
    | _ => rfl
where
  go : ∀ (xs ys : List P) (vs : List V), rep.reps G H ow xs vs → rep.reps G H ow ys vs → sameL xs ys = true
    | [], [], _, _, _ => rfl
    | [], y :: ys, vs, h1, ⟨v, t, e, _⟩ => by rw [show vs = [] from h1] at e; cases e
    | x :: xs, [], vs, ⟨v, t, e, _⟩, h2 => by rw [show vs = [] from h2] at e; cases e
    | x :: xs, y :: ys, vs, ⟨v, t, e1, r1, r2⟩, ⟨u, t2, e2, q1, q2⟩ => by
      rw [e1] at e2
      cases e2
      show (sameP x y && sameL xs ys) = true
      rw [rep_same hK I x y v r1 q1, go xs ys t r2 q2]
      rfl
  gof : ∀ (xs ys : List (Str × P)) (vs : List (Str × V)), rep.repf G H ow xs vs → rep.repf G H ow ys vs → sameF xs ys = true
    | [], [], _, _, _ => rfl
    | [], y :: ys, vs, h1, ⟨v, t, e, _⟩ => by rw [show vs = [] from h1] at e; cases e
    | x :: xs, [], vs, ⟨v, t, e, _⟩, h2 => by rw [show vs = [] from h2] at e; cases e
    | (f, x) :: xs, (g, y) :: ys, vs, ⟨v, t, e1, r1, r2⟩, ⟨u, t2, e2, q1, q2⟩ => by
      rw [e1] at e2
      cases e2
      show (sameP x y && sameF xs ys) = true
      rw [rep_same hK I x y v r1 q1, gof xs ys t r2 q2]
      rfl
theorem relV_inj {x y : V} {t : Value} (h1 : L2.RelV x t) (h2 : L2.RelV y t) : x = y := by
  cases x <;> cases y <;> simp only [L2.RelV] at h1 h2 <;> first
    | rfl
    | (obtain ⟨_, h1⟩ := h1; obtain ⟨_, h2⟩ := h2; rw [h1] at h2; cases h2; rfl)
    | (obtain ⟨_, h1⟩ := h1; obtain ⟨_, h2⟩ := h2; rw [h1] at h2; cases h2; done)
    | (obtain ⟨_, h1⟩ := h1; rw [h1] at h2; cases h2; done)
    | (obtain ⟨_, h2⟩ := h2; rw [h1] at h2; cases h2; done)
    | (rw [h1] at h2; cases h2; rfl)
    | (rw [h1] at h2; cases h2; done)
/-- own == of plain data leaves the store -/
theorem eqI_store {p q : P} {S S' : Store} {b : Bool} (h : eqI O (.p p) (.p q) S = .ok b S') : S' = S := by
  have key : ∀ (run : List W → Store → R W) (a c : P), boolR (callW run [.p a, .p c] S) = .ok b S' → S' = S := fun run a c h => by
    unfold callW at h
    have e : (if (refsOf [W.p a, W.p c]).Nodup then takeC S (refsOf [W.p a, W.p c]) else none) = some [] := by
      show (if ([] : List Nat).Nodup then some [] else none) = some []
      rw [if_pos List.nodup_nil]
    rw [e] at h
    have h : boolR (callG run [] [] [.p a, .p c] S) = .ok b S' := h
    unfold callG at h
    cases hr : run [.p a, .p c] [] with
    | bad => rw [hr] at h; cases h
    | ex e S1 =>
      rw [hr] at h
      have hp : putC S [] S1 = some S := by simp [putC]
      dsimp only at h
      rw [hp] at h
      cases h
    | ok x S1 =>
      rw [hr] at h
      have hp : putC S [] S1 = some S := by simp [putC]
      dsimp only at h
      rw [hp] at h
      cases x with
      | p z =>
        cases z with
        | bl k => cases h; rfl
        | _ => cases h
      | b z => cases h
      | c j =>
        dsimp only at h
        split at h
        · cases h
        · split at h
          · split at h
            · cases h
            · cases h
          · cases h
  unfold eqI at h
  cases ha : askEq O S (.p p) (.p q) with
  | none => rw [ha] at h; cases h
  | some z =>
    obtain ⟨⟨f, pm⟩, a, c⟩ := z
    rw [ha] at h
    have pp : ∃ a' c', a = .p a' ∧ c = .p c' := by
      unfold askEq at ha
      cases h3 : insOf S (.p p) with
      | none => rw [h3] at ha; cases ha
      | some c0 =>
        rw [h3] at ha
        dsimp only at ha
        have fin : ∀ {o : Option (Nat × List Src)} {x y : P}, o.map (fun f => (f, W.p x, W.p y)) = some ((f, pm), a, c) → ∃ a' c', a = .p a' ∧ c = .p c' := fun {o x y} h => by
          cases o with
          | none => cases h
          | some z => cases h; exact ⟨_, _, rfl, rfl⟩
        cases h4 : insOf S (.p q) with
        | none => rw [h4] at ha; exact fin ha
        | some d =>
          rw [h4] at ha
          dsimp only at ha
          split at ha
          · exact fin ha
          · split at ha
            · exact fin ha
            · exact fin ha
    obtain ⟨a', c', e1, e2⟩ := pp
    subst e1 e2
    have h : (if (insP q || (tyName q).isSome) = true then boolR (callW (arr pm (O.run f)) [.p a', .p c'] S) else R.bad) = .ok b S' := h
    split at h
    · exact key _ _ _ h
    · cases h

theorem plain_eq {A : Around} {w : Wd} {p q : P} {v u : V} {vv uu : Value} {b : Bool} {E : Value → Shared → Prop} (hK : X.K = G.K) (hu : A.units + 64 < cLine) (hh : A.handled = none) (hf : A.frames = X.A.frames) (I : Inv X pins σ w.H s) (sr : SR G w) (rp : rep G w.H nil p v) (rq : rep G w.H nil q u) (rv : RelV v vv) (ru : RelV u uu) (h : eqP p q = some b) :
    wpAny (model X.prog X.w) A (richCompare .Eq vv uu) (fun r s' => r = .bool b ∧ Inv X pins σ w.H s') E s := by
  have I2 := inv_at (A := A) I hf hh
  have z := rCmp_ok (X := { { X with A := A } with xe := E }) hu .Eq pins s σ w.H v u vv uu (fun z H' => z = .bl b ∧ H' = w.H)
    (⟨⟨I2.ok.mod, I2.ok.kind, I2.ok.glob, I2.ok.blt, I2.ok.above, I2.ok.inj, I2.ok.has, I2.ok.cab, I2.ok.hd, I2.ok.frames, I2.ok.stk, I2.ok.exf, I2.ok.bs, I2.ok.bsz, I2.ok.noex, I2.ok.exfs, I2.ok.funs, I2.ok.frf⟩, I2.os, I2.bare, I2.base, I2.loc, I2.cell, I2.free, I2.freeC, I2.pin, I2.hok, I2.len⟩) rv ru
    (rCmp_g (G := G) (X := { { X with A := A } with xe := E }) hK .Eq w.H p q b v u _ rp rq h ⟨rfl, rfl⟩)
  refine wpAny_mono z (fun r s' hq => ?_) fun _ _ z => z
  obtain ⟨zv, H', I', rz, ez, eH⟩ := hq
  subst ez eH
  cases rz
  exact ⟨rfl, I'.env0.hok |> fun _ => ⟨I.ok, I'.os, I'.bare, I'.base, I'.loc, I'.cell, I'.free, I'.freeC, I'.pin, I'.hok, I'.len⟩⟩
/-- == inside tuples -/
theorem eqD_run {fi : Nat → FnI} {k : Nat} (hK : X.K = G.K) (C : ClsOk X.K G O) (M : MethsOk X G O fi k) : ∀ (n : Nat) (A : Around) (s : Shared) (w : Wd) (p q : P) (v u : V) (vv uu : Value) (b : Bool) (E : Value → Shared → Prop), Room (k + 1 + n) A → A.guards = some [] → A.frames = X.A.frames →
    Inv X pins σ w.H s → SR G w → rep G w.H w.ow p v → rep G w.H w.ow q u → RelV v vv → RelV u uu → eqD O w.S n p q = some b →
    wpAny (model X.prog X.w) A (richCompare .Eq vv uu) (fun r s' => r = .bool b ∧ ∃ w', Inv X pins σ w'.H s' ∧ Nx G w w' w.S) E s := by
  intro n
  induction n with
  | zero =>
    intro A s w p q v u vv uu b E hr hg hf I sr rp rq rv ru h
    exact thn (plain_eq hK hr.units hr.hd hf I sr (rep_nil rp) (rep_nil rq) rv ru h) fun r s' ⟨e, J⟩ => ⟨e, w, J, Nx.refl sr⟩
  | succ n ih =>
    intro A s w p q v u vv uu b E hr hg hf I sr rp rq rv ru h
    unfold eqD at h
    cases hp : eqP p q with
    | some b' =>
      rw [hp] at h
      cases h
      exact thn (plain_eq hK hr.units hr.hd hf I sr (rep_nil rp) (rep_nil rq) rv ru hp) fun r s' ⟨e, J⟩ => ⟨e, w, J, Nx.refl sr⟩
    | none =>
      rw [hp] at h
      dsimp only at h
      cases hi : insP p with
      | true =>
        rw [hi] at h
        rw [if_pos rfl] at h
        cases he : eqI O (.p p) (.p q) w.S with
        | ok b' S' =>
          rw [he] at h
          cases h
          have eS := eqI_store he
          subst eS
          refine thn (eqI_run (neg := false) (Q := fun b' H' => b' = b ∧ ∃ w', w'.H = H' ∧ Nx G w w' w.S) hK C M (hr.mono (by omega)) hg hf I sr (show repW G w (.p p) v from rp) (show repW G w (.p q) u from rq) rv ru ?_) fun r s' ⟨b1, e1, H', I', e2, w', eH, nn⟩ => ?_
          · rw [he]
            exact fun w' nn => ⟨rfl, w', rfl, nn⟩
          · subst e2 eH
            exact ⟨e1, w', I', nn⟩
        | ex _ _ => rw [he] at h; cases h
        | bad => rw [he] at h; cases h
      | false =>
        rw [hi] at h
        rw [if_neg Bool.false_ne_true] at h
        cases p with
        | tup xs =>
          cases q with
          | tup ys =>
            dsimp only at h
            by_cases hl : xs.length = ys.length
            · rw [if_pos hl] at h
              obtain ⟨a, vs, ev, ta, rs⟩ := rp
              obtain ⟨c, us, eu, tc, qs⟩ := rq
              subst ev eu
              obtain rfl : vv = Value.ref a := rv
              obtain rfl : uu = Value.ref c := ru
              obtain ⟨its, ra, pa, za⟩ := I.tuple (show SqT X.K w.H a vs by rw [hK]; exact ta.sq)
              obtain ⟨its2, rc, pc, zc⟩ := I.tuple (show SqT X.K w.H c us by rw [hK]; exact tc.sq)
              have l1 := ra.length
              have l2 := rc.length
              have l3 := reps_len rs
              have l4 := reps_len qs
              refine FDq.rc_tupB (items := its.toArray) (items2 := its2.toArray) (by rw [List.size_toArray, List.size_toArray]; omega) hr.units0 (fun i s' => ∃ w', Inv X pins σ w'.H s' ∧ Nx G w w' w.S ∧ eqDs (eqD O w.S n) (xs.drop i) (ys.drop i) = some b) pa pc (fun i h1 h2 s1 ⟨w1, I1, n1, e1⟩ => ?_) (fun s1 ⟨w1, I1, n1, e1⟩ => ?_) ⟨w, I, Nx.refl sr, h⟩
              · have k1 : i < xs.length := by simp only [List.size_toArray] at h1; omega
                have k2 : i < ys.length := by omega
                have k3 : i < vs.length := by omega
                have k4 : i < us.length := by omega
                obtain ⟨x1, g1, r1⟩ := reps_at rs (List.getElem?_eq_getElem k3)
                obtain ⟨y1, g2, r2⟩ := reps_at qs (List.getElem?_eq_getElem k4)
                rw [drop_get g1, drop_get g2] at e1
                obtain ⟨u1, hu1, ru1⟩ := ra.get (List.getElem?_eq_getElem k3)
                obtain ⟨u2, hu2, ru2⟩ := rc.get (List.getElem?_eq_getElem k4)
                have g3 : its[i]? = some its.toArray[i] := by
                  have h1' : i < its.length := by omega
                  rw [List.getElem?_eq_getElem h1'] <;> simp
                have g4 : its2[i]? = some its2.toArray[i] := by
                  have h2' : i < its2.length := by omega
                  rw [List.getElem?_eq_getElem h2'] <;> simp
                rw [g3] at hu1
                rw [g4] at hu2
                rw [Option.some.inj hu1, Option.some.inj hu2]
                have e1 : (match eqD O w.S n x1 y1 with | some true => eqDs (eqD O w.S n) (xs.drop (i + 1)) (ys.drop (i + 1)) | some false => if sameP x1 y1 then none else some false | none => none) = some b := e1
                cases q3 : eqD O w.S n x1 y1 with
                | none => rw [q3] at e1; cases e1
                | some b1 =>
                  rw [q3] at e1
                  have s1r := n1.r
                  have hx := n1.g.rep r1
                  have hy := n1.g.rep r2
                  have q4 : eqD O w1.S n x1 y1 = some b1 := by rw [n1.S]; exact q3
                  have fin : ∀ {s2 : Shared} {w2 : Wd}, Inv X pins σ w2.H s2 → Nx G w1 w2 w1.S → (b1 = true ∧ ∃ w', Inv X pins σ w'.H s2 ∧ Nx G w w' w.S ∧ eqDs (eqD O w.S n) (xs.drop (i + 1)) (ys.drop (i + 1)) = some b) ∨ (b1 = false ∧ Value.bool false = Value.bool b ∧ ∃ w', Inv X pins σ w'.H s2 ∧ Nx G w w' w.S) := fun {s2 w2} I2 n2 => by
                    have n3 : Nx G w w2 w.S := by
                      have := n1.trans n2
                      rw [n1.S] at this
                      exact this
                    cases b1 with
                    | true => exact .inl ⟨rfl, w2, I2, n3, e1⟩
                    | false =>
                      dsimp only at e1
                      cases z : sameP x1 y1 with
                      | true => rw [z] at e1; cases e1
                      | false =>
                        rw [z] at e1
                        cases e1
                        exact .inr ⟨rfl, rfl, w2, I2, n3⟩
                  refine FDq.eqBool_of (fun t1 t2 z => ?_) (fun z => ?_) ?_
                  · rw [z] at ru1
                    cases hv : vs[i] with
                    | flt f =>
                      rw [hv] at r1
                      cases x1 with
                      | tup _ => obtain ⟨_, _, e, _⟩ := r1; cases e
                      | lst _ => obtain ⟨_, _, e, _⟩ := r1; cases e
                      | fz _ => obtain ⟨_, _, e, _⟩ := r1; cases e
                      | dct _ => obtain ⟨_, _, e, _⟩ := r1; cases e
                      | ins _ _ => obtain ⟨_, _, _, e, _⟩ := r1; cases e
                      | _ => cases (show V.flt f = _ from r1)
                    | non => rw [hv] at ru1; cases ru1
                    | bl _ => rw [hv] at ru1; cases ru1
                    | int _ => rw [hv] at ru1; obtain ⟨_, e⟩ := ru1; cases e
                    | str _ => rw [hv] at ru1; obtain ⟨_, e⟩ := ru1; cases e
                    | byt _ => rw [hv] at ru1; obtain ⟨_, e⟩ := ru1; cases e
                    | ref _ => rw [hv] at ru1; cases ru1
                    | ty _ => rw [hv] at ru1; cases ru1
                  · have ev : vs[i] = us[i] := by
                      rw [z] at ru1
                      exact relV_inj ru1 ru2
                    rw [← ev] at hy
                    have sm := rep_same hK I1 x1 y1 _ hx hy
                    have := fin I1 (Nx.refl s1r)
                    rcases this with ⟨z1, z2⟩ | ⟨z1, _⟩
                    · exact .inl ⟨rfl, z2⟩
                    · subst z1
                      rw [sm] at e1
                      cases e1
                  · refine wpAny_mono (ih A.in1 s1 w1 x1 y1 _ _ u1 u2 b1 _ (show Room (k + 1 + n) A.in1 from (show Room (k + 1 + n + 1) A from hr).in1) hg hf I1 s1r hx hy ru1 ru2 q4) (fun r s2 ⟨er, w2, I2, n2⟩ => ?_) fun _ _ z => z
                    exact ⟨b1, er, fin I2 n2⟩
              · rw [List.size_toArray] at e1
                have e2 : its.length = xs.length := by omega
                rw [e2, List.drop_length, hl, List.drop_length] at e1
                cases e1
                exact ⟨rfl, w1, I1, n1⟩
            · rw [if_neg hl] at h; cases h
          | _ => cases h
        | _ => cases h
/-- == or != of any two values -/
def rEqo (G : Ga) (O : Or) (neg : Bool) : R2 := fun v u H Q => ∃ (x y : W) (w : Wd), w.H = H ∧ SR G w ∧ repW G w x v ∧ repW G w y u ∧ OkN G (eqW O neg x y w.S) w fun k H' => Q (.bl (xorB neg k)) H'
theorem op_eqo {fi : Nat → FnI} {k : Nat} {neg : Bool} (hK : X.K = G.K) (C : ClsOk X.K G O) (M : MethsOk X G O fi k) (hr : Room (k + 8) X.A) (hg : X.A.guards = some []) : OpR X (compareOp (if neg then .NotEq else .Eq)) (rEqo G O neg) := by
  intro pins s σ H v u vv uu Q I rv ru h
  obtain ⟨x, y, w, eH, sr, rx, ry, h⟩ := h
  subst eH
  unfold eqW at h
  have toRich : ∀ {P : Value → Shared → Prop}, wpAny (model X.prog X.w) X.A (richCompare (if neg then .NotEq else .Eq) vv uu) P X.xe s → wpAny (model X.prog X.w) X.A (compareOp (if neg then .NotEq else .Eq) vv uu) P X.xe s := fun h => by
    cases neg <;> exact h
  cases hi : insOf w.S x with
  | some c =>
    rw [hi] at h
    refine toRich (thn (eqI_run (neg := neg) hK C M (hr.mono (by omega)) hg rfl I sr rx ry rv ru h) fun r s' ⟨b, e, H', I', q⟩ => ?_)
    subst e
    exact ⟨.bl (xorB neg b), H', I', rfl, q⟩
  | none =>
    rw [hi] at h
    dsimp only at h
    cases h1 : view w.S x with
    | none => rw [h1] at h; exact h.elim
    | some p =>
      cases h2 : view w.S y with
      | none => rw [h1, h2] at h; exact h.elim
      | some q =>
        rw [h1, h2] at h
        dsimp only at h
        cases h3 : eqP p q with
        | some b =>
          rw [h3] at h
          have hc : cmpP (if neg then .NotEq else .Eq) p q = some (xorB neg b) := by
            cases neg with
            | false => exact h3
            | true => show (eqP p q).map (!·) = _; rw [h3]; rfl
          exact rCmp_ok hr.units _ pins s σ w.H v u vv uu Q I rv ru (rCmp_g hK _ w.H p q _ v u _ (view_rep sr rx h1) (view_rep sr ry h2) hc (h w (Nx.refl sr)))
        | none =>
          rw [h3] at h
          cases neg with
          | true => exact h.elim
          | false =>
            rw [if_neg Bool.false_ne_true] at h
            cases x with
            | p p' =>
              cases y with
              | p q' =>
                dsimp only at h
                cases h4 : eqD O w.S 6 p' q' with
                | none => rw [h4] at h; exact h.elim
                | some b =>
                  rw [h4] at h
                  refine toRich (thn (eqD_run hK C M 6 X.A s w p' q' v u vv uu b X.xe (hr.mono (by omega)) hg rfl I sr rx ry rv ru h4) fun r s' ⟨e, w', I', n⟩ => ?_)
                  subst e
                  exact ⟨.bl b, w'.H, I', rfl, h w' n⟩
              | _ => exact h.elim
            | _ => exact h.elim
theorem fe_eqo {fi : Nat → FnI} {k : Nat} {neg : Bool} {a b : E} {ea eb : PySem.Expr} {pos : Pos} (hK : X.K = G.K) (C : ClsOk X.K G O) (M : MethsOk X G O fi k) (hr : Room (k + 8) X.A) (hg : X.A.guards = some []) (ha : PE X ea (tE G Wx (evE O a))) (hb : PE X eb (tE G Wx (evE O b))) :
    PE X (.Compare ea [if neg then .NotEq else .Eq] [eb] pos) (tE G Wx (evE O (.eqo neg a b))) :=
  PE.imp (pe_cmpR (op_eqo (neg := neg) hK C M hr hg) ha hb (nomark _ (by cases neg <;> decide) (by cases neg <;> decide))) fun σ H Q ⟨ρ, w, e, s, he, h⟩ => by
    subst e
    refine ⟨ρ, w, rfl, s, he, ok_seq h fun x S1 v w1 _ h1 n1 r1 => tE_at n1 he (ok_seq h1 fun y S2 u w2 _ h2 n2 r2 => ?_)⟩
    have eS := n2.S
    subst eS
    refine ⟨x, y, w2, rfl, n2.r, n2.g.repW r1, r2, ?_⟩
    cases q : eqW O neg x y w2.S with
    | ok k S3 => rw [q] at h2; exact fun w' n => h2 _ w' n rfl
    | ex _ _ => rw [q] at h2; exact h2.elim
    | bad => rw [q] at h2; exact h2.elim
theorem ft_eqo {fi : Nat → FnI} {k : Nat} {neg : Bool} {a b : E} {ea eb : PySem.Expr} {pos : Pos} (hK : X.K = G.K) (C : ClsOk X.K G O) (M : MethsOk X G O fi k) (hr : Room (k + 8) X.A) (hg : X.A.guards = some []) (ha : PE X ea (tE G Wx (evE O a))) (hb : PE X eb (tE G Wx (evE O b))) :
    PT X (.Compare ea [if neg then .NotEq else .Eq] [eb] pos) (tT G Wx (evT O (.eqo neg a b))) :=
  PT.imp (pt_cmpR (op_eqo (neg := neg) hK C M hr hg) ha hb (nomark _ (by cases neg <;> decide) (by cases neg <;> decide))) fun σ H Q ⟨ρ, w, e, s, he, h⟩ => by
    subst e
    refine ⟨ρ, w, rfl, s, he, ok_seqB h fun x S1 v w1 _ h1 n1 r1 => tE_at n1 he (ok_seqB h1 fun y S2 u w2 _ h2 n2 r2 => ?_)⟩
    have eS := n2.S
    subst eS
    refine ⟨x, y, w2, rfl, n2.r, n2.g.repW r1, r2, ?_⟩
    cases q : eqW O neg x y w2.S with
    | ok k S3 => rw [q] at h2; exact fun w' n => ⟨_, rfl, h2 w' n⟩
    | ex _ _ => rw [q] at h2; exact h2.elim
    | bad => rw [q] at h2; exact h2.elim
end
end FD

set_option Elab.async false
set_option linter.all false
set_option autoImplicit false
set_option maxRecDepth 100000
set_option maxHeartbeats 2000000
/-! FDr: cells given up, append, class names, name = [..]. -/
namespace FD
open PySem PySem.Spec PyProof.Rows L2
section
variable {G : Ga} {Wx : WX} {X : Cx} {O : Or} {pins : List (Addr × Obj)} {σ : L2.St} {H : Hp} {s : Shared}
theorem own_at {w : Wd} {k : Nat} {a : Addr} {c : Cell} (sr : SR G w) (ha : w.io[k]? = some a) : ¬ Wd.ow { w with S := w.S.set k .dead } a := by
  rintro (q | ⟨j, h1, d, h2, h3⟩)
  · exact sr.dis k a ha q
  · have h1 : w.io[j]? = some a := h1
    have e := sr.uniq ha h1
    subst e
    have h2 : (w.S.set k .dead)[k]? = some d := h2
    have hl : k < w.S.length := by rw [← sr.len]; exact (List.getElem?_eq_some_iff.mp ha).1
    rw [List.getElem?_set_self hl] at h2
    cases h2
    exact h3 rfl
theorem fe_frz {a : E} {e : PySem.Expr} (h : PE X e (tE G Wx (evE O a))) : PE X e (tE G Wx (evE O (.frz a))) :=
  PE.imp h fun σ H Q ⟨ρ, w, e, sr, he, h⟩ => by
    subst e
    refine ⟨ρ, w, rfl, sr, he, ok_seq h fun x S1 v w1 _ h1 n1 r1 => ?_⟩
    have eS := n1.S
    subst eS
    cases x with
    | p p => exact h1 v w1 (Nx.refl n1.r) r1
    | b p => exact h1.elim
    | c k =>
      dsimp only at h1
      cases q : w1.S[k]? with
      | none => rw [q] at h1; exact h1.elim
      | some c =>
        rw [q] at h1
        dsimp only at h1
        cases q2 : pureC c with
        | none => rw [q2] at h1; exact h1.elim
        | some p =>
          rw [q2] at h1
          obtain ⟨ad, ha, ev⟩ := r1
          have g := Gro.free (k := k) n1.r
          have sr2 := SR.free (k := k) n1.r
          have no := own_at (c := c) n1.r ha
          have cc := n1.r.cell k ad c ha q
          refine h1 v { w1 with S := w1.S.set k .dead } ⟨rfl, sr2, g⟩ ?_
          have st := g.stay
          cases c with
          | lst xs =>
            obtain ⟨vs, hv, rv⟩ := cc
            have q2 : (pureWs xs).map P.lst = some p := q2
            cases z : pureWs xs with
            | none => rw [z] at q2; cases q2
            | some ps =>
              rw [z] at q2
              cases q2
              exact ⟨ad, vs, ev, ⟨hv, no⟩, rep_stay.go st _ _ (pureWs_rep z rv)⟩
          | dct xs =>
            obtain ⟨vs, hv, rv⟩ := cc
            have q2 : (pureK xs).map P.dct = some p := q2
            cases z : pureK xs with
            | none => rw [z] at q2; cases q2
            | some ps =>
              rw [z] at q2
              cases q2
              exact ⟨ad, vs, ev, hv, no, rep_stay.gok st _ _ (pureK_rep z rv)⟩
          | ins c xs =>
            obtain ⟨dx, vs, hv, rv⟩ := cc
            have q2 : (pureF xs).map (P.ins c) = some p := q2
            cases z : pureF xs with
            | none => rw [z] at q2; cases q2
            | some ps =>
              rw [z] at q2
              cases q2
              exact ⟨ad, dx, vs, ev, hv, no, rep_stay.gof st _ _ (pureF_rep z rv)⟩
          | tab _ _ => cases q2
          | dead => cases q2

/-! ### x.append(y) -/
theorem fe_append {a b : E} {ea eb : PySem.Expr} {apos cpos : Pos} (hs : notStar eb = true) (ha : PE X ea (tE G Wx (evE O a))) (hb : PE X eb (tE G Wx (evE O b))) (hbase : attributeBase ea "append" X.env (eval ea X.env) = eval ea X.env) (hline : (apos.endLine == cpos.line) = true) :
    PE X (.Call (.Attribute ea "append" apos) [eb] [] cpos) (tE G Wx (evE O (.bm .append a (.cons b .nil)))) :=
  PE.imp (pe_bm PySem.F.plainAttrs_list PySem.F.slot_list_append PySem.F.type_list_append mt_append ha (pa_cons hb pa_nil (star_cons hs)) hbase (by rw [star_cons hs]; rfl) hline (star_cons hs) rfl) fun σ H Q ⟨ρ, w, e, sr, he, h⟩ => by
    subst e
    refine ⟨ρ, w, rfl, sr, he, ok_seq h fun x S1 v w1 _ h1 n1 r1 => ?_⟩
    have eS := n1.S
    subst eS
    cases hl : lstAt w1.S x with
    | false => rw [hl] at h1; exact h1.elim
    | true =>
      rw [hl, if_pos rfl] at h1
      cases x with
      | p _ => cases hl
      | b _ => cases hl
      | c k =>
        obtain ⟨ad, hio, ev⟩ := r1
        subst ev
        have hl : (match w1.S[k]? with | some (.lst _) => true | _ => false) = true := hl
        cases q : w1.S[k]? with
        | none => rw [q] at hl; cases hl
        | some ce =>
          rw [q] at hl
          cases ce with
          | lst zs0 =>
            obtain ⟨vs0, hv0, _⟩ := n1.r.cell k ad _ hio q
            refine ⟨.inl ⟨rfl, vs0, .inl (.inl hv0)⟩, ρ, w1, rfl, n1.r, n1.g.env he, ?_⟩
            have h1 : Ok G Wx (((evE O b ρ w1.S).bind fun x S1 => (R.ok ([] : List W) S1).bind fun xs S2 => .ok (x :: xs) S2).bind fun xs S2 => match Bm.append, W.c k, xs with
              | .append, .c k, [y] => match S2[k]? with
                | some (.lst zs) => if zs.length < sizeLine then .ok (.p .non) (S2.set k (.lst (zs ++ [y]))) else .bad
                | _ => .bad
              | _, _, _ => .bad) w1 σ Q := h1
            show Ok G Wx (evE O b ρ w1.S) w1 σ _
            cases q2 : evE O b ρ w1.S with
            | bad => rw [q2] at h1; exact h1.elim
            | ex e S2 => rw [q2] at h1; exact h1
            | ok y S2 =>
              rw [q2] at h1
              intro u w2 n2 r2
              have eS := n2.S
              subst eS
              have h2 := Ok.from (show Ok G Wx (match w2.S[k]? with | some (.lst zs) => if zs.length < sizeLine then .ok (.p .non) (w2.S.set k (.lst (zs ++ [y]))) else .bad | _ => .bad) w1 σ Q from h1) n2
              cases q3 : w2.S[k]? with
              | none => rw [q3] at h2; exact h2.elim
              | some ce =>
                rw [q3] at h2
                cases ce with
                | lst zs =>
                  dsimp only at h2
                  have hio2 := n2.g.io k ad hio
                  obtain ⟨vs, hv, rv⟩ := n2.r.cell k ad _ hio2 q3
                  have hlen := repWs_len rv
                  by_cases hz : zs.length < sizeLine
                  · rw [if_pos hz] at h2
                    have hk : alive w2.S k := ⟨_, q3, fun z => by cases z⟩
                    have g3 := Gro.put (o := .lst (vs ++ [u])) (c := .lst (zs ++ [y])) n2.r hio2 hk
                    have s3 := SR.put (o := .lst (vs ++ [u])) (c := .lst (zs ++ [y])) n2.r hio2 hk ⟨_, upd_same, repWs_app (g3.repWs rv) ⟨u, [], rfl, g3.repW r2, rfl⟩⟩
                    exact ⟨ad, vs, u, rfl, rfl, hv, by rw [hlen]; exact hz, h2 .non (w2.put k ad (.lst (vs ++ [u])) (.lst (zs ++ [y]))) ⟨rfl, s3, g3⟩ rfl⟩
                  · rw [if_neg hz] at h2; exact h2.elim
                | _ => exact h2.elim
          | _ => cases hl

/-! ### x.__class__.__name__ -/
/-- a class's name, as it is kept -/
def NameOk (K : PySem.W.Frag) (G : Ga) (O : Or) : Prop := ∀ c, ∃ cd, PySem.W.clsIn K (G.ca c) = some cd ∧ cd.name = O.cnm c

/-! ### name = [..] -/
theorem comp_read {it : It} {t : Tg} {ts : T} {a : E} {own : List (Str × Nat)} {Wb : WX} {Q : VK} (hix : ∀ i ∈ ixT t, i ∈ own.map (·.2)) (h : tE G Wx (evE O (.comp it t (own.map (·.2)) ts a)) σ H Q) :
    tLc (tI G Wx (evIt O it)) (tG G t) (tT G Wb (evT O ts)) (tE G Wb (evE O a)) (own.map (·.2)) σ H Q := by
  obtain ⟨ρ, w, e, s, hen, h⟩ := h
  subst e
  refine ⟨ρ, w, rfl, s, hen, ?_⟩
  have h : Ok G Wx ((evIt O it ρ w.S).bind fun xs S1 => match compL t (evT O ts) (evE O a) (wipeW ρ (own.map (·.2))) xs [] S1 with | .ok ys S2 => .ok (.p (.lst ys)) S2 | _ => .bad) w σ Q := h
  show OkI G Wx (evIt O it ρ w.S) w σ _
  cases q : evIt O it ρ w.S with
  | ok xs S1 =>
    rw [q] at h
    intro J w' n wk D hD
    have eS := n.S
    subst eS
    have h := Ok.from (show Ok G Wx (match compL t (evT O ts) (evE O a) (wipeW ρ (own.map (·.2))) xs [] w'.S with | .ok ys S2 => .ok (.p (.lst ys)) S2 | _ => .bad) w σ Q from h) n
    cases q2 : compL t (evT O ts) (evE O a) (wipeW ρ (own.map (·.2))) xs [] w'.S with
    | ok ys S2 =>
      rw [q2] at h
      exact comp_w wk n.r (n.g.env hen) hD hix q2 h
    | ex _ _ => rw [q2] at h; exact h.elim
    | bad => rw [q2] at h; exact h.elim
  | ex e S1 => rw [q] at h; exact h
  | bad => rw [q] at h; exact h
theorem fs_setLc {i : Nat} {y : Str} {py : Pos} {elt tg iter : PySem.Expr} {ifs : List PySem.Expr} {scope : Scope} {own : List (Str × Nat)} {pos spos : Pos} {it : It} {t : Tg} {ts : T} {a : E} {Wb : WX} (hc : X.calm = true) (hN : X.N.Nodup) (hy : X.N[i]? = some y) (hyl : X.env.scope.names.lookup y = some .local)
    (hsw : swapsWith (.ListComp elt [⟨tg, iter, ifs, 0⟩] scope pos) (some (.Name y py)) spos.line X.env = pure true) (hi : PI X tg iter (tI G Wx (evIt O it))) (ok : BlkOk X.N X.env.scope scope own) (hix : ∀ i ∈ ixT t, i ∈ own.map (·.2))
    (hg : ∀ (s : Shared) (H : Hp) (C : Addr) (cl : List (Str × Addr)) (fp : List Addr), PG (X.blk s H scope (compEnvC scope cl C X.env) fp) tg (tG G t))
    (ht : ∀ (s : Shared) (H : Hp) (C : Addr) (cl : List (Str × Addr)) (fp : List Addr), PTs (X.blk s H scope (compEnvC scope cl C X.env) fp) ifs (tT G Wb (evT O ts)))
    (he : ∀ (s : Shared) (H : Hp) (C : Addr) (cl : List (Str × Addr)) (fp : List Addr), PE (X.blk s H scope (compEnvC scope cl C X.env) fp) elt (tE G Wb (evE O a))) (hs : ∀ x, foldedSetIterable iter X.env x = pure x) :
    PS X (.Assign [.Name y py] (.ListComp elt [⟨tg, iter, ifs, 0⟩] scope pos) spos) (tS G Wx (exS O (.asg (.nm i) (.comp it t (own.map (·.2)) ts a)))) :=
  PS.imp (ps_setLc hc hN hy hyl hsw hi ok hg ht he hs) fun D σ H ⟨ρ, w, e, s, hen, h⟩ => by
    subst e
    refine comp_read (Wb := Wb) hix ⟨ρ, w, rfl, s, hen, ok_out (k := fun x S1 => match bindTg (.nm i) x ρ with | some ρ1 => .nx ρ1 S1 | none => .bad) hen h fun z S' v w' _ h1 n r => ?_⟩
    have h1 : OkS G Wx (match (if i < ρ.length then some (ρ.set i (some z)) else none) with | some ρ1 => .nx ρ1 S' | none => .bad) w' D := h1
    by_cases c : i < ρ.length
    · rw [if_pos c] at h1
      exact h1 _ w' ⟨n.S, n.r, Gro.refl w'⟩ ((n.g.env hen).set r)
    · rw [if_neg c] at h1; exact h1.elim
end

/-! ### the form of a method's call -/
theorem star_all : ∀ {es : List PySem.Expr} {env : PySem.Env} {pos : Pos}, notStars es = true → (backTo pos (starEach es env)).all (!·.1) = true
  | [], _, _, _ => rfl
  | e :: es, env, pos, h => by
    obtain ⟨h1, h2⟩ := Bool.and_eq_true_iff.mp (show (notStar e && notStars es) = true from h)
    rw [star_cons h1]
    show (!false && (backTo pos (starEach es env)).all (!·.1)) = true
    rw [star_all h2]; rfl
theorem meth_call {o : PySem.Expr} {es : List PySem.Expr} {kws : List Keyword} {ks : List Str} {m : Str} {apos pos : Pos} {env : PySem.Env} (hs : notStars es = true) (hk : kwNames kws = some ks) (hn : es.length + kws.length < 29) (hl : (apos.endLine == pos.line) = true) (ov : Value) :
    methodCall o m apos pos env ov (es.length + kws.length) (backTo pos (starEach es env)) (backToKw pos (keywordEach kws env)) = (do
      let (f, first) ← holding [ov] (getMethod ov m (do return (← importBound o env).getD true))
      callWith pos f first (backTo pos (starEach es env)) (backToKw pos (keywordEach kws env))) := by
  have form : methodCallForm (es.length + kws.length) (backTo pos (starEach es env)) (backToKw pos (keywordEach kws env)) = true := by
    unfold methodCallForm
    rw [star_all hs, (kw_facts (env := env) (pos := pos) hk).1]
    simp only [Bool.true_and, decide_eq_true_eq]
    split <;> omega
  unfold methodCall
  rw [form]
  have hp : methodCallPos true o env apos pos = pure pos := by
    unfold methodCallPos
    rw [hl]
    rfl
  rw [hp]
  rfl
theorem meth_form {o : PySem.Expr} {es : List PySem.Expr} {kws : List Keyword} {ks : List Str} {m : Str} {apos pos : Pos} {env : PySem.Env} (hb : attributeBase o m env (eval o env) = eval o env) (hs : notStars es = true) (hk : kwNames kws = some ks) (hn : es.length + kws.length < 29) (hl : (apos.endLine == pos.line) = true) :
    eval (.Call (.Attribute o m apos) es kws pos) env = (do
      let ov ← eval o env
      standAt apos.atName
      let (f, first) ← holding [ov] (getMethod ov m (do return (← importBound o env).getD true))
      callWith pos f first (backTo pos (starEach es env)) (backToKw pos (keywordEach kws env))) := by
  rw [arm_eval_Call, hb]
  simp only [meth_call hs hk hn hl]
end FD

set_option Elab.async false
set_option linter.all false
set_option autoImplicit false
set_option maxRecDepth 100000
set_option maxHeartbeats 4000000
/-! FDt: super().__init__('text') at the head of an own exception's __init__. -/
namespace FD
open PySem PySem.Spec PyProof.Rows L2 PySem.W
/-- what is told of a def that begins with super().__init__(..): its class D, its cell, its code -/
structure SupOk (P : Program) (K : Frag) (mg : Str → Option Value) (f cc cda D : Addr) (scope : Scope) (slf : Str) : Prop where
  fn : ∃ (oc : Value) (od : Option Addr) (fd : FuncData) (osl : Array (Option Value)) (ar : Arg), K.lookup f = some ⟨oc, od, .func fd, osl⟩ ∧ (fd.params.posonlyargs ++ fd.params.args).head? = some ar ∧ ar.arg = slf
  code : ∃ (ccl : Value) (cdd : Option Addr) (vs : Array Value) (ccs : Array (Option Value)) (file : Str) (tf : Tok), K.lookup cda = some ⟨ccl, cdd, .fields vs, ccs⟩ ∧ vs[2]? = some (.str file tf) ∧ ((P.main.file : Str) == file) = true
  cell : ∃ (cl : Value) (cld : Option Addr) (csl : Array (Option Value)), K.lookup cc = some ⟨cl, cld, .cell (some (.ref D)), csl⟩
  cls : (clsIn K D).isSome = true
  top : (P.main.scope.names.lookup ("super" : Str)).isSome = false
  ks : scope.names.lookup ("super" : Str) = some .globalImplicit
  kc : scope.names.lookup ("__class__" : Str) = some .free
  ka : scope.names.lookup slf = some .local
  mgs : mg ("super" : Str) = none
  ho : nsIn K cStatics "thirdparty.any" = some none
section
variable {X : Cx} {pins : List (Addr × Obj)} {σ : L2.St} {H : Hp} {s : Shared}
theorem clsIn_some {K : Frag} {D : Addr} (h : (clsIn K D).isSome = true) : ∃ (oD : Obj) (cd : ClassData), K.lookup D = some oD ∧ oD.data = .cls cd ∧ clsIn K D = some cd := by
  unfold clsIn at h ⊢
  split at h
  · rename_i c d cd sl ho
    exact ⟨_, cd, ho, rfl, rfl⟩
  · cases h
/-- super() itself -/
theorem sup_base {f cc cda D : Addr} {slf : Str} {a C : Addr} {ox : Obj} {odx : Option Obj} {body : List Stmt} {p0 p1 : Pos} {whole : Sem Value} {Q : Value → Shared → Prop} {E : Value → Shared → Prop} (S : SupOk X.prog X.K X.mg f cc cda D X.env.scope slf) (I : Inv X pins σ H s)
    (hfu : X.env.func = some f) (hco : X.env.code = .ref cda) (hcl : X.env.cells.lookup ("__class__" : Str) = some cc) (h0 : X.N[0]? = some slf) (hv : σ[0]? = some (some (.ref a))) (J : InstAt s.heap a ox C odx) (hsub : mroIn X.K C (.ref D) = some true)
    (h : ∀ h', h'.get? s.heap.objs.size = some (ks_superObj D a C) → (∀ b o, s.heap.get? b = some o → h'.get? b = some o) → Q (.ref s.heap.objs.size) { s with heap := h' }) :
    PySem.wpAt (model X.prog X.w) X.A (.func body X.env) (attributeBase (.Call (.Name "super" p0) [] [] p1) "__init__" X.env whole) Q E s := by
  obtain ⟨oc, od, fd, osl, ar, lk, hp, har⟩ := S.fn
  obtain ⟨ccl, cdd, vs, ccs, file, tf, lc, hvs, hfile⟩ := S.code
  obtain ⟨cl, cld, csl, lcell⟩ := S.cell
  obtain ⟨oD, cd, lD, hD2, hD3⟩ := clsIn_some S.cls
  have KX := I.kIn
  obtain ⟨mb, b1, b2⟩ := I.mod.blt
  refine ks_wpAt_super_base (f := f) (cc := cda) (file := file) S.ks S.kc (by decide) hfu (KX _ _ lk) rfl hp hco (KX _ _ lc) rfl hvs hfile S.top ?_
  refine ks_loadName_global I.ok.kind S.ks (Calls.loadGlobal_builtin (by rw [I.ok.glob]; exact I.mod.glob.keeps I.bk) S.mgs (by rw [I.ok.blt]; exact b1.keeps I.bk) ((b2 _ (by decide)).trans (by decide +kernel)) ⟨rfl, ?_⟩)
  refine wpAny_loadName_free I.ok.kind S.kc hcl ⟨_, KX _ _ lcell, rfl⟩ ?_
  obtain ⟨m, hn, hl⟩ := I.loc
  obtain ⟨u, ru, hu⟩ := hl 0 slf (.ref a) h0 hv (.inl S.ka)
  obtain rfl : u = Value.ref a := ru
  have hm : m slf = some (.ref a) := by
    rcases hu with ⟨_, e⟩ | ⟨k, _⟩
    · exact e
    · rcases k with k | k
      · have k : X.env.scope.names.lookup slf = some .cell := k
        rw [S.ka] at k; cases k
      · have k : X.env.scope.names.lookup slf = some .free := k
        rw [S.ka] at k; cases k
  rw [har]
  refine wpAny_loadName_local I.ok.kind S.ka hn hm ?_
  obtain ⟨hh, g, d, t, os⟩ := s
  refine ks_wpAny_isType_cls (KX _ _ lD) hD2 ⟨rfl, ?_⟩
  refine ks_wpAny_call_super (KX _ _ lD) hD2 J.at_ J.cls (fun c e => ?_) (looks_mroIn KX hsub) (fun h' e k => h h' e k)
  have := J.no
  unfold notCls at this
  rw [e] at this
  exact Bool.noConfusion this
theorem exo_inst {a C : Addr} (I : Inv X pins σ H s) (e : H a = some (exo a C none)) : ∃ t, InstAt s.heap a (excObj C t none .none) C none := by
  obtain ⟨t1, ho⟩ := exo_at I.hok e
  exact ⟨t1, ho, rfl, rfl, trivial⟩
/-- super().__init__('text') of an exception being made -/
theorem sup_exc {f cc cda D : Addr} {slf : Str} {a C : Addr} {body : List Stmt} {m : Str} {j : Nat} {p0 p1 ap cp pos mp : Pos} {E : Value → Shared → Prop} (S : SupOk X.prog X.K X.mg f cc cda D X.env.scope slf) (T : OexC X.K C) (I : Inv X pins σ H s)
    (hfu : X.env.func = some f) (hco : X.env.code = .ref cda) (hcl : X.env.cells.lookup ("__class__" : Str) = some cc) (h0 : X.N[0]? = some slf) (hv : σ[0]? = some (some (.ref a))) (ea : H a = some (exo a C none)) (hsub : mroIn X.K C (.ref D) = some true)
    (hs : ks_superIn X.K C D "__init__" = some (some (.builtin "ValueError.__init__"))) (hB : subIn X.K (.ref C) (.type "ValueError") = some true) {Q : Flow → Shared → Prop} (hline : (ap.endLine == cp.line) = true) (hq : ∀ s', Inv X pins σ H s' → Q .next s') :
    PySem.wpAt (model X.prog X.w) X.A (.func body X.env) (exec (.Expr (.Call (.Attribute (.Call (.Name "super" p0) [] [] p1) "__init__" ap) [.Constant (.str m) j mp] [] cp) pos) X.env) Q E s := by
  obtain ⟨t1, J⟩ := exo_inst I ea
  refine ks_wpAt_Expr_any (ks_wpAt_MethodCall (pl := (do return (← importBound (.Call (.Name "super" p0) [] [] p1) X.env).getD true)) ?_ (by rw [arm_eval_Call]; have q := fun ov => meth_call (o := .Call (.Name "super" p0) [] [] p1) (es := [.Constant (.str m) j mp]) (kws := []) (ks := []) (m := "__init__") (env := X.env) (ov := ov) rfl rfl (by show 1 + 0 < 29; omega) hline; simp only [q]; rfl)) I.quiet rfl
  refine sup_base S I hfu hco hcl h0 hv J hsub fun h1 e1 k1 => ?_
  have I1 : Inv X pins σ H { s with heap := h1 } := I.kept (t' := s.toks) k1
  have KX1 := I1.kIn
  have J1 : InstAt h1 a (excObj C t1 none .none) C none := ⟨k1 _ _ J.at_, rfl, rfl, trivial⟩
  have hI : Looks (model X.prog X.w) h1 (isInstance (.ref a) (.type "ValueError")) true := J1.type.andThen (looks_subIn KX1 hB)
  cases hc : clsIn X.K C with
  | none => unfold ks_superIn at hs; rw [hc] at hs; cases hs
  | some cd =>
    unfold ks_superIn at hs
    rw [hc] at hs
    refine kxs_getMethod kxs_ValueError e1 (looks_opaque KX1 S.ho) (l₀ := cd.mro) (fun A Q E s k q => wpAny_bind ((looks_clsIn KX1 hc) A _ E s k (wpAny_pure q))) rfl KX1 hs hI (ks_ne KX1 J1 hc) (by decide) ?_
    have k2 : ∀ b o, h1.get? b = some o → (h1.push (kxs_mw "ValueError.__init__" a)).get? b = some o := fun b o e => Heap.get?_push_of_some _ e
    have I2 : Inv X pins σ H ⟨h1.push (kxs_mw "ValueError.__init__" a), s.gens, s.drawn, s.toks + 1, s.os⟩ := I1.kept (t' := s.toks + 1) k2
    refine kxs_callWith (i := "ValueError.__init__") (x := a) (u := h1.objs.size) rfl (Calls.evalArgs_plain (args_cons (Calls.Constant_str (args_nil ⟨Heap.get?_push_size _ rfl, ?_⟩)) rfl))
    have I3 : Inv X pins σ H ⟨h1.push (kxs_mw "ValueError.__init__" a), s.gens, s.drawn, s.toks + 1 + 1, s.os⟩ := I2.tok _
    -- the wrapper's call
    obtain ⟨nm, q, N, bs, bm, sn, sub, ab, col, dd, k0, k1', k2', k3, k5, hC, hbm⟩ := T.cls
    obtain ⟨t2, hx⟩ := exo_at I3.hok ea
    refine wpAny_call (codeAny_of_tree ?_)
    show wpAny _ X.A.in1 (callAny (.ref h1.objs.size) ⟨[_], []⟩) _ _ _
    simp only [callAny]
    refine wpAny_bind (wpAny_load (Heap.get?_push_size _ rfl) ?_)
    simp only [kxs_mw, show (Value.type "method-wrapper" == Value.type "method" || Value.type "method-wrapper" == Value.type "builtin_function_or_method" || Value.type "method-wrapper" == Value.type "method-wrapper") = true by decide, if_true]
    refine KFB.if_so (by decide) ?_
    refine wpAny_bind (check_bound_init F.excBase_ValueError.toExcCallFacts (I3.kIn _ _ hC) hx rfl ?_)
    refine wpAny_bind (wpAny_pure (wpAny_pure ?_))
    refine ⟨plainId_quiet F.excBase_ValueError.init.plain _, codeAny_builtin F.excBase_ValueError.initEntry ?_⟩
    refine exc_init_tree (cls := .ref C) (t0 := t2) (dv := none) (c2 := .none) (c3 := .none) (b4 := .bool false) hx (by show 1 ≤ sizeLine; decide) fun h' k e' _ => ?_
    have J4 := I3.write (t' := s.toks + 1 + 1) (x := a) (e := a) (o := exo a C none) (by rw [ea]; exact True.intro) (.inl rfl) k ⟨_, e'⟩ (exo_ok e')
    have eu : upd H a (exo a C none) = H := by
      funext b
      by_cases hb : b = a
      · rw [hb, upd_same, ea]
      · rw [upd_ne hb]
    rw [eu] at J4
    exact hq _ J4
end
end FD

set_option Elab.async false
set_option linter.all false
set_option autoImplicit false
set_option maxRecDepth 100000
set_option maxHeartbeats 4000000
/-! FDu: raise C(e, ..), C an own exception whose __init__ is super().__init__('text') and fields. -/
namespace FD
open PySem PySem.Spec PyProof.Rows L2 PySem.W NdefX
/-- the dict at d grows by the fields -/
def exEnd (d : Addr) : List (Str × V) → List (Str × V) → Hp → Hp
  | _, [], H => H
  | fs, (f, y) :: r, H => exEnd d ((f, y) :: fs) r (upd H d (exd d ((f, y) :: fs)))
/-- self.f = p -/
def exFld (N : List Str) (sc : Scope) (slf : Str) : Stmt → Option (Str × Nat)
  | .Assign [.Attribute (.Name x _) f _] (.Name y _) _ => if (x == slf && sc.names.lookup y == some .local && sc.names.lookup slf == some .local && !(y == ("__debug__" : Str)) && !(y == ("__classdict__" : Str)) && !(slf == ("__debug__" : Str)) && !(slf == ("__classdict__" : Str)) && decide (N.idxOf y < N.length)) = true then some (f, N.idxOf y) else none
  | _ => none
def exFlds (N : List Str) (sc : Scope) (slf : Str) : List Stmt → Option (List (Str × Nat))
  | [] => some []
  | s :: r => match exFld N sc slf s, exFlds N sc slf r with
    | some x, some xs => some (x :: xs)
    | _, _ => none
section
variable {X : Cx} {pins : List (Addr × Obj)} {σ : L2.St} {H : Hp} {s : Shared} {C : Addr}
theorem exFld_ok {slf : Str} {st : Stmt} {f : Str} {j : Nat} (h0 : X.N[0]? = some slf) (h : exFld X.N X.env.scope slf st = some (f, j)) :
    PS X st (tOst X.K f (tVar 0) (tVar j)) := by
  unfold exFld at h
  split at h
  · rename_i x p1 f' p2 y p3 pos
    split at h
    · rename_i c
      cases h
      simp only [Bool.and_eq_true, beq_iff_eq, Bool.not_eq_true', decide_eq_true_eq] at c
      obtain ⟨⟨⟨⟨⟨⟨⟨c1, c2⟩, c3⟩, c4⟩, c5⟩, c6⟩, c7⟩, c8⟩ := c
      subst c1
      have hy : X.N[X.N.idxOf y]? = some y := by
        rw [List.getElem?_eq_getElem c8]
        simp
      exact ps_ost (pe_var h0 (.inl c3) c6 c7) (pe_var hy (.inl c2) c4 c5) rfl
    · cases h
  · cases h
theorem ex_rest {slf : Str} (h0 : X.N[0]? = some slf) (T : OexC X.K C) : ∀ (sts : List Stmt) (fls : List (Str × Nat)), exFlds X.N X.env.scope slf sts = some fls → (∀ q ∈ fls, findIn X.K (.ref C) q.1 = some none) →
    PSs X sts (fun D σ H => ∃ a d fs ys, σ[0]? = some (some (.ref a)) ∧ H a = some (exo a C (some d)) ∧ H d = some (exd d fs) ∧ a ≠ d ∧ fs.length + fls.length ≤ 900 ∧ Paired (fun (q : Str × Nat) (y : Str × V) => q.1 = y.1 ∧ σ[q.2]? = some (some y.2)) fls ys ∧ D.nx σ (exEnd d fs ys H))
  | [], fls, h, _ => by
    cases h
    exact PSs.imp pss_nil fun D σ H ⟨a, d, fs, ys, _, _, _, _, _, p, q⟩ => by
      cases p
      exact q
  | st :: r, fls, h, hno => by
    unfold exFlds at h
    cases h1 : exFld X.N X.env.scope slf st with
    | none => rw [h1] at h; cases h
    | some q =>
      cases h2 : exFlds X.N X.env.scope slf r with
      | none => rw [h1, h2] at h; cases h
      | some qs =>
        rw [h1, h2] at h
        cases h
        obtain ⟨f, j⟩ := q
        refine PSs.imp (pss_cons (exFld_ok h0 h1) (ex_rest h0 T r qs h2 fun q hq => hno q (List.mem_cons_of_mem _ hq))) fun D σ H ⟨a, d, fs, ys, e0, ea, ed, nad, hl, p, q⟩ => ?_
        cases p with
        | @cons _ y _ ys p1 p2 =>
          obtain ⟨g, y⟩ := y
          obtain ⟨eg, ey⟩ := p1
          have eg : f = g := eg
          subst eg
          rw [List.length_cons] at hl
          refine ⟨y, ey, .ref a, e0, a, C, rfl, T, hno (f, j) List.mem_cons_self, .inr ⟨d, fs, ea, ed, by omega, ?_⟩⟩
          exact ⟨a, d, (f, y) :: fs, ys, e0, by rw [upd_ne nad]; exact ea, upd_same, nad, by rw [List.length_cons]; omega, p2, q⟩
theorem ex_body {slf : Str} (h0 : X.N[0]? = some slf) (T : OexC X.K C) {st : Stmt} {r : List Stmt} {fls : List (Str × Nat)} (h : exFlds X.N X.env.scope slf (st :: r) = some fls) (hno : ∀ q ∈ fls, findIn X.K (.ref C) q.1 = some none) :
    PSs X (st :: r) (fun D σ H => ∃ a ys, σ[0]? = some (some (.ref a)) ∧ H a = some (exo a C none) ∧ fls.length ≤ 800 ∧ Paired (fun (q : Str × Nat) (y : Str × V) => q.1 = y.1 ∧ σ[q.2]? = some (some y.2)) fls ys ∧
      ∀ d, H d = none → d ≠ a → ∀ y ys', ys = y :: ys' → D.nx σ (exEnd d [y] ys' (upd (upd H d (exd d [y])) a (exo a C (some d))))) := by
  unfold exFlds at h
  cases h1 : exFld X.N X.env.scope slf st with
  | none => rw [h1] at h; cases h
  | some q =>
    cases h2 : exFlds X.N X.env.scope slf r with
    | none => rw [h1, h2] at h; cases h
    | some qs =>
      rw [h1, h2] at h
      cases h
      obtain ⟨f, j⟩ := q
      refine PSs.imp (pss_cons (exFld_ok h0 h1) (ex_rest h0 T r qs h2 fun q hq => hno q (List.mem_cons_of_mem _ hq))) fun D σ H ⟨a, ys, e0, ea, hl, p, q⟩ => ?_
      cases p with
      | @cons _ y _ ys p1 p2 =>
        obtain ⟨g, y⟩ := y
        obtain ⟨eg, ey⟩ := p1
        have eg : f = g := eg
        subst eg
        rw [List.length_cons] at hl
        refine ⟨y, ey, .ref a, e0, a, C, rfl, T, hno (f, j) List.mem_cons_self, .inl ⟨ea, fun d hd nd => ?_⟩⟩
        exact ⟨a, d, [(f, y)], ys, e0, upd_same, by rw [upd_ne nd]; exact upd_same, Ne.symm nd, by show 1 + qs.length ≤ 900; omega, p2, q d hd nd _ _ rfl⟩

/-- what such an __init__ promises -/
def spEx (C : Addr) (fls : List (Str × Nat)) (np : Nat) : Sp := fun vs H Q _ => ∃ (a : Addr) (ys : List (Str × V)), vs.length = np ∧ vs[0]? = some (.ref a) ∧ H a = some (exo a C none) ∧ Paired (fun (q : Str × Nat) (y : Str × V) => q.1 = y.1 ∧ vs[q.2]? = some y.2) fls ys ∧
  ∀ d, H d = none → d ≠ a → ∀ y ys', ys = y :: ys' → Q .non (exEnd d [y] ys' (upd (upd H d (exd d [y])) a (exo a C (some d))))
/-- the text of such an __init__, its names first -/
structure ExTx (N ps : List Str) (scope : Scope) (body : List Stmt) (slf : Str) (fls : List (Str × Nat)) : Prop where
  sc : NScope N ps ["__class__"] scope
  slf0 : ps[0]? = some slf
  sup : ∃ (p0 p1 ap cp pos mp : Pos) (m : Str) (j : Nat) (st : Stmt) (r : List Stmt), body = .Expr (.Call (.Attribute (.Call (.Name "super" p0) [] [] p1) "__init__" ap) [.Constant (.str m) j mp] [] cp) pos :: st :: r ∧ (ap.endLine == cp.line) = true ∧ exFlds N scope slf (st :: r) = some fls
  par : ∀ q ∈ fls, q.2 < ps.length
  few : fls.length ≤ 800
theorem fn_ex {CX : CXT} {P : Program} {w : World} {K : Frag} {mg : Str → Option Value} {base : Heap} {k : Nat} {f cc cda D : Addr} {name qual : Str} {params : Arguments} {body : List Stmt} {scope : Scope} {dV kV doc pm ct oc : Value} {an od : Option Addr} {osl : Array (Option Value)} {N ps : List Str} {slf : Str} {fls : List (Str × Nat)}
    (lk : K.lookup f = some ⟨oc, od, .func (ksFn name qual params body scope dV kV doc pm an (.ref cda) ct cc), osl⟩) (hcd : codeIn K (.ref cda) qual = true) (tx : ExTx N ps scope body slf fls) (S : SupOk P K mg f cc cda D scope slf) (T : OexC K C) (hno : ∀ q ∈ fls, findIn K (.ref C) q.1 = some none) (hsub : mroIn K C (.ref D) = some true)
    (hs : ks_superIn K C D "__init__" = some (some (.builtin "ValueError.__init__"))) (hB : subIn K (.ref C) (.type "ValueError") = some true) : FnOk P w K mg base CX (k + 1) f (ksFn name qual params body scope dV kV doc pm an (.ref cda) ct cc) ps (spEx C fls ps.length) := by
  refine ⟨fun vs H Q E ⟨a, ys, h, _⟩ => h, fun A outer s H args us vs Q E hr e0 hb r hsp => ?_⟩
  obtain ⟨a, ys, hl, hv0, ea, py, hq⟩ := hsp
  obtain ⟨p0, p1, ap, cp, pos, mp, m, j, st, rst, eb, hline, hfl⟩ := tx.sup
  have KX : K.In s.heap := e0.mod.kin.keeps fun b o e => (e0.bs b o e).1
  have lim : s.heap.NoLimit := e0.mod.nolimit.keeps fun b o e => (e0.bs b o e).1
  have hun : us.length = ps.length := by rw [← r.length]; exact hl
  refine ks_codeAny_call_defAt (fd := ksFn name qual params body scope dV kV doc pm an (.ref cda) ct cc) (body := body) (binds := ps.zip us) hr.depth (KX _ _ lk) rfl lim (codeRec_of KX hcd) rfl hb tx.sc.nocell
    (fun y hy => tx.sc.par y.1 (List.of_mem_zip hy).1) (fun h1 hns hk => ?_) tx.sc.co tx.sc.gen tx.sc.kind
  obtain ⟨cl, cld, csl, lcell⟩ := S.cell
  have hcc : s.heap.get? cc = some _ := KX _ _ lcell
  have ncc : H cc = none := (e0.bs cc _ (e0.mod.kin _ _ lcell)).2
  have CA : CellsAt [("__class__", cc)] ["__class__"] [none] s.heap H := by
    have one : ∀ {y : Str} {c : Addr}, ([("__class__", cc)] : List (Str × Addr)).lookup y = some c → y = "__class__" ∧ c = cc := fun {y c} h => by
      rw [List.lookup_cons] at h
      split at h
      · rename_i q
        cases h
        exact ⟨beq_iff_eq.mp q, rfl⟩
      · cases h
    refine ⟨rfl, fun y c h => ?_, fun x y c h1 h2 => (one h1).1.trans (one h2).1.symm, fun i y h => ?_⟩
    · obtain ⟨_, e⟩ := one h
      rw [e]
      exact ⟨ncc, _, _, hcc, rfl⟩
    · cases i with
      | zero =>
        simp at h
        subst h
        exact ⟨cc, by simp [List.lookup], fun v z => by simp at z⟩
      | succ i => simp at h
  let F : NF := ⟨name, qual, params, body, scope, [("__class__", cc)], cda⟩
  have I : Inv (ncx CX P w K mg base N F f A outer s H E) [] (startF N vs [none]) H { s with heap := h1, toks := s.toks + (ps.zip us).length } :=
    inv_startN (F := F) tx.sc hr.hd e0 hl r CA hns hk
  have hN0 : N[0]? = some slf := by
    have q := tx.sc.pre
    have h0 := tx.slf0
    have hp : 0 < ps.length := by
      obtain ⟨z, _⟩ := List.getElem?_eq_some_iff.mp h0
      exact z
    have e1 : (N.take (ps.length + [Str.ofString "__class__"].length))[0]? = N[0]? := List.getElem?_take_of_lt (by omega)
    rw [q, List.getElem?_append_left hp, h0] at e1
    exact e1.symm
  have sv : ∀ {i : Nat} {v : V}, vs[i]? = some v → (startF N vs [none])[i]? = some (some v) := fun {i v} h => by
    have hi := (List.getElem?_eq_some_iff.mp h).1
    unfold startF
    rw [List.getElem?_append_left (by rw [List.length_map]; exact hi), List.getElem?_map, h]
    rfl
  show PySem.wpAt (model P w) (ncx CX P w K mg base N F f A outer s H E).A (.func body (ncx CX P w K mg base N F f A outer s H E).env) (execs body (ncx CX P w K mg base N F f A outer s H E).env) _ _ _
  generalize hX : ncx CX P w K mg base N F f A outer s H E = X at I
  have eN : X.N = N := by rw [← hX]; rfl
  have eK : X.K = K := by rw [← hX]; rfl
  have eP : X.prog = P := by rw [← hX]; rfl
  have ew : X.w = w := by rw [← hX]; rfl
  have em : X.mg = mg := by rw [← hX]; rfl
  have es : X.env.scope = scope := by rw [← hX]; rfl
  have ef : X.env.func = some f := by rw [← hX]; rfl
  have ec : X.env.code = .ref cda := by rw [← hX]; rfl
  have ecl : X.env.cells.lookup ("__class__" : Str) = some cc := by rw [← hX]; rfl
  have fin : ∀ {σ' : L2.St} {H' : Hp} {s' : Shared}, Inv X [] σ' H' s' → Q .non H' → CE outer P w H s Q .none s' := fun {σ' H' s'} J q => by
    subst hX
    exact ⟨.non, H', J.os, J.bare, J.base, J.hok, rfl, q⟩
  subst eb
  have S' : SupOk X.prog X.K X.mg f cc cda D X.env.scope slf := by rw [eP, eK, em, es]; exact S
  have T' : OexC X.K C := by rw [eK]; exact T
  refine ks_wpAt_execs_cons ?_
  rw [← eP, ← ew]
  refine sup_exc S' T' I ef ec ecl (by rw [eN]; exact hN0) (sv hv0) ea (by rw [eK]; exact hsub) (by rw [eK]; exact hs) (by rw [eK]; exact hB) hline fun s' J => ?_
  refine wpAt_of_wpAny ?_
  have body := ex_body (X := X) (by rw [eN]; exact hN0) T' (by rw [eN, es]; exact hfl) (by rw [eK]; exact hno)
  refine wpAny_mono (body.run [] s' (startF N vs [none]) H { nx := fun _ H' => Q .non H', rt := fun _ _ => False } J ⟨a, ys, sv hv0, ea, tx.few, ?_, fun d hd nd y ys' e => hq d hd nd y ys' e⟩) (fun fl s2 hs2 => ?_) fun e s2 z => ?_
  · exact Paired.mapP py fun q y ⟨h1, h2⟩ => ⟨h1, sv h2⟩
  · cases fl with
    | next =>
      obtain ⟨σ', H', J', q⟩ := hs2
      subst hX
      exact fin J' q
    | ret v =>
      obtain ⟨_, _, _, _, _, q⟩ := hs2
      exact q.elim
    | brk => obtain ⟨_, _, _, q⟩ := hs2; exact q.elim
    | cont => obtain ⟨_, _, _, q⟩ := hs2; exact q.elim
  · subst hX
    exact z
/-! ### raise C(e, ..) -/
theorem exEnd_ne {d b : Addr} (h : b ≠ d) : ∀ {fs ys : List (Str × V)} {H : Hp}, exEnd d fs ys H b = H b
  | _, [], _ => rfl
  | fs, (f, y) :: r, H => by
    show exEnd d ((f, y) :: fs) r (upd H d (exd d ((f, y) :: fs))) b = H b
    rw [exEnd_ne h, upd_ne h]
theorem exEnd_at {d : Addr} : ∀ {fs ys : List (Str × V)} {H : Hp}, H d = some (exd d fs) → exEnd d fs ys H d = some (exd d (ys.reverse ++ fs))
  | _, [], _, h => h
  | fs, (f, y) :: r, H, h => by
    show exEnd d ((f, y) :: fs) r (upd H d (exd d ((f, y) :: fs))) d = _
    rw [exEnd_at upd_same, List.reverse_cons, List.append_assoc]
    rfl
theorem exFs_rep {G : Ga} {w : Wd} {a : Addr} {ps : List P} {vs : List V} (r : rep.reps G w.H w.ow ps vs) : ∀ {fls : List (Str × Nat)} {acc fs : List (Str × P)} {av : List (Str × V)}, (∀ q ∈ fls, 1 ≤ q.2) → exFs fls ps acc = some fs → rep.repf G w.H w.ow acc av →
    ∃ ys : List (Str × V), Paired (fun (q : Str × Nat) (y : Str × V) => q.1 = y.1 ∧ (V.ref a :: vs)[q.2]? = some y.2) fls ys ∧ rep.repf G w.H w.ow fs (ys.reverse ++ av)
  | [], acc, fs, av, _, h, ra => by
    cases h
    exact ⟨[], .nil, ra⟩
  | (f, j) :: fls, acc, fs, av, h1, h, ra => by
    have h : (match ps[j - 1]? with | some p => exFs fls ps ((f, p) :: acc) | none => none) = some fs := h
    cases q : ps[j - 1]? with
    | none => rw [q] at h; cases h
    | some p =>
      rw [q] at h
      obtain ⟨v, e1, e2⟩ := reps_get r q
      obtain ⟨ys, p1, p2⟩ := exFs_rep (a := a) (av := (f, v) :: av) r (fun q hq => h1 q (List.mem_cons_of_mem _ hq)) h ⟨v, av, rfl, e2, ra⟩
      have hj := h1 (f, j) List.mem_cons_self
      refine ⟨(f, v) :: ys, .cons ⟨rfl, ?_⟩ p1, ?_⟩
      · show (V.ref a :: vs)[j]? = some v
        cases j with
        | zero => exact absurd (show (1 : Nat) ≤ 0 from hj) (by omega)
        | succ j => simpa using e1
      · rw [List.reverse_cons, List.append_assoc]
        exact p2
theorem fs_rse {G : Ga} {Wx : WX} {O : Or} {c k : Nat} {fI : Addr} {fd : FuncData} {ps : List Str} {fls : List (Str × Nat)} {x : Str} {p pos pos' : Pos} {e : PySem.Expr} {es : List PySem.Expr} {as : Es} (hc : X.calm = true) (tk : Takes X Wx) (T : OexC X.K (G.xa c)) (iC : findIn X.K (.ref (G.xa c)) "__init__" = some (some (.ref fI))) (tI : typeIn X.K (.ref fI) = some (.type "function"))
    (F1 : FnOk X.prog X.w X.K X.mg X.base (L2.CX X.prog X.w) k fI fd ps (spEx (G.xa c) fls ps.length)) (hr : Room (k + 1) X.A) (hb : Binds X.K fd ps []) (hl : lenEs as + 1 = ps.length) (hz : lenEs as ≤ 1000) (hfl : ∀ q ∈ fls, 1 ≤ q.2) (hne : fls ≠ []) (hg : Gl X x) (hm : X.mg x = some (.ref (G.xa c)))
    (hdb : (x == ("__debug__" : Str)) = false) (hst : notStars (e :: es) = true) (ha : PA X (e :: es) (tA G Wx (evEs O as))) :
    PS X (.Raise (some (.Call (.Name x p) (e :: es) [] pos)) none pos') (tS G Wx (exS O (.rse c as fls))) := by
  obtain ⟨hs1, hs2⟩ := Bool.and_eq_true_iff.mp (show (notStar e && notStars es) = true from hst)
  have hx : Passes (L2.CX X.prog X.w) X (fun _ _ _ => False) := fun pins σ H s u s' I ⟨_, _, _, _, _, _, _, _, _, _, _, _, z⟩ => z.elim
  refine PS.imp (ps_raise hc tk (pmk_oex (dvs := []) (ds := []) T iC tI F1 hr hb .nil hx hg hm ha hdb (star_cons hs1) (star_none hs2))) fun D σ H ⟨ρ, w, eH, s, he, h⟩ => ?_
  subst eH
  refine ⟨ρ, w, rfl, s, he, ?_⟩
  have h : OkS G Wx (match evEs O as ρ w.S with
    | .ok xs S1 => match pureWs xs with
      | some ps => match exFs fls ps [] with
        | some fs => .ex ⟨c, fs⟩ ρ S1
        | none => .bad
      | none => .bad
    | .ex e S1 => .ex e ρ S1
    | .bad => .bad) w D := h
  show OkL G Wx (evEs O as ρ w.S) w σ _
  cases q : evEs O as ρ w.S with
  | bad => rw [q] at h; exact h.elim
  | ex e S1 =>
    rw [q] at h
    exact fun d w' n rx => h d σ w' n (n.g.env he) rx
  | ok xs S1 =>
    rw [q] at h
    intro vs w1 n1 r1
    have eS := n1.S
    subst eS
    dsimp only at h
    cases q1 : pureWs xs with
    | none => rw [q1] at h; exact h.elim
    | some pps =>
      rw [q1] at h
      dsimp only at h
      cases q2 : exFs fls pps [] with
      | none => rw [q2] at h; exact h.elim
      | some fs =>
        rw [q2] at h
        have lv := repWs_len r1
        have lx := evEs_len q
        have rp := pureWs_rep q1 r1
        refine ⟨by omega, fun a na => ?_⟩
        rw [List.append_nil]
        obtain ⟨ys, p1, p2⟩ := exFs_rep (a := a) (av := []) rp hfl q2 rfl
        refine ⟨a, ys, by rw [List.length_cons]; omega, rfl, upd_same, p1, fun d hd nd y ys' ey => ⟨rfl, d, ys.reverse, ?_, ?_, ?_, ?_⟩⟩
        · rw [exEnd_ne (Ne.symm nd)]; exact upd_same
        · rw [exEnd_at (by rw [upd_ne nd]; exact upd_same), ey, List.reverse_cons]
        · rwa [upd_ne nd] at hd
        · have hd1 : w1.H d = none := by rwa [upd_ne nd] at hd
          have eF : upd (del (exEnd d [y] ys' (upd (upd (upd w1.H a (exo a (G.xa c) none)) d (exd d [y])) a (exo a (G.xa c) (some d)))) a) d (.xd ys.reverse) = upd w1.H d (.xd ys.reverse) := by
            funext b
            by_cases hb : b = d
            · rw [hb, upd_same, upd_same]
            · rw [upd_ne hb, upd_ne hb]
              by_cases ha2 : b = a
              · rw [ha2, del_same]; exact na.symm
              · rw [del_ne ha2, exEnd_ne hb, upd_ne ha2, upd_ne hb, upd_ne ha2]
          rw [eF]
          have n2 : Nx G w1 { w1 with H := upd w1.H d (.xd ys.reverse) } w1.S := ⟨rfl, n1.r.alloc hd1, Gro.alloc hd1⟩
          rw [List.append_nil] at p2
          exact h d σ { w1 with H := upd w1.H d (.xd ys.reverse) } (n1.trans n2) ((n1.trans n2).g.env he) ⟨ys.reverse, upd_same, rep_stay.gof n2.g.stay _ _ p2⟩
end
end FD

set_option Elab.async false
set_option linter.all false
set_option autoImplicit false
set_option maxRecDepth 100000
set_option maxHeartbeats 2000000
/-! FDv: try with several clauses, some of which name the error. -/
namespace FD
open PySem PySem.Spec PyProof.Rows L2
abbrev Suit := Addr → Value → Option Addr → TS
abbrev Cla := Value × Option Nat × Suit
/-- behind a suite the error's name is gone -/
def goneD (D : Ends) : Option Nat → Ends
  | none => D
  | some i => { nx := fun σ H => D.nx (σ.set i none) H, rt := D.rt, bk := fun σ H => D.bk (σ.set i none) H, ct := fun σ H => D.ct (σ.set i none) H }
def namedS (σ : L2.St) (c : Addr) : Option Nat → L2.St
  | none => σ
  | some i => σ.set i (some (.ref c))
def wCla (K : PySem.W.Frag) (n : Nat) (Wo : WX) (D : Ends) : List Cla → WX
  | [] => Wo
  | (c, oi, ts) :: r => fun cls d σ H => ∃ b, PySem.W.exmOne K cls c = some b ∧ (b = true → ∀ x, H x = none → σ.length = n → ts x cls d (goneD D oi) (namedS σ x oi) H) ∧ (b = false → wCla K n Wo D r cls d σ H)
/-- a suite's reading -/
def SuitOk (X : Cx) (suite : List Stmt) (ts : Suit) : Prop :=
  ∀ (x : Addr) (o : Obj) (cls : Value) (d : Option Addr) (pn : List (Addr × Obj)), Zc cls d o → (∃ vs, o.data = .fields vs) → PSs (X.suite x ((x, o) :: pn)) suite (ts x cls d)
inductive ClasOk (X : Cx) : List ExceptHandler → List Cla → Prop
  | nil : ClasOk X [] []
  | bare {y : Str} {c : Value} {ts : Suit} {b₀ : Stmt} {suite : List Stmt} {p1 p2 : Pos} {hds : List ExceptHandler} {l : List Cla} (hc : Names X y c) (hs : SuitOk X (b₀ :: suite) ts) (r : ClasOk X hds l) :
      ClasOk X (.ExceptHandler (some (.Name y p1)) none (b₀ :: suite) p2 :: hds) ((c, none, ts) :: l)
  | named {y n : Str} {i : Nat} {c : Value} {ts : Suit} {b₀ : Stmt} {suite : List Stmt} {p1 p2 : Pos} {hds : List ExceptHandler} {l : List Cla} (hN : X.N.Nodup) (hi : X.N[i]? = some n) (hl : X.env.kindOf n = some .local) (hc : Names X y c) (hs : SuitOk X (b₀ :: suite) ts) (r : ClasOk X hds l) :
      ClasOk X (.ExceptHandler (some (.Name y p1)) (some n) (b₀ :: suite) p2 :: hds) ((c, some i, ts) :: l)
section
variable {X : Cx} {body : List Stmt} {h₀ : ExceptHandler} {hds : List ExceptHandler} {l : List Cla} {pos : Pos} {tb : WX → TS} {Wo : WX}
theorem ps_try_mix (hs : X.stack = X.env :: X.outer) (hf : X.env.frame = some X.env.locals) (tk : Takes X Wo)
    (hb : ∀ (W' : WX) (pn : List (Addr × Obj)) (xe : Value → Shared → Prop), Takes (X.tr pn xe) W' → PSs (X.tr pn xe) body (tb W'))
    (hh : ClasOk X (h₀ :: hds) l) : PS X (.Try body (h₀ :: hds) [] [] pos) (fun D σ H => tb (wCla X.K X.N.length Wo D l) D σ H) := by
  refine ⟨fun pins s σ H D I h => wpAny_Try_except ?_⟩
  have xok := I.ok
  have hfr : X.A.frames = some (X.env :: X.outer) := xok.frames.trans (congrArg some hs)
  let after : Value → Shared → Prop := fun e s₁ => wpAny (model X.prog X.w) X.A (noteFrame e X.env) (fun _ s₂ => wpAny (model X.prog X.w) X.A (setFlight e none) (fun _ s₃ => wpAny (model X.prog X.w) X.A (handleBy e X.env (h₀ :: hds)) (SP X pins D) X.xe s₃) X.xe s₂) X.xe s₁
  have caught : Takes (X.tr (X.pn ++ pins) after) (wCla X.K X.N.length Wo D l) := by
    rintro u s' ⟨x, B, sI, pins', σ', H', cls, d, rfl, J', nb, up, sky, nx, os, ag, want⟩
    have J : Inv X pins σ' H' sI := J'.ofTry xok
    rw [hs] at sky
    show wpAny (model X.prog X.w) X.A (noteFrame (.ref x) X.env) _ _ _
    refine Sky.land Zc.steady hfr hf sky fun h3 fl3 up3 => ?_
    have up03 := up.trans up3
    have J3 : Inv X pins σ' H' { s' with heap := h3 } := J.landed nb fl3.1 up03 os ag
    obtain ⟨o3, vs3, he3, hz3, hd3⟩ := fl3.there
    have off : x ∉ frs (X.env :: X.outer) := fun hm => by
      obtain ⟨_, o', e', hnf⟩ := fl3.2.2.1.mem hm
      rw [he3] at e'
      cases e'
      exact hnf _ hd3
    have offL : x ≠ X.env.locals := fun z => off (List.mem_filterMap.mpr ⟨X.env, List.mem_cons_self, by rw [hf, z]⟩)
    have offF : x ∉ X.fs := fun hm => by
      obtain ⟨e, he, q⟩ := List.mem_filterMap.mp hm
      exact off (List.mem_filterMap.mpr ⟨e, List.mem_cons_of_mem _ he, q⟩)
    have S3 := J3.suite he3 hd3 nx offL offF
    have named : ∀ {y : Str} {c : Value} {p1 : Pos} {Q E : Value → Shared → Prop}, Names X y c → Q c { s' with heap := h3 } → wpAny (model X.prog X.w) (X.A.mark (some (.ref x))) (eval (.Name y p1) X.env) Q E { s' with heap := h3 } := by
      rintro y c p1 Q E ⟨hg, hdbg, hm | ⟨hm, hv, hnn⟩⟩ q
      · exact ld_glob (X := X.suite x ((x, o3) :: (X.pn ++ pins))) S3 hg hm q hdbg
      · exact ld_blt (X := X.suite x ((x, o3) :: (X.pn ++ pins))) S3 hg hm hv q hnn hdbg
    have look : PySem.W.Looks (model X.prog X.w) h3 (typeOf (.ref x)) cls := fun A Q E s k q => wpAny_typeOf_ref (k _ _ he3) (by rw [hz3.1]; exact q)
    -- no clause took it
    have out : Wo cls d σ' H' → wpAny (model X.prog X.w) X.A (handleBy (.ref x) X.env []) (SP X pins D) X.xe { s' with heap := h3 } := fun w => by
      refine wpAny_handleBy_nil ?_
      obtain ⟨_, _, _, oe, vs, T, _, _, he, _, hd, h1, _⟩ := id fl3
      unfold PySem.passOn
      refine wpAny_bind (wpAny_field he hd h1 ?_)
      rw [if_neg (by simp)]
      have fin : wpAny (model X.prog X.w) X.A (setFlight (.ref x) X.env.frame) (fun _ s4 => wpAny (model X.prog X.w) X.A (throw (.ref x) : Sem Flow) (SP X pins D) X.xe s4) X.xe { s' with heap := h3 } := by
        rw [hf]
        refine HandSPX.setFlight_upZ fl3 fun h4 hh4 up4 => wpAny_throw (tk _ _ ⟨x, B, sI, pins, σ', H', cls, d, rfl, J, nb, up03.trans up4, .inr (.inr (by rw [hs]; exact hh4)), nx, os, ag, w⟩)
      first
        | exact wpAny_bind (wpAny_pure (wpAny_bind fin))
        | exact wpAny_bind fin
    suffices go : ∀ {hs' : List ExceptHandler} {l' : List Cla}, ClasOk X hs' l' → wCla X.K X.N.length Wo D l' cls d σ' H' → wpAny (model X.prog X.w) X.A (handleBy (.ref x) X.env hs') (SP X pins D) X.xe { s' with heap := h3 } from go hh want
    intro hs' l' hk
    induction hk with
    | nil => exact out
    | @bare y c ts b₀ suite p1 p2 hs2 l2 hc hsu r ih =>
      rintro ⟨b, hb1, hyes, hno⟩
      refine wpAny_handleBy_cons (codeAny_handlers_test (named hc ((PySem.W.exm_one (M := model X.prog X.w) J3.kIn look hb1).here ?_))) (by intro q; cases q)
      cases b with
      | false => exact ih (hno rfl)
      | true =>
        refine codeAny_handlers_suite (HandSPX.lands_againZ fl3 fun h4 fl4 up4 => ?_)
        have J4 : Inv X pins σ' H' { s' with heap := h4 } := J.landed nb fl4.1 (up03.trans up4) os ag
        obtain ⟨o4, vs4, he4, hz4, hd4⟩ := fl4.there
        refine wpAny_mono ((hsu x o4 cls d (X.pn ++ pins) hz4 ⟨_, hd4⟩).run [] _ _ H' _ (J4.suite he4 hd4 nx offL offF) (hyes rfl x nx J.len)) (fun f s6 hp => ?_) (fun _ _ z => False.elim z)
        cases f with
        | next => obtain ⟨σ6, H6, S6, q6⟩ := hp; exact ⟨_, _, S6.unsuite xok, q6⟩
        | brk => obtain ⟨σ6, H6, S6, q6⟩ := hp; exact ⟨_, _, S6.unsuite xok, q6⟩
        | cont => obtain ⟨σ6, H6, S6, q6⟩ := hp; exact ⟨_, _, S6.unsuite xok, q6⟩
        | ret u => obtain ⟨v6, σ6, H6, S6, r6, q6⟩ := hp; exact ⟨_, _, _, S6.unsuite xok, r6, q6⟩
    | @named y n i c ts b₀ suite p1 p2 hs2 l2 hN hi hl hc hsu r ih =>
      rintro ⟨b, hb1, hyes, hno⟩
      refine wpAny_handleBy_cons (codeAny_handlers_test (named hc ((PySem.W.exm_one (M := model X.prog X.w) J3.kIn look hb1).here ?_))) (by intro q; cases q)
      cases b with
      | false => exact ih (hno rfl)
      | true =>
        refine codeAny_handlers_suite_as (HandSPX.lands_againZ fl3 fun h4 fl4 up4 => ?_)
        have J4 : Inv X pins σ' H' { s' with heap := h4 } := J.landed nb fl4.1 (up03.trans up4) os ag
        obtain ⟨o4, vs4, he4, hz4, hd4⟩ := fl4.there
        refine store_ok (X := X.suite x ((x, o4) :: (X.pn ++ pins))) (v := .ref x) (J4.suite he4 hd4 nx offL offF) hN hi (.inl hl) rfl (fun s5 S5 => ?_) (.inr hl)
        refine wpAny_mono ((hsu x o4 cls d (X.pn ++ pins) hz4 ⟨_, hd4⟩).run [] s5 _ H' _ S5 (hyes rfl x nx J.len)) (fun f s6 hp => ?_) (fun _ _ z => False.elim z)
        have gone : ∀ {σ6 : L2.St} {H6 : Hp} {Q : Shared → Prop}, Inv (X.suite x ((x, o4) :: (X.pn ++ pins))) [] σ6 H6 s6 → (∀ s7, Inv X pins (σ6.set i none) H6 s7 → Q s7) →
            wpAny (model X.prog X.w) X.A (do bindName X.env n .none; unbindBehindTheSuite X.env n p2) (fun _ s7 => Q s7) X.xe s6 := fun S6 hq => gone_ok (S6.unsuite xok) hN hi hl hq
        cases f with
        | next => obtain ⟨σ6, H6, S6, q6⟩ := hp; exact gone S6 fun s7 J7 => ⟨_, _, J7, q6⟩
        | brk => obtain ⟨σ6, H6, S6, q6⟩ := hp; exact gone S6 fun s7 J7 => ⟨_, _, J7, q6⟩
        | cont => obtain ⟨σ6, H6, S6, q6⟩ := hp; exact gone S6 fun s7 J7 => ⟨_, _, J7, q6⟩
        | ret u => obtain ⟨v6, σ6, H6, S6, r6, q6⟩ := hp; exact gone S6 fun s7 J7 => ⟨_, _, _, J7, r6, q6⟩
  refine wpAny_mono ((hb (wCla X.K X.N.length Wo D l) (X.pn ++ pins) after caught).run [] s σ H D (I.toTry _) h) (fun f s1 hp => ?_) (fun e s1 he => he)
  cases f with
  | next => obtain ⟨σ', H', J', q⟩ := hp; exact wpAny_execs_nil ⟨σ', H', J'.ofTry xok, q⟩
  | brk => obtain ⟨σ', H', J', q⟩ := hp; exact ⟨σ', H', J'.ofTry xok, q⟩
  | cont => obtain ⟨σ', H', J', q⟩ := hp; exact ⟨σ', H', J'.ofTry xok, q⟩
  | ret u => obtain ⟨v, σ', H', J', r, q⟩ := hp; exact ⟨v, σ', H', J'.ofTry xok, r, q⟩
end
end FD

set_option Elab.async false
set_option linter.all false
set_option autoImplicit false
set_option maxRecDepth 100000
set_option maxHeartbeats 2000000
/-! FDw: a lambda is made; the def that calls it. -/
namespace FD
open PySem PySem.Spec PyProof.Rows L2 LamX
section
variable {G : Ga} {w : Wd}
theorem tabAt_some {S : Store} {k : Nat} {p : Addr} {q : Str} (h : tabAt S k p q = true) : S[k]? = some (.tab p q) := by
  unfold tabAt at h
  split at h
  · rename_i p' q' e
    rw [Bool.and_eq_true] at h
    rw [e, eq_of_beq h.1, eq_of_beq h.2]
  · cases h
theorem set_id {α : Type} {l : List α} {k : Nat} {x : α} (h : l[k]? = some x) : l.set k x = l := by
  obtain ⟨h1, h2⟩ := List.getElem?_eq_some_iff.mp h
  rw [← h2, List.set_getElem_self]
theorem upd_swap {H : Hp} {a b : Addr} {x y : HO} (n : a ≠ b) : upd (upd H a x) b y = upd (upd H b y) a x := by
  funext c
  by_cases h1 : c = b
  · rw [h1, upd_same, upd_ne (Ne.symm n), upd_same]
  · rw [upd_ne h1]
    by_cases h2 : c = a
    · rw [h2, upd_same, upd_same]
    · rw [upd_ne h2, upd_ne h2, upd_ne h1]
/-- the world once the table has one row more -/
theorem tab_more (s : SR G w) {k : Nat} {P c : Addr} {q : Str} {ps : Array Value} {pos : Pos} (hk : w.S[k]? = some (.tab P q)) (hP : w.io[k]? = some P) (e : w.H P = some (.tbl ps)) (ht : TriplesOk ps.toList) (hc : w.H c = none) :
    ∃ w', w'.H = upd (upd w.H P (.tbl (ps ++ #[rawInt pos.line, rawInt pos.col, .ref c]))) c (CodeO c q) ∧ Nx G w w' w.S := by
  have ne : P ≠ c := ne_of_none e hc
  have n1 : Nx G w { w with H := upd w.H c (CodeO c q) } w.S := ⟨rfl, s.alloc hc, Gro.alloc hc⟩
  have al : alive w.S k := ⟨_, hk, fun z => by cases z⟩
  have own : w.own P := ⟨k, hP, al⟩
  refine ⟨Wd.put { w with H := upd w.H c (CodeO c q) } k P (.tbl (ps ++ #[rawInt pos.line, rawInt pos.col, .ref c])) (.tab P q), upd_swap (Ne.symm ne), set_id hk, n1.r.put hP al ?_, n1.g.trans (Gro.put n1.r hP al)⟩
  obtain ⟨_, ps', t1, t2, t3⟩ := s.cell k P _ hP hk
  rw [e] at t1
  cases t1
  have eL : (ps ++ #[rawInt pos.line, rawInt pos.col, .ref c]).toList = ps.toList ++ [rawInt pos.line, rawInt pos.col, .ref c] := by simp
  refine ⟨rfl, _, upd_same, by rw [eL]; exact PySem.TriplesOk_snoc _ _ _ _ ht, fun p' cv hcv => ?_⟩
  have at2 : ∀ b, b ≠ P → (Wd.put { w with H := upd w.H c (CodeO c q) } k P (.tbl (ps ++ #[rawInt pos.line, rawInt pos.col, .ref c])) (.tab P q)).H b = upd w.H c (CodeO c q) b := fun b hb => upd_ne hb
  rw [eL] at hcv
  rcases among_app _ ht hcv with z | z
  · obtain ⟨d, e1, e2⟩ := t3 p' cv z
    refine ⟨d, e1, ?_⟩
    rw [at2 d fun y => s.no_ext e2 (by rw [y]; exact own), upd_ne (ne_of_none e2 hc)]
    exact e2
  · exact ⟨c, z, by rw [at2 c (Ne.symm ne)]; exact upd_same⟩
end
section
variable {G : Ga} {X : Cx} {pins : List (Addr × Obj)} {σ : L2.St} {s : Shared}
/-- the lambda is made -/
theorem lam_new {w : Wd} {k : Nat} {c P : Addr} {params : Arguments} {body : PySem.Expr} {scope : Scope} {pos : Pos} {E Q : Value → Shared → Prop} (I : Inv X pins σ w.H s) (sr : SR G w) (hk : tabAt w.S k P (X.env.qual ++ "<lambda>") = true) (TB : TabB X.base X.mg c P) (hcode : X.env.code = .ref c)
    (hdef : defaultsOf params X.env = ([], [])) (hfree : ∀ y ∈ scope.names, y.2 = .free → ∃ c, X.env.cells.lookup y.1 = some c)
    (h : ∀ (f c' : Addr) (pm ctv : Value) (w' : Wd) (s' : Shared), Inv X pins σ w'.H s' → Nx G w w' w.S → s'.heap.get? f = some (PySem.W.kla_obj "<lambda>" (X.env.qual ++ "<lambda>") params body scope (cloFrom X.env.cells scope.names []) pm c' ctv) →
      w'.H f = none → f ∉ frs X.stack → w'.H c' = some (CodeO c' (X.env.qual ++ "<lambda>")) → Q (.ref f) s') :
    wpAny (model X.prog X.w) X.A (eval (.Lambda params body scope pos) X.env) Q E s := by
  have hS := tabAt_some hk
  have hio : w.io[k]? = some P := by
    have hl : k < w.io.length := by rw [sr.len]; exact (List.getElem?_eq_some_iff.mp hS).1
    have z : w.io[k]? = some w.io[k] := List.getElem?_eq_some_iff.mpr ⟨hl, rfl⟩
    rw [z, (sr.cell k _ _ z hS).1]
  obtain ⟨_, ps, hP, ht, ha⟩ := sr.cell k P _ hio hS
  have hP' : s.heap.get? P = some { cls := .none, data := .fields ps } := I.hok P _ hP
  have low : ∀ f, s.heap.objs.size ≤ f → f ∉ frs X.stack := fun f hf z => by
    rcases List.mem_cons.mp (I.stkSub _ z) with e | e
    · exact Nat.lt_irrefl _ (Nat.lt_of_lt_of_le I.lt (e ▸ hf))
    · exact I.nofs hf e
  refine PySem.W.kla_eval hdef ?_
  cases hc : codeAmong pos ps.toList with
  | some cv =>
    obtain ⟨c', rfl, hco⟩ := ha pos cv hc
    refine PySem.W.kla_makeFunctionHit (closure_ok hfree) I.ok.glob (I.mod.glob.keeps I.bk) hcode (TB.code.keeps I.bk) hP' ht hc (TB.bm.keeps I.bk) fun ctv h' tk hx hsz => ?_
    exact h _ c' ((X.mg "__name__").getD .none) ctv w _ (I.kept fun b o e => Heap.get?_push_of_some _ (hx b o e)) (Nx.refl sr) (Heap.get?_push_size _ rfl) (I.hok.fresh hsz) (low _ hsz) hco
  | none =>
    refine PySem.W.kla_makeFunction (closure_ok hfree) I.ok.glob (I.mod.glob.keeps I.bk) hcode (TB.code.keeps I.bk) hP' ht hc TB.gP (TB.bm.keeps I.bk) fun c' ctv h' tk hx hge hlt ⟨_, oc, vs, t, e2, hoc, hd, hv⟩ htb => ?_
    cases e2
    have big : s.heap.objs.size ≤ h'.objs.size := Nat.le_trans hge (Nat.le_of_lt hlt)
    have nC : w.H c' = none := I.hok.fresh hge
    obtain ⟨w', eH, n⟩ := tab_more (pos := pos) sr hS hio hP ht nC
    have J := inv_table (t' := tk) (more := #[rawInt pos.line, rawInt pos.col, .ref c']) (q := X.env.qual ++ "<lambda>") (h' := h'.push (PySem.W.kla_obj "<lambda>" (X.env.qual ++ "<lambda>") params body scope (cloFrom X.env.cells scope.names []) ((X.mg "__name__").getD .none) c' ctv)) I hP
      (fun b o hb e => Heap.get?_push_of_some _ (hx b o hb e)) (Heap.get?_push_of_some _ htb) hge ⟨oc, vs, t, Heap.get?_push_of_some _ hoc, hd, hv⟩
    rw [← eH] at J
    refine h _ c' ((X.mg "__name__").getD .none) ctv w' _ J n (Heap.get?_push_size _ rfl) ?_ (low _ big) (by rw [eH]; exact upd_same)
    rw [eH, upd_ne (Nat.ne_of_gt hlt), upd_ne (Nat.ne_of_gt (Nat.lt_of_lt_of_le (Heap.lt_size hP') big))]
    exact I.hok.fresh big
end
end FD

set_option Elab.async false
set_option linter.all false
set_option autoImplicit false
set_option maxRecDepth 100000
set_option maxHeartbeats 2000000
/-! FDx: a def that calls a lambda and tells what it raised. -/
namespace FD
open PySem PySem.Spec PyProof.Rows L2 LamX
section
variable {X : Cx} {pins : List (Addr × Obj)} {σ : L2.St} {H : Hp} {s : Shared}
/-- the lambda is called; Z: the def's context, entered at s -/
theorem act_ok {CXg : CXT} {Eg : XK} {Ng : List Str} {qg : Str} {sg : Scope} {g f c' : Addr} {cdg pm ctv : Value} {params : Arguments} {body : PySem.Expr} {scope : Scope} {k i : Nat} {a : Str} {pn : List (Addr × Obj)} {xe : Value → Shared → Prop} {W' : WX} {E : XK} {tb : TE} {p1 p2 : Pos}
    (I : Inv X pins σ H s) (L : LamS X.env.scope scope) (hf : s.heap.get? f = some (PySem.W.kla_obj "<lambda>" (X.env.qual ++ "<lambda>") params body scope (cloFrom X.env.cells scope.names []) pm c' ctv)) (hfn : H f = none) (hfr : f ∉ frs X.stack)
    (hbind : bindArgs (PySem.W.kla_fn "<lambda>" (X.env.qual ++ "<lambda>") params body scope (cloFrom X.env.cells scope.names []) pm (.ref c') ctv) ⟨[], []⟩ = pure [])
    (tk : Takes ((cxOf CXg X.prog X.w X.K X.mg X.base Ng qg sg g cdg X.A X.stack s H Eg).tr pn xe) W') (hW : ∀ cls d σ' H', E cls d H' → W' cls d σ' H') (hr : Room (k + 1) (X.A.deeper (envOfC qg sg s.heap.objs.size g cdg)))
    (hbody : ∀ (outer : List PySem.Env) (s₁ : Shared) (H₁ : Hp), Room k ((X.A.deeper (envOfC qg sg s.heap.objs.size g cdg)).deeper (lamEnv X scope s₁.heap.objs.size f c')) → PE (lamCx X (X.A.deeper (envOfC qg sg s.heap.objs.size g cdg)) outer s₁ H₁ E scope f c') body tb)
    (hN : Ng[i]? = some a) (hv : Vis sg a) (hd : (a == ("__debug__" : Str)) = false) (hcd : (a == ("__classdict__" : Str)) = false) :
    PE ((cxOf CXg X.prog X.w X.K X.mg X.base Ng qg sg g cdg X.A X.stack s H Eg).tr pn xe) (.Call (.Name a p1) [] [] p2)
      (fun σZ HZ Q => σZ[i]? = some (some (.ref f)) ∧ HZ c' = some (CodeO c' (X.env.qual ++ "<lambda>")) ∧ tb σ HZ Q) := by
  refine ⟨fun pinsZ sZ σZ HZ Q IZ ⟨hs, hc, ht⟩ => ?_⟩
  refine wpAny_Call_Name_kw (thn ((pe_var (pos := p1) (i := i) hN hv hd hcd).run pinsZ sZ σZ HZ (fun v H1 => v = .ref f ∧ H1 = HZ) IZ ⟨_, hs, rfl, rfl⟩) ?_)
  rintro u s1 ⟨v, H1, I1, r1, rfl, rfl⟩
  cases (show u = Value.ref f from r1)
  have of1 := I1.base.keep f _ hf hfn hfr fun z => nomatch (show f ∈ ([] : List Addr) from z)
  have un : Un (frs X.stack) [] H H1 s.heap s1.heap := I1.base
  obtain ⟨⟨oc, vs, t, hoc, hdc, hvc⟩, _, _⟩ := I1.hok c' _ hc
  refine PySem.W.callWith_F0 ⟨_, _, _, _, of1⟩ (wpAny_call (codeAny_mono (R := CR (L2.CX X.prog X.w) (envOfC qg sg s.heap.objs.size g cdg :: X.stack) X.prog X.w H1 s1 Q E) ?_ fun r s' hq => ?_))
  · refine PySem.W.kla_callFunE hr.depth of1 rfl L.co L.gen rfl ⟨c', oc, vs, t, rfl, hoc, hdc, hvc⟩ ?_
    show wpAny _ _ (bindArgs _ ⟨[], []⟩) _ _ _
    rw [hbind]
    refine wpAny_pure (wpAny_newFunctionEnv (fun y hy => (L.own y hy).2) (fun y hy => nomatch hy) (fun h₁ hns hsb => ⟨I1.nolimit.fresh _ hsb, ?_⟩) L.kind)
    have J := lam_start2 (tk := s1.toks + 0) (E := E) (f := f) (c' := c') I L I1.env0 hr.hd un hns fun b o e => hsb.extBut b o (Nat.ne_of_lt (Heap.lt_size e)) (Heap.get?_push_of_some _ e)
    refine PySem.W.kla_codeExpr (wpAny_mono ((hbody (envOfC qg sg s.heap.objs.size g cdg :: X.stack) s1 H1 (hr.deeper _)).run [] _ _ H1 Q J ht) ?_ fun e s' hq => hq)
    rintro v s' ⟨w', H', J', rv, q⟩
    exact ⟨w', H', J'.os, J'.bare, J'.base, J'.hok, rv, q⟩
  · cases r with
    | error e => exact (passes_call tk hW : Passes (L2.CX X.prog X.w) ((cxOf CXg X.prog X.w X.K X.mg X.base Ng qg sg g cdg X.A X.stack s H Eg).tr pn xe) E) pinsZ σZ H1 s1 e s' I1 hq
    | ok fl =>
      cases fl with
      | ret u => exact I1.after hq
      | next => exact hq.elim
      | brk => exact hq.elim
      | cont => exact hq.elim
end

/-! ### what a suite tells -/
section
variable {G : Ga}
theorem repX_nx {w w' : Wd} {S : Store} {e : Exn} {d : Addr} (s : SR G w) (n : Nx G w w' S) (h : repX G w e d) : repX G w' e d := by
  obtain ⟨vs, h1, h2⟩ := h
  refine ⟨vs, n.g.keep d _ h1 fun ⟨k, z1, c, z2, z3⟩ => ?_, rep_stay.gof n.g.stay _ _ h2⟩
  have q := s.cell k d c z1 z2
  cases c with
  | lst xs => obtain ⟨vs, e, _⟩ := q; rw [h1] at e; cases e
  | dct xs => obtain ⟨vs, e, _⟩ := q; rw [h1] at e; cases e
  | ins c xs => obtain ⟨dx, vs, e, _⟩ := q; rw [h1] at e; cases e
  | tab p q' => obtain ⟨_, ps, e, _⟩ := q; rw [h1] at e; cases e
  | dead => exact z3 rfl
variable (G) in
/-- the error e stands at x, in the slot oi -/
def XW (x : Addr) (oi : Option Nat) (cls : Value) (d : Option Addr) (σ : L2.St) (w : Wd) (e : Exn) : Prop :=
  SR G w ∧ (∀ i, oi = some i → σ[i]? = some (some (.ref x))) ∧ cls = .ref (G.xa e.c) ∧ ∃ dd, d = some dd ∧ repX G w e dd
theorem XW.on {x : Addr} {oi : Option Nat} {cls : Value} {d : Option Addr} {σ : L2.St} {w w' : Wd} {S : Store} {e : Exn} (h : XW G x oi cls d σ w e) (n : Nx G w w' S) : XW G x oi cls d σ w' e := by
  obtain ⟨h1, h2, h3, dd, h4, h5⟩ := h
  exact ⟨n.r, h2, h3, dd, h4, repX_nx h1 n h5⟩
variable (G) in
def tHI (x : Addr) (oi : Option Nat) (cls : Value) (d : Option Addr) (h : HI) : TE := fun σ H Q => ∃ w e p, w.H = H ∧ XW G x oi cls d σ w e ∧ hiP e.fs h = some p ∧ ∀ v w', Nx G w w' w.S → rep G w'.H w'.ow p v → Q v w'.H
variable (G) in
def tHIs (x : Addr) (oi : Option Nat) (cls : Value) (d : Option Addr) (hs : List HI) : TA := fun σ H Q => ∃ w e ps, w.H = H ∧ XW G x oi cls d σ w e ∧ hiPs e.fs hs = some ps ∧ ∀ vs w', Nx G w w' w.S → rep.reps G w'.H w'.ow ps vs → Q vs w'.H
variable (G) in
def tSuit (oi : Option Nat) (h : HR) : Suit := fun x cls d D σ H => ∃ w e p, w.H = H ∧ XW G x oi cls d σ w e ∧ hrP e.fs h = some p ∧ ∀ v w', Nx G w w' w.S → rep G w'.H w'.ow p v → D.rt v w'.H
variable {Y : Cx} {x : Addr} {oi : Option Nat} {cls : Value} {d : Option Addr}
theorem hi_cst {e : PySem.Expr} {p : P} (h : PE Y e (tC (flatV G p))) : PE Y e (tHI G x oi cls d (.cst p)) := PE.imp h fun σ H Q ⟨w, e, q, eH, xw, hp, k⟩ => by
  subst eH
  have hp : (if flatP p = true then some p else none) = some q := hp
  split at hp
  · rename_i fl
    cases hp
    exact k _ w (Nx.refl xw.1) (rep_flat fl)
  · cases hp
theorem hi_fld {X : Cx} {o : Obj} {pn : List (Addr × Obj)} {i : Nat} {n f : Str} {np pos : Pos} (hX : ∀ c, XfC X.K (G.xa c)) (hno : ∀ c, PySem.W.findIn X.K (.ref (G.xa c)) f = some none) (hz : Zc cls d o) (hf : ∃ vs, o.data = .fields vs)
    (hN : X.N[i]? = some n) (hv : Vis X.env.scope n) (hd : (n == ("__debug__" : Str)) = false) (hcd : (n == ("__classdict__" : Str)) = false) (hb : ∀ env m, attributeBase (.Name n np) f env m = m) :
    PE (X.suite x ((x, o) :: pn)) (.Attribute (.Name n np) f pos) (tHI G x (some i) cls d (.fld f)) := ⟨fun pins s σ H Q I ⟨w, e, p, eH, xw, hp, k⟩ => by
  subst eH
  obtain ⟨sr, h2, h3, dd, h4, vs, h5, h6⟩ := id xw
  obtain ⟨v, e1, e2⟩ := repf_look h6 (show e.fs.lookup f = some p from hp)
  exact (pe_xf (hX e.c) (hno e.c) hz hf (pe_var (X := X.suite x ((x, o) :: pn)) (pos := np) hN hv hd hcd) (hb _ _)).run pins s σ w.H Q I ⟨.ref x, h2 i rfl, rfl, h3, dd, vs, v, h4, h5, e1, k v w (Nx.refl sr) e2⟩⟩
theorem hi_rpr {f : Str} {a : PySem.Expr} {p pos : Pos} (hK : Y.K = G.K) (hg : Y.A.guards = some []) (hu : Y.A.units + 64 < cLine) (hgl : Gl Y "repr") (hm : Y.mg "repr" = none) (hst : notStar a = true) (ha : PE Y a (tHI G x oi cls d (.fld f))) :
    PE Y (.Call (.Name "repr" p) [a] [] pos) (tHI G x oi cls d (.rpr f)) :=
  PE.imp (pe_callB (repr_ok hK hg hu) hgl hm (by rfl) (pa_cons ha pa_nil (star_cons hst)) (by decide) (by decide) (star_cons hst) (by rfl)) fun σ H Q ⟨w, e, q, eH, xw, hp, k⟩ => by
    subst eH
    have hp : (match e.fs.lookup f with | some p => priP .repr [p] | none => none) = some q := hp
    cases hl : e.fs.lookup f with
    | none => rw [hl] at hp; cases hp
    | some y =>
      rw [hl] at hp
      refine ⟨w, e, y, rfl, xw, hl, fun v w' n r => ?_⟩
      have eS := n.S
      exact g_repr w' [y] [v] q Q n.r ⟨v, [], rfl, rep1_of r, rfl⟩ hp fun t w2 n2 r2 => k t w2 ⟨by rw [n2.S, eS], n2.r, n.g.trans n2.g⟩ r2
theorem his_nil : PA Y [] (tHIs G x oi cls d []) := PA.imp pa_nil fun σ H Q ⟨w, e, ps, eH, xw, hp, k⟩ => by
  subst eH
  have hp : some [] = some ps := hp
  cases hp
  exact k [] w (Nx.refl xw.1) rfl
theorem his_cons {h : HI} {hs : List HI} {e : PySem.Expr} {es : List PySem.Expr} (hst : notStar e = true) (h1 : PE Y e (tHI G x oi cls d h)) (h2 : PA Y es (tHIs G x oi cls d hs)) : PA Y (e :: es) (tHIs G x oi cls d (h :: hs)) :=
  PA.imp (pa_cons h1 h2 (star_cons hst)) fun σ H Q ⟨w, e, ps, eH, xw, hp, k⟩ => by
    subst eH
    have hp : (match hiP e.fs h, hiPs e.fs hs with | some p, some ps => some (p :: ps) | _, _ => none) = some ps := hp
    cases q1 : hiP e.fs h with
    | none => rw [q1] at hp; cases hp
    | some p =>
      cases q2 : hiPs e.fs hs with
      | none => rw [q1, q2] at hp; cases hp
      | some qs =>
        rw [q1, q2] at hp
        cases hp
        refine ⟨w, e, p, rfl, xw, q1, fun v w1 n1 r1 => ⟨w1, e, qs, rfl, xw.on n1, q2, fun vs w2 n2 r2 => ?_⟩⟩
        exact k (v :: vs) w2 ⟨by rw [n2.S, n1.S], n2.r, n1.g.trans n2.g⟩ ⟨v, vs, rfl, n2.g.rep r1, r2⟩
theorem hiPs_len {fs : List (Str × P)} : ∀ {hs : List HI} {ps : List P}, hiPs fs hs = some ps → ps.length = hs.length
  | [], ps, h => by cases h; rfl
  | h :: hs, ps, e => by
    have e : (match hiP fs h, hiPs fs hs with | some p, some ps => some (p :: ps) | _, _ => none) = some ps := e
    cases q1 : hiP fs h with
    | none => rw [q1] at e; cases e
    | some p =>
      cases q2 : hiPs fs hs with
      | none => rw [q1, q2] at e; cases e
      | some qs =>
        rw [q1, q2] at e
        cases e
        rw [List.length_cons, List.length_cons, hiPs_len q2]
/-- return .. -/
theorem suit_one {X : Cx} {h : HI} {e : PySem.Expr} {pos : Pos} (he : ∀ (x : Addr) (o : Obj) (cls : Value) (d : Option Addr) (pn : List (Addr × Obj)), Zc cls d o → (∃ vs, o.data = .fields vs) → PE (X.suite x ((x, o) :: pn)) e (tHI G x oi cls d h)) :
    SuitOk X [.Return (some e) pos] (tSuit G oi (.one h)) := fun x o cls d pn hz hf => PSs.imp (pss_one (ps_ret (he x o cls d pn hz hf))) fun D σ H ⟨w, e, p, eH, xw, hp, k⟩ => ⟨w, e, p, eH, xw, hp, k⟩
theorem suit_tup {X : Cx} {hs : List HI} {es : List PySem.Expr} {k : Nat} {p1 pos : Pos} (he : ∀ (x : Addr) (o : Obj) (cls : Value) (d : Option Addr) (pn : List (Addr × Obj)), Zc cls d o → (∃ vs, o.data = .fields vs) → PA (X.suite x ((x, o) :: pn)) es (tHIs G x oi cls d hs)) :
    SuitOk X [.Return (some (.Tuple es k p1)) pos] (tSuit G oi (.tup hs)) := fun x o cls d pn hz hf => PSs.imp (pss_one (ps_ret (pe_tup (he x o cls d pn hz hf)))) fun D σ H ⟨w, e, p, eH, xw, hp, kk⟩ => by
  subst eH
  have hp : (if hs.length ≤ sizeLine then (hiPs e.fs hs).map P.tup else none) = some p := hp
  split at hp
  · rename_i hl
    cases q : hiPs e.fs hs with
    | none => rw [q] at hp; cases hp
    | some ps =>
      rw [q] at hp
      cases hp
      refine ⟨w, e, ps, rfl, xw, q, fun vs w1 n1 r1 => ⟨by rw [reps_len r1, hiPs_len q]; exact hl, fun t ht => ?_⟩⟩
      have na : Nx G w1 { w1 with H := upd w1.H t (.tup vs) } w1.S := ⟨rfl, n1.r.alloc ht, Gro.alloc ht⟩
      exact kk (.ref t) { w1 with H := upd w1.H t (.tup vs) } ⟨n1.S, na.r, n1.g.trans na.g⟩ ⟨t, vs, rfl, .inl ⟨.inl upd_same, fun z => n1.r.fresh ht z⟩, rep_stay.go na.g.stay _ _ r1⟩
  · cases hp
end
end FD

set_option Elab.async false
set_option linter.all false
set_option autoImplicit false
set_option maxRecDepth 100000
set_option maxHeartbeats 2000000
/-! FDy: x(lambda: ..), x a def that tells what the lambda raised. -/
namespace FD
open PySem PySem.Spec PyProof.Rows L2 LamX
abbrev Hsx := List (Nat × Option Nat × HR)
def stripH (l : Hsx) : List (Nat × HR) := l.map fun t => (t.1, t.2.2)
def clasH (G : Ga) (l : Hsx) : List Cla := l.map fun t => (.ref (G.xa t.1), t.2.1, tSuit G t.2.1 t.2.2)
section
variable {G : Ga}
theorem wcla_of {K : PySem.W.Frag} {sub : Nat → Nat → Bool} {n : Nat} {w : Wd} {e : Exn} {p : P} {dd : Addr} {σ : L2.St} {D : Ends} {Wo : WX} (hE : ∀ c d, PySem.W.exmOne K (.ref (G.xa c)) (.ref (G.xa d)) = some (sub c d)) (sr : SR G w) (rx : repX G w e dd)
    (k : ∀ v w', Nx G w w' w.S → rep G w'.H w'.ow p v → D.rt v w'.H) : ∀ (l : Hsx), (∀ t ∈ l, ∀ i, t.2.1 = some i → i < n) → tellH sub e (stripH l) = some p → wCla K n Wo D (clasH G l) (.ref (G.xa e.c)) (some dd) σ w.H
  | [], _, h => by cases h
  | (c, oi, hr) :: r, hl, h => by
    have h : (if sub e.c c = true then hrP e.fs hr else tellH sub e (stripH r)) = some p := h
    refine ⟨sub e.c c, hE _ _, fun hb x hx hlen => ?_, fun hb => ?_⟩
    · rw [if_pos hb] at h
      refine ⟨w, e, p, rfl, ⟨sr, fun i hi => ?_, rfl, dd, rfl, rx⟩, h, fun v w' n r => ?_⟩
      · subst hi
        show (σ.set i (some (.ref x)))[i]? = _
        rw [List.getElem?_set_self (by rw [hlen]; exact hl _ List.mem_cons_self i rfl)]
      · cases oi <;> exact k v w' n r
    · rw [if_neg (by rw [hb]; exact Bool.false_ne_true)] at h
      exact wcla_of hE sr rx k r (fun t ht => hl t (List.mem_cons_of_mem _ ht)) h
variable {X : Cx} {Wx : WX}
/-- x(lambda: body) -/
theorem fe_lamc {O : Or} {e : E} {hsx : Hsx} {h₀ : ExceptHandler} {hds : List ExceptHandler} {x a : Str} {g c P : Addr} {k kc nj : Nat} {pg : Arguments} {sg : Scope} {dV kV doc pm cdv ct oc : Value} {an od : Option Addr} {osl : Array (Option Value)} {Ng : List Str}
    {params : Arguments} {body : PySem.Expr} {scope : Scope} {p lpos pos p1 p2 p3 p4 p5 np : Pos} (hg : Gl X x) (hm : X.mg x = some (.ref g)) (hk : PySem.W.keepIn X.K (.ref g) = true)
    (lk : X.K.lookup g = some ⟨oc, od, .func (PySem.W.fnOf x x pg (.Try [.Expr (.Call (.Name a p1) [] [] p2) p3] (h₀ :: hds) [] [] p4 :: [.Return (some (.Constant .none nj np)) p5]) sg dV kV doc pm an cdv ct), osl⟩) (hcg : PySem.W.codeIn X.K cdv x = true)
    (hb : L2.Binds X.K (PySem.W.fnOf x x pg (.Try [.Expr (.Call (.Name a p1) [] [] p2) p3] (h₀ :: hds) [] [] p4 :: [.Return (some (.Constant .none nj np)) p5]) sg dV kV doc pm an cdv ct) [a] []) (Sg : FnScope Ng [a] sg) (hNg : Ng[0]? = some a) (hva : Vis sg a)
    (hE : ∀ c d, PySem.W.exmOne X.K (.ref (G.xa c)) (.ref (G.xa d)) = some (O.exSub c d)) (hcl : ∀ (s : Shared) (H : Hp), ClasOk (cxOf C8.CX0 X.prog X.w X.K X.mg X.base Ng x sg g cdv X.A X.stack s H C8.E0).nox (h₀ :: hds) (clasH G hsx)) (hsl : ∀ t ∈ hsx, ∀ i, t.2.1 = some i → i < Ng.length)
    (TB : TabB X.base X.mg c P) (hcode : X.env.code = .ref c) (hr : Room (k + 2) X.A) (hgd : X.A.guards = some []) (L : LamS X.env.scope scope) (hdef : defaultsOf params X.env = ([], []))
    (hbind : ∀ (q : Str) (cl : List (Str × Addr)) (pm cv ctv : Value), bindArgs (PySem.W.kla_fn "<lambda>" q params body scope cl pm cv ctv) ⟨[], []⟩ = pure [])
    (hbody : ∀ (A : Around) (outer : List PySem.Env) (s : Shared) (H : Hp) (Ec : XK) (f c' : Addr), Room k (A.deeper (lamEnv X scope s.heap.objs.size f c')) → A.guards = some [] → PE (lamCx X A outer s H Ec scope f c') body (tE G (fun cls d _ H => Ec cls d H) (evE O e)))
    (hdb : (x == ("__debug__" : Str)) = false) (hd : (a == ("__debug__" : Str)) = false) (hcd : (a == ("__classdict__" : Str)) = false) (hsw : ∀ env : PySem.Env, swapsWith (.Call (.Name a p1) [] [] p2) none p3.line env = pure false) :
    PE X (.Call (.Name x p) [.Lambda params body scope lpos] [] pos) (tE G Wx (evE O (.lamc (stripH hsx) P (X.env.qual ++ "<lambda>") kc e))) := by
  refine ⟨fun pins s σ H Q I ⟨ρ, w, eH, sr, he, h⟩ => ?_⟩
  subst eH
  have h : Ok G Wx (if tabAt w.S kc P (X.env.qual ++ "<lambda>") = true then toldR O.exSub (stripH hsx) (evE O e ρ w.S) else .bad) w σ Q := h
  by_cases ht : tabAt w.S kc P (X.env.qual ++ "<lambda>") = true
  · rw [if_pos ht] at h
    refine wpAny_Call_Name_kw (ld_glob I hg hm ?_ hdb)
    refine PySem.W.callWith_K (h₀ := X.base) I.ok.mod.kin hk ?_ (by rfl) (by rfl)
    show wpAny _ _ (spliced ((false, eval (.Lambda params body scope lpos) X.env) :: backTo pos (starEach [] X.env))) _ _ s
    refine Calls.spliced_cons (lam_new I sr ht TB hcode hdef (L.has I.ok) fun f c' pm' ctv w1 s' I1 n1 hf hfn hfr hco => Calls.spliced_nil ⟨I1.kIn, ?_⟩)
    have h1 : Ok G Wx (toldR O.exSub (stripH hsx) (evE O e ρ w1.S)) w1 σ Q := by rw [n1.S]; exact h.from n1
    have rc : codeAny (model X.prog X.w) X.A (.call (.ref g) ⟨[.ref f], []⟩) (CR C8.CX0 X.stack X.prog X.w w1.H s' Q C8.E0) s' := by
      refine run_ofS (N := Ng) (ps := [a]) (us := [.ref f]) (vs := [.ref f]) lk hcg Sg hr I1.env0 (hb s' [.ref f] I1.kIn rfl) (.cons rfl .nil) rfl fun hr' => ?_
      let Z := (cxOf C8.CX0 X.prog X.w X.K X.mg X.base Ng x sg g cdv X.A X.stack s' w1.H C8.E0).nox
      let tb : WX → TS := fun W' D σZ HZ => ∃ Ec : XK, (∀ cls d σ' H', Ec cls d H' → W' cls d σ' H') ∧ σZ[0]? = some (some (.ref f)) ∧ HZ c' = some (CodeO c' (X.env.qual ++ "<lambda>")) ∧ tE G (fun cls d _ H => Ec cls d H) (evE O e) σ HZ fun _ H1 => D.nx σZ H1
      have hask : ∀ (W' : WX) (pn : List (Addr × Obj)) (xe : Value → Shared → Prop), Takes (Z.tr pn xe) W' → PSs (Z.tr pn xe) [.Expr (.Call (.Name a p1) [] [] p2) p3] (tb W') := fun W' pn xe tk => ⟨fun pinsZ sZ σZ HZ D IZ ⟨Ec, hW, z1, z2, z3⟩ => by
        have hp := act_ok (Ng := Ng) (i := 0) (p1 := p1) (p2 := p2) (Eg := C8.E0) (CXg := C8.CX0) (qg := x) (sg := sg) (g := g) (cdg := cdv) (pn := pn) (xe := xe) (E := Ec) (tb := tE G (fun cls d _ H => Ec cls d H) (evE O e)) I1 L hf hfn hfr (hbind _ _ _ _ _) tk hW hr' (fun outer s₁ H₁ hr2 => hbody _ outer s₁ H₁ Ec f c' hr2 hgd) hNg hva hd hcd
        exact (pss_one (ps_expr hp (hsw _))).run pinsZ sZ σZ HZ D IZ ⟨z1, z2, z3⟩⟩
      refine ⟨_, (pss_cons (ps_try_mix (X := Z) (Wo := fun _ _ _ _ => False) rfl rfl takes_none5 hask (hcl s' w1.H)) (pss_one (ps_ret pe_non))).nox, ?_⟩
      refine ⟨fun cls d H' => ∀ σ', wCla X.K Ng.length (fun _ _ _ _ => False) { nx := fun _ H1 => Q .non H1, rt := Q } (clasH G hsx) cls d σ' H', fun cls d σ' H' q => q σ', ?_, hco, ρ, w1, rfl, n1.r, n1.g.env he, ?_⟩
      · have hl : 0 < Ng.length := (List.getElem?_eq_some_iff.mp hNg).1
        show (L2.start Ng [V.ref f])[0]? = _
        first
          | rfl
          | simp [L2.start]
      · cases q : evE O e ρ w1.S with
        | bad => rw [q] at h1; exact h1.elim
        | ok y S' =>
          rw [q] at h1 ⊢
          exact fun v w' n r => h1 .non w' n rfl
        | ex ex S' =>
          rw [q] at h1 ⊢
          intro d w' n rx σ'
          have h1 : Ok G Wx (R.of ((tellH O.exSub ex (stripH hsx)).map W.p) S') w1 σ Q := h1
          cases q2 : tellH O.exSub ex (stripH hsx) with
          | none => rw [q2] at h1; exact h1.elim
          | some y =>
            rw [q2] at h1
            refine wcla_of hE n.r rx (fun v w2 n2 r2 => ?_) hsx hsl q2
            exact h1 v w2 ⟨by rw [n2.S, n.S], n2.r, n.g.trans n2.g⟩ r2
    refine wpAny_call (codeAny_mono rc fun r s2 hq => ?_)
    cases r with
    | error e => exact (show False from hq).elim
    | ok fl =>
      cases fl with
      | ret u => exact I1.after hq
      | next => exact hq.elim
      | brk => exact hq.elim
      | cont => exact hq.elim
  · rw [if_neg ht] at h; exact h.elim
end
end FD

set_option Elab.async false
set_option linter.all false
set_option autoImplicit false
set_option maxRecDepth 100000
set_option maxHeartbeats 2000000
/-! FDz: own operators; abs, str of own instances. -/
namespace FD
open PySem PySem.Spec PyProof.Rows L2
/-- what own operators ask of the classes -/
def OpsOk (K : PySem.W.Frag) (G : Ga) (O : Or) : Prop := ∀ (c : Nat) (op : Operator) (f : Nat) (pm : List Src), O.meth c (PySem.dunder op.info.2) 1 [] = some (f, pm) →
  PySem.W.selfFirst K (G.ca c) = true ∧ (∃ rc, PySem.W.findIn K (.ref (G.ca c)) (PySem.dunderR op.info.2) = some rc ∧ (rc = none ∨ ∃ g : Addr, rc = some (.ref g))) ∧
  (∃ fo ro, PySem.W.findIn K (.type "int") (PySem.dunder op.info.2) = some fo ∧ PySem.W.findIn K (.type "int") (PySem.dunderR op.info.2) = some ro) ∧ PySem.W.subIn K (.type "int") (.ref (G.ca c)) = some false
section
variable {G : Ga} {Wx : WX} {X : Cx} {O : Or} {pins : List (Addr × Obj)} {σ : L2.St} {s : Shared}
theorem noex_ok {r : R W} {w : Wd} {Q : VK} {W1 W2 : WX} (h : Ok G W1 (noexR r) w σ Q) : Ok G W2 r w σ Q := by
  cases r with
  | ok x S => exact h
  | ex _ _ => exact h.elim
  | bad => exact h.elim
theorem str_ok {r : R W} {w : Wd} {Q : VK} {W1 W2 : WX} (h : Ok G W1 (strR r) w σ Q) : Ok G W2 r w σ fun v H => (∃ y, v = .str y) ∧ Q v H := by
  cases r with
  | ok x S =>
    cases x with
    | p p =>
      cases p with
      | str y => exact fun v w' n r => ⟨⟨y, r⟩, h v w' n r⟩
      | _ => exact h.elim
    | _ => exact h.elim
  | ex _ _ => exact h.elim
  | bad => exact h.elim
theorem cmp_back {Q : Value → Shared → Prop} {v : V} {u : Value} {s' : Shared} (r : RelV v u) (h : Q u s') : PySem.W.CmpBack Q u s' := by
  cases v <;> first | (cases r; exact h) | (obtain ⟨t, rfl⟩ := r; exact h) | (obtain rfl := r; exact h) | skip
/-- two lists, two tuples -/
theorem lst_run {op : Operator} {w : Wd} {x y : W} {v v2 : V} {u u2 : Value} {Q : VK} {p : P} (hK : X.K = G.K) (I : Inv X pins σ w.H s) (sr : SR G w) (r1 : repW G w x v) (r2 : repW G w y v2) (rv : RelV v u) (rv2 : RelV v2 u2) (hl : lstOp op (view1 w.S x) (view1 w.S y) = some p)
    (h : ∀ t w', Nx G w w' w.S → repW G w' (.p p) t → Q t w'.H) : wpAny (model X.prog X.w) X.A (binaryOp op u u2) (EP X pins σ Q) X.xe s := by
  cases q1 : view1 w.S x with
  | none => rw [q1] at hl; cases op <;> cases hl
  | some a =>
    cases q2 : view1 w.S y with
    | none => rw [q1, q2] at hl; cases op <;> cases a <;> cases hl
    | some b =>
      rw [q1, q2] at hl
      have ra := view_rep1 sr r1 q1
      have rb := view_rep1 sr r2 q2
      cases op <;> cases a <;> first | (cases hl; done) | skip
      · cases b <;> first | (cases hl; done) | skip
        rename_i xs ys
        have hl : (if xs.length + ys.length ≤ sizeLine then some (P.tup (xs ++ ys)) else none) = some p := hl
        split at hl
        · rename_i hz
          cases hl
          obtain ⟨a, vs, rfl, ta, pa⟩ := id ra
          obtain ⟨b, us, rfl, tb, pb⟩ := id rb
          have la := reps_len pa
          have lb := reps_len pb
          refine op_catA pins s σ w.H _ _ u u2 Q I rv rv2 ⟨a, b, vs, us, rfl, rfl, by rw [hK]; exact ta.sq, by rw [hK]; exact tb.sq, by omega, fun e => ?_, fun e e2 => ?_, fun e e2 t ht => ?_⟩
          · have : xs = [] := List.eq_nil_of_length_eq_zero (by rw [← la, e]; rfl)
            subst this
            exact h _ w (Nx.refl sr) rb
          · have : ys = [] := List.eq_nil_of_length_eq_zero (by rw [← lb, e2]; rfl)
            subst this
            rw [List.append_nil] at h
            exact h _ w (Nx.refl sr) ra
          · obtain ⟨n2, r2⟩ := new_tup sr (reps_app pa pb) ht
            exact h _ _ n2 r2
        · cases hl
      · cases b <;> first | (cases hl; done) | skip
        rename_i xs ys
        have hl : (if xs.length + ys.length ≤ sizeLine then some (P.lst (xs ++ ys)) else none) = some p := hl
        split at hl
        · rename_i hz
          cases hl
          obtain ⟨a, vs, rfl, ta, pa⟩ := ra
          obtain ⟨b, us, rfl, tb, pb⟩ := rb
          have la := reps_len pa
          have lb := reps_len pb
          cases rv
          cases rv2
          obtain ⟨z, its, n, r, e⟩ := I.hok _ _ ta
          obtain ⟨z2, its2, n2, rr2, e2⟩ := I.hok _ _ tb
          have l1 := r.length
          have l2 := rr2.length
          refine PySem.P.add_list e e2 ?_ (by rw [List.size_toArray, List.size_toArray]; omega)
          rw [show its.toArray ++ its2.toArray = (its ++ its2).toArray from by simp]
          obtain ⟨m, hm⟩ := new_lst sr (reps_app pa pb) I.fresh
          exact ⟨.ref _, _, I.lnew (t' := s.toks) (r.append rr2) (by rw [List.length_append]; omega), rfl, h _ _ m hm⟩
        · cases hl
      · cases b <;> first | (cases hl; done) | skip
        rename_i xs k
        have hl : (if decide (-(2 ^ 63) ≤ k ∧ k < 2 ^ 63 ∧ xs.length * k.toNat ≤ sizeLine) = true then some (P.lst (List.replicate k.toNat xs).flatten) else none) = some p := hl
        split at hl
        · rename_i hz
          cases hl
          have hz := of_decide_eq_true hz
          obtain ⟨a, vs, rfl, ta, pa⟩ := ra
          have la := reps_len pa
          obtain rfl : v2 = .int k := rb
          have many : ∀ n, rep.reps G w.H w.ow (List.replicate n xs).flatten (List.replicate n vs).flatten := fun n => by
            induction n with
            | zero => rfl
            | succ n ih => rw [List.replicate_succ, List.replicate_succ, List.flatten_cons, List.flatten_cons]; exact reps_app pa ih
          · refine op_rep pins s σ w.H _ _ u u2 Q I rv rv2 ⟨a, k, vs, rfl, rfl, ta, hz.1, hz.2.1, by rw [la]; exact hz.2.2, fun t ht => ?_⟩
            obtain ⟨n2, r2⟩ := new_lst sr (many k.toNat) ht
            exact h _ _ n2 r2
        · cases hl
theorem opW_run {fi : Nat → FnI} {k : Nat} {op : Operator} {w : Wd} {x y : W} {v v2 : V} {u u2 : Value} {Q : VK} (hK : X.K = G.K) (M : MethsOk X G O fi k) (OK : OpsOk X.K G O) (hr : Room k X.A) (hg : X.A.guards = some []) (I : Inv X pins σ w.H s) (sr : SR G w) (r1 : repW G w x v) (r2 : repW G w y v2) (rv : RelV v u) (rv2 : RelV v2 u2)
    (h : Ok G Wx (opW O op x y w.S) w σ Q) : wpAny (model X.prog X.w) X.A (binaryOp op u u2) (EP X pins σ Q) X.xe s := by
  unfold opW at h
  cases q : insOf w.S x with
  | none =>
    rw [q] at h
    dsimp only at h
    cases q0 : lstOp op (view1 w.S x) (view1 w.S y) with
    | some p =>
      rw [q0] at h
      exact lst_run hK I sr r1 r2 rv rv2 q0 h
    | none =>
    rw [q0] at h
    dsimp only at h
    cases q1 : view w.S x with
    | none => rw [q1] at h; exact h.elim
    | some p =>
      cases q2 : view w.S y with
      | none => rw [q1, q2] at h; exact h.elim
      | some p2 =>
        rw [q1, q2] at h
        dsimp only at h
        cases q3 : binP op p p2 with
        | none => rw [q3] at h; exact h.elim
        | some z =>
          rw [q3] at h
          refine rBin_ok op pins s σ w.H v v2 u u2 Q I rv rv2 (bin2_ok (X := X) op w x y (.p z) v v2 Q sr r1 r2 ?_ fun t w' n r => h t w' n r)
          unfold bin2
          rw [q1, q2]
          show (binP op p p2).map W.p = _
          rw [q3]
          rfl
  | some c =>
    rw [q] at h
    dsimp only at h
    cases q1 : O.meth c (PySem.dunder op.info.2) 1 [] with
    | none => rw [q1] at h; exact h.elim
    | some fp =>
      obtain ⟨f, pm⟩ := fp
      rw [q1] at h
      dsimp only at h
      by_cases hR : opRight w.S c y = true
      · rw [if_pos hR] at h
        obtain ⟨Mt, hF, bd⟩ := M c _ 1 [] f pm q1
        obtain ⟨o1, ⟨rc, o2, o3⟩, ⟨fo, ro, o4, o5⟩, o6⟩ := OK c op f pm q1
        obtain ⟨a, dx, fs, ev, ea⟩ := ins_at sr r1 q
        subst ev
        obtain rfl : u = Value.ref a := rv
        obtain ⟨mA, J, _⟩ := ins_get I.hok ea
        obtain ⟨od, J, _⟩ := J.look
        obtain ⟨m, fr⟩ := I.fr
        have go : wpAny (model X.prog X.w) X.A (call (.ref (fi f).ad) [.ref a, u2]) (PySem.W.CmpBack (EP X pins σ Q)) X.xe s := by
          refine wpAny_mono (run_fnA (us := [.ref a, u2]) (ws := []) (vs := [.ref a, v2]) (zs := []) hF hr hg rfl bd I (.cons rfl (.cons rv2 .nil)) .nil rfl rfl sr (by exact ⟨_, _, rfl, r1, _, _, rfl, r2, rfl⟩) (noex_ok h)) (fun z s' hz => ?_) fun _ _ e => e
          obtain ⟨zv, H', I', rz, hq⟩ := id hz
          exact cmp_back rz hz
        have own : insOf w.S y = some c → wpAny (model X.prog X.w) X.A (binaryOp op (.ref a) u2) (EP X pins σ Q) X.xe s := fun e => by
          obtain ⟨b, dy, gs, ev, eb⟩ := ins_at sr r2 e
          subst ev
          obtain rfl : u2 = Value.ref b := rv2
          obtain ⟨mB, J2, _⟩ := ins_get I.hok eb
          obtain ⟨od2, J2, _⟩ := J2.look
          exact PySem.W.binop_K fr I.ok.mod.kin J J2.type o1 Mt.at_ Mt.fn go
        have int : ∀ i, y = .p (.int i) → wpAny (model X.prog X.w) X.A (binaryOp op (.ref a) u2) (EP X pins σ Q) X.xe s := fun i e => by
          subst e
          obtain rfl : v2 = .int i := r2
          obtain ⟨t, rfl⟩ := rv2
          exact PySem.W.ksp_binT fr I.ok.mod.kin J (by rfl) o1 Mt.at_ Mt.fn o2 o3 o4 o5 o6 go
        unfold opRight at hR
        split at hR
        · exact int _ rfl
        · split at hR
          · rename_i d e
            exact own (by rw [e, eq_of_beq hR])
          · cases hR
      · rw [if_neg hR] at h; exact h.elim
/-- a op b -/
theorem fe_opr {fi : Nat → FnI} {k : Nat} {op : Operator} {a b : E} {ea eb : PySem.Expr} {pos : Pos} (hK : X.K = G.K) (M : MethsOk X G O fi k) (OK : OpsOk X.K G O) (hr : Room k X.A) (hg : X.A.guards = some []) (ha : PE X ea (tE G Wx (evE O a))) (hb : PE X eb (tE G Wx (evE O b))) :
    PE X (.BinOp ea op eb pos) (tE G Wx (evE O (.opr op a b))) := by
  refine ⟨fun pins s σ H Q I ⟨ρ, w, e, sr, he, h⟩ => ?_⟩
  subst e
  have h : Ok G Wx ((evE O a ρ w.S).bind fun x S1 => (evE O b ρ S1).bind fun y S2 => opW O op x y S2) w σ Q := h
  refine wpAny_BinOp (binT ha hb I (R := fun v v2 H2 => ∃ x y w2, w2.H = H2 ∧ SR G w2 ∧ repW G w2 x v ∧ repW G w2 y v2 ∧ Ok G Wx (opW O op x y w2.S) w2 σ Q) ⟨ρ, w, rfl, sr, he, ok_seq h fun x S1 v w1 _ h1 n1 r1 => tE_at n1 he (ok_seq h1 fun y S2 v2 w2 _ h2 n2 r2 => ?_)⟩ fun v u s2 x y H2 I2 rx ry q => ?_)
  · exact ⟨x, y, w2, rfl, n2.r, n2.g.repW r1, r2, by rw [n2.S]; exact h2⟩
  · obtain ⟨xx, yy, w2, eH, s2r, r1, r2, hq⟩ := q
    subst eH
    exact opW_run hK M OK hr hg I2 s2r r1 r2 rx ry hq
end
end FD
namespace FD
open PySem PySem.Spec PyProof.Rows L2
section
variable {G : Ga} {Wx : WX} {X : Cx} {O : Or} {pins : List (Addr × Obj)} {σ : L2.St} {s : Shared}
theorem str_back {Q : VK} {v : V} {u : Value} {s' : Shared} (r : RelV v u) (hs : ∃ y, v = .str y) (h : EP X pins σ Q u s') : PySem.W.StrBack (EP X pins σ Q) u s' := by
  obtain ⟨y, rfl⟩ := hs
  obtain ⟨t, rfl⟩ := r
  exact h
theorem call_absK {K : PySem.W.Frag} {A : Around} {E : Value → Shared → Prop} {x C f : Addr} {ox : Obj} {od : Option Obj} {Q : Value → Shared → Prop} (F : K.In s.heap) (I : PySem.W.InstAt s.heap x ox C od) (hs : PySem.W.findIn K (.ref C) "__abs__" = some (some (.ref f))) (hf : PySem.W.isFn K (.ref f) = true)
    (h : wpAny (model X.prog X.w) A.in1 (call (.ref f) [.ref x]) Q E s) : wpAny (model X.prog X.w) A (call (.builtin "abs") [.ref x]) Q E s := by
  refine Calls.call_function_entry kind_abs plain_abs entry_abs (args_abs _) ?_
  unfold Builtin.«abs»
  refine wpAny_bind (m := oneArg "abs" _) (wpAny_pure ?_)
  refine wpAny_bind (m := callSpecial? (.ref x) (Str.ofString "__abs__")) (PySem.W.special_fn F I hs (beq_iff_eq.mp hf) (wpAny_mono h (fun r s' hr => ?_) fun _ _ y => y))
  exact wpAny_pure ⟨_, rfl, hr⟩
/-- a rule of one value -/
def UnG (G : Ga) (X : Cx) (O : Or) (u : Uo) : Prop := ∀ (pins : List (Addr × Obj)) (s : Shared) (σ : L2.St) (w : Wd) (x : W) (v : V) (vv : Value) (Q : VK) (Wx : WX), Inv X pins σ w.H s → SR G w → repW G w x v → RelV v vv → Ok G Wx (unW O u x w.S) w σ Q →
  wpAny (model X.prog X.w) X.A (match u with | .neg => unaryOp .USub vv | .abs => call (.builtin "abs") [vv] | .str => call (.type "str") [vv]) (EP X pins σ Q) X.xe s
theorem unW_run {fi : Nat → FnI} {k : Nat} (u : Uo) (M : MethsOk X G O fi k) (hr : Room (k + 2) X.A) (hg : X.A.guards = some []) : UnG G X O u := by
  intro pins s σ w x v vv Q Wx I sr r rv h
  unfold unW at h
  cases q : insOf w.S x with
  | none =>
    rw [q] at h
    cases x with
    | c _ => exact h.elim
    | b _ => exact h.elim
    | p p =>
      dsimp only at h
      cases q3 : uoP u p with
      | none => rw [q3] at h; exact h.elim
      | some z =>
        rw [q3] at h
        have h : ∀ t w', Nx G w w' w.S → repW G w' (.p z) t → Q t w'.H := h
        cases p with
        | int i =>
          obtain rfl : v = .int i := r
          cases u with
          | neg => cases q3; exact un_neg pins s σ w.H _ _ Q I rv ⟨i, rfl, h _ w (Nx.refl sr) rfl⟩
          | abs => cases q3; exact call_abs pins s σ w.H [.int i] [vv] Q I (.cons rv .nil) ⟨i, rfl, h _ w (Nx.refl sr) rfl⟩
          | str =>
            have q3 : (if i.natAbs.log2 < 1920 then some (P.str (toString i)) else none) = some z := q3
            split at q3
            · cases q3; exact call_str_int pins s σ w.H [.int i] [vv] Q I (.cons rv .nil) ⟨i, rfl, by assumption, h _ w (Nx.refl sr) rfl⟩
            · cases q3
        | str y =>
          obtain rfl : v = .str y := r
          cases u with
          | str => cases q3; exact SkE.call_str_str pins s σ w.H [.str y] [vv] Q I (.cons rv .nil) ⟨y, rfl, h _ w (Nx.refl sr) rfl⟩
          | _ => cases q3
        | _ => cases u <;> cases q3
  | some c =>
    rw [q] at h
    dsimp only at h
    cases q1 : O.meth c u.name 0 [] with
    | none => rw [q1] at h; exact h.elim
    | some fp =>
      obtain ⟨f, pm⟩ := fp
      rw [q1] at h
      dsimp only at h
      obtain ⟨Mt, hF, bd⟩ := M c _ 0 [] f pm q1
      obtain ⟨a, dx, fs, ev, ea⟩ := ins_at sr r q
      subst ev
      obtain rfl : vv = Value.ref a := rv
      obtain ⟨mA, J, _⟩ := ins_get I.hok ea
      obtain ⟨od, J, _⟩ := J.look
      obtain ⟨m, fr⟩ := I.fr
      have go : ∀ {A : Around} {Q' : VK} {E : Value → Shared → Prop}, Room k A → A.guards = some [] → A.frames = X.A.frames → Ok G (fun _ _ _ _ => False) (callW (arr pm (O.run f)) [x] w.S) w σ Q' → wpAny (model X.prog X.w) A (call (.ref (fi f).ad) [.ref a]) (EP X pins σ Q') E s :=
        fun hr' hg' hf' h' => run_fnA (us := [.ref a]) (ws := []) (vs := [.ref a]) (zs := []) hF hr' hg' hf' bd I (.cons rfl .nil) .nil rfl rfl sr (by exact ⟨_, _, rfl, r, rfl⟩) h'
      cases u with
      | neg =>
        rw [if_neg (by intro z; cases z)] at h
        exact PySem.W.ksp_neg fr I.ok.mod.kin J Mt.at_ Mt.fn (go (hr.mono (by omega)) hg rfl (noex_ok h))
      | abs =>
        rw [if_neg (by intro z; cases z)] at h
        exact call_absK I.kIn J Mt.at_ Mt.fn (go ((hr.in1).mono (by omega)) hg rfl (noex_ok h))
      | str =>
        rw [if_pos rfl] at h
        have hr2 := (Room.in1 hr).in1
        refine PySem.W.kso_call (by have := hr2.un; omega) I.kIn J Mt.at_ Mt.fn (wpAny_mono (go hr2 hg rfl (str_ok h)) (fun z s' hz => ?_) fun _ _ e => e)
        obtain ⟨zv, H', I', rz, hs, hq⟩ := hz
        exact str_back rz hs ⟨zv, H', I', rz, hq⟩
theorem one_seq {u : Uo} {a : E} {ρ : Env} {w : Wd} {Q : VK} (he : RepE G w σ ρ) (h : Ok G Wx ((evE O a ρ w.S).bind fun x S1 => unW O u x S1) w σ Q) :
    Ok G Wx (evE O a ρ w.S) w σ fun v H1 => ∃ x w1, w1.H = H1 ∧ SR G w1 ∧ repW G w1 x v ∧ Ok G Wx (unW O u x w1.S) w1 σ Q :=
  ok_seq h fun x S1 v w1 _ h1 n1 r1 => ⟨x, w1, rfl, n1.r, r1, by rw [n1.S]; exact h1⟩
/-- -a -/
theorem fe_ngo {fi : Nat → FnI} {k : Nat} {a : E} {ea : PySem.Expr} {pos : Pos} (M : MethsOk X G O fi k) (hr : Room (k + 2) X.A) (hg : X.A.guards = some []) (ha : PE X ea (tE G Wx (evE O a))) : PE X (.UnaryOp .USub ea pos) (tE G Wx (evE O (.one .neg a))) := by
  refine ⟨fun pins s σ H Q I ⟨ρ, w, e, sr, he, h⟩ => ?_⟩
  subst e
  refine UnaryOp_ (thn (ha.run pins s σ w.H _ I ⟨ρ, w, rfl, sr, he, one_seq he h⟩) ?_)
  rintro v s1 ⟨x, H1, I1, r1, xx, w1, rfl, s1r, rx, hq⟩
  exact unW_run .neg M hr hg pins s1 σ w1 xx x v Q Wx I1 s1r rx r1 hq
/-- abs(a), str(a) -/
theorem fe_abs {fi : Nat → FnI} {k : Nat} {a : E} {ea : PySem.Expr} {p pos : Pos} (M : MethsOk X G O fi k) (hr : Room (k + 2) X.A) (hgd : X.A.guards = some []) (hg : Gl X "abs") (hm : X.mg "abs" = none) (hs : notStar ea = true) (ha : PE X ea (tE G Wx (evE O a))) :
    PE X (.Call (.Name "abs" p) [ea] [] pos) (tE G Wx (evE O (.one .abs a))) := by
  have hc : CallR X (.builtin "abs") (fun vs H Q => ∃ v x w Wx, vs = [v] ∧ w.H = H ∧ SR G w ∧ repW G w x v ∧ ∀ σ, Ok G Wx (unW O .abs x w.S) w σ Q) := by
    rintro pins s σ H xs us Q I rv ⟨v, x, w, Wx', rfl, rfl, sr, rx, hq⟩
    obtain ⟨u, rfl, ru⟩ := vals1 rv
    exact unW_run .abs M hr hgd pins s σ w x v u Q Wx' I sr rx ru (hq σ)
  refine ⟨fun pins s σ H Q I ⟨ρ, w, e, sr, he, h⟩ => ?_⟩
  subst e
  refine (pe_callB hc hg hm (by rfl) (pa_cons ha pa_nil (star_cons hs)) (by decide) (by decide) (star_cons hs) (by rfl)).run pins s σ w.H Q I ⟨ρ, w, rfl, sr, he, ?_⟩
  have h1 : Ok G Wx (evE O a ρ w.S) w σ fun v H1 => ∃ x w1, w1.H = H1 ∧ SR G w1 ∧ repW G w1 x v ∧ Ok G Wx (unW O .abs x w1.S) w1 σ Q := one_seq he h
  show Ok G Wx (evE O a ρ w.S) w σ _
  cases q : evE O a ρ w.S with
  | bad => rw [q] at h1; exact h1.elim
  | ex e S => rw [q] at h1; exact h1
  | ok x S =>
    rw [q] at h1
    intro v w1 n1 r1
    have h2 : Ok G Wx (unW O .abs x w1.S) w1 σ Q := by
      have h : Ok G Wx ((evE O a ρ w.S).bind fun x S1 => unW O .abs x S1) w σ Q := h
      rw [q] at h
      rw [n1.S]
      exact Ok.from (show Ok G Wx (unW O .abs x S) w σ Q from h) n1
    refine ⟨v, x, w1, fun cls d _ H => Wx cls d σ H, rfl, rfl, n1.r, r1, fun σ' => ?_⟩
    cases q2 : unW O .abs x w1.S with
    | ok y S2 => rw [q2] at h2; exact h2
    | ex e S2 => rw [q2] at h2; exact h2
    | bad => rw [q2] at h2; exact h2
theorem fe_str {fi : Nat → FnI} {k : Nat} {a : E} {ea : PySem.Expr} {p pos : Pos} (M : MethsOk X G O fi k) (hr : Room (k + 2) X.A) (hgd : X.A.guards = some []) (hg : Gl X "str") (hm : X.mg "str" = none) (hs : notStar ea = true) (ha : PE X ea (tE G Wx (evE O a))) :
    PE X (.Call (.Name "str" p) [ea] [] pos) (tE G Wx (evE O (.one .str a))) := by
  have hc : CallR X (.type "str") (fun vs H Q => ∃ v x w Wx, vs = [v] ∧ w.H = H ∧ SR G w ∧ repW G w x v ∧ ∀ σ, Ok G Wx (unW O .str x w.S) w σ Q) := by
    rintro pins s σ H xs us Q I rv ⟨v, x, w, Wx', rfl, rfl, sr, rx, hq⟩
    obtain ⟨u, rfl, ru⟩ := vals1 rv
    exact unW_run .str M hr hgd pins s σ w x v u Q Wx' I sr rx ru (hq σ)
  refine ⟨fun pins s σ H Q I ⟨ρ, w, e, sr, he, h⟩ => ?_⟩
  subst e
  refine (pe_callTy hc hg hm (by rfl) (pa_cons ha pa_nil (star_cons hs)) (by decide) (by decide) (star_cons hs) (by rfl)).run pins s σ w.H Q I ⟨ρ, w, rfl, sr, he, ?_⟩
  have h1 : Ok G Wx (evE O a ρ w.S) w σ fun v H1 => ∃ x w1, w1.H = H1 ∧ SR G w1 ∧ repW G w1 x v ∧ Ok G Wx (unW O .str x w1.S) w1 σ Q := one_seq he h
  show Ok G Wx (evE O a ρ w.S) w σ _
  cases q : evE O a ρ w.S with
  | bad => rw [q] at h1; exact h1.elim
  | ex e S => rw [q] at h1; exact h1
  | ok x S =>
    rw [q] at h1
    intro v w1 n1 r1
    have h2 : Ok G Wx (unW O .str x w1.S) w1 σ Q := by
      have h : Ok G Wx ((evE O a ρ w.S).bind fun x S1 => unW O .str x S1) w σ Q := h
      rw [q] at h
      rw [n1.S]
      exact Ok.from (show Ok G Wx (unW O .str x S) w σ Q from h) n1
    refine ⟨v, x, w1, fun cls d _ H => Wx cls d σ H, rfl, rfl, n1.r, r1, fun σ' => ?_⟩
    cases q2 : unW O .str x w1.S with
    | ok y S2 => rw [q2] at h2; exact h2
    | ex e S2 => rw [q2] at h2; exact h2
    | bad => rw [q2] at h2; exact h2
end
end FD

set_option Elab.async false
set_option linter.all false
set_option autoImplicit false
set_option maxRecDepth 100000
set_option maxHeartbeats 2000000
/-! FEa: static methods; gcd. -/
namespace FD
open PySem PySem.Spec PyProof.Rows L2
section
variable {G : Ga} {Wx : WX} {X : Cx} {O : Or} {pins : List (Addr × Obj)} {σ : L2.St} {s : Shared}
/-- C.m is a static method: its record at p, its def at g -/
structure Stat (K : PySem.W.Frag) (C : Addr) (mc : Value) (m : Str) (p g : Addr) : Prop where
  rd : ClX.CRead K C mc
  at_ : PySem.W.findCls K (.ref C) mc m = some (.get (.builtin "staticmethod.__get__") (.ref p) .none (.ref C))
  rc : ∃ rest, PySem.W.recIn K p "staticmethod" = some (.ref g :: rest)
  kp : PySem.W.keepIn K (.ref g) = true
theorem getstat_ok {C p g : Addr} {mc : Value} {m : Str} {pl : Sem Bool} {A : Around} {E : Value → Shared → Prop} {Q : Value × List Value → Shared → Prop} {H : Hp} (I : Inv X pins σ H s) (S : Stat X.K C mc m p g) (h : ∀ s1, Inv X pins σ H s1 → Q (.ref g, []) s1) :
    wpAny (model X.prog X.w) A (getMethod (.ref C) m pl) Q E s := by
  obtain ⟨rest, hp⟩ := S.rc
  refine PySem.W.method_cls I.kIn S.rd.ga (PySem.W.cls_bind I.kIn S.rd.rd S.at_ (wpAny_call (PySem.W.sm_get (s := { s with toks := s.toks + 1 }) I.kIn hp (PySem.W.handed_on rfl ?_))))
  exact h _ (I.tok _)
/-- C.m(..), m a static method -/
theorem fe_stat {F : FnI} {f k : Nat} {ksn : List Str} {pm : List Src} {as ks : Es} {es : List PySem.Expr} {kws : List Keyword} {x m : Str} {p apos pos : Pos} {C pr : Addr} {mc : Value} (hF : FnP X.prog X.w X.K X.mg X.base G F (O.run f) k) (hr : Room k X.A) (hg : X.A.guards = some []) (tk : Takes X Wx)
    (hgl : Gl X x) (hm : X.mg x = some (.ref C)) (hS : Stat X.K C mc m pr F.ad) (bd : BdOk X.prog X.w X.K X.mg X.base G F (lenEs as) ksn pm) (hdb : (x == ("__debug__" : Str)) = false)
    (hst : notStars es = true) (hkn : kwNames kws = some ksn) (hl : lenEs ks = ksn.length) (hz : es = [] → as = .nil) (ha : PA X es (tA G Wx (evEs O as))) (hkw : PK X kws (tA G Wx (evEs O ks)))
    (hb : attributeBase (.Name x p) m X.env (eval (.Name x p) X.env) = eval (.Name x p) X.env) (hn : es.length + kws.length < 29) (hpl : (apos.endLine == pos.line) = true) :
    PE X (.Call (.Attribute (.Name x p) m apos) es kws pos) (tE G Wx (evE O (.call f as ks pm))) := by
  refine ⟨fun pins s σ H Q I ⟨ρ, w, e, sr, he, h⟩ => ?_⟩
  subst e
  refine PySem.W.methodCall_KW (pl := do return (← importBound (.Name x p) X.env).getD true) (ld_glob I hgl hm ?_ hdb) (meth_form hb hst hkn hn hpl)
  refine getstat_ok I hS fun s' I' => ?_
  refine args_run (k := fun xs ys S2 => callW (arr pm (O.run f)) (xs ++ ys) S2) hS.kp hst hkn hz ha hkw I' sr he h fun us ws vs zs xs ys w2 s2 I2 n2 rv rz r1 r2 l1 l2 h2 => ?_
  refine wpAny_call (call_at hF hr hg tk bd I2 rv rz ?_ ?_ n2.r (repWs_app r1 r2) h2)
  · show us.length = _
    rw [← rv.length, repWs_len r1, l1]
  · rw [← rz.length, repWs_len r2, l2, hl]
end
end FD

set_option Elab.async false
set_option linter.all false
set_option autoImplicit false
set_option maxRecDepth 100000
set_option maxHeartbeats 2000000
/-! FEb: a def keeps its promise. -/
namespace FD
open PySem PySem.Spec PyProof.Rows L2
section
variable {G : Ga}
theorem start_rep {w : Wd} {N : List Str} {xs : List W} {vs : List V} (r : repWs G w xs vs) : RepE G w (L2.start N vs) (xs.map some ++ List.replicate (N.length - xs.length) none) := by
  have hl := repWs_len r
  refine ⟨by simp [L2.start, hl], fun i x q => ?_⟩
  by_cases hi : i < xs.length
  · rw [List.getElem?_append_left (by simpa using hi), List.getElem?_map] at q
    cases e : xs[i]? with
    | none => rw [e] at q; cases q
    | some y =>
      rw [e] at q
      have hv : i < vs.length := by omega
      have ev : vs[i]? = some vs[i] := List.getElem?_eq_some_iff.mpr ⟨hv, rfl⟩
      obtain ⟨z, e2, rz⟩ := repWs_get' r ev
      rw [e] at e2
      cases e2
      cases q
      exact ⟨vs[i], by unfold L2.start; rw [List.getElem?_append_left (by simpa using hv), List.getElem?_map, ev]; rfl, rz⟩
  · rw [List.getElem?_append_right (by simpa using hi)] at q
    obtain ⟨h1, h2⟩ := List.getElem?_eq_some_iff.mp q
    rw [List.getElem_replicate] at h2
    cases h2
/-- a def's own exceptions pass -/
theorem takes_cx {P : Program} {w : World} {K : PySem.W.Frag} {mg : Str → Option Value} {base : Heap} {N : List Str} {qual : Str} {scope : Scope} {f : Addr} {cd : Value} {A : Around} {outer : List PySem.Env} {s : Shared} {H : Hp} {E : XK} :
    Takes (cxOf (L2.CX P w) P w K mg base N qual scope f cd A outer s H E) (fun cls d _ H => E cls d H) :=
  takes_of rfl rfl rfl (by rfl)
variable {P : Program} {w : World} {K : PySem.W.Frag} {mg : Str → Option Value} {base : Heap}
theorem fnP_of {O : Or} {F : FnI} {k n fx : Nat} {fs : List Fn} {body : List Sm} {name qual : Str} {params : Arguments} {bd : List Stmt} {scope : Scope} {dV kV doc pm cdv ct oc : Value} {an od : Option Addr} {osl : Array (Option Value)} {N : List Str}
    (eF : F.fd = PySem.W.fnOf name qual params bd scope dV kV doc pm an cdv ct) (lk : K.lookup F.ad = some ⟨oc, od, .func (PySem.W.fnOf name qual params bd scope dV kV doc pm an cdv ct), osl⟩) (hcd : PySem.W.codeIn K cdv qual = true) (S : FnScope N F.ps scope)
    (hf : fs[fx]? = some ⟨F.ps.length, N.length, body⟩)
    (hb : ∀ (A : Around) (outer : List PySem.Env) (s : Shared) (H : Hp) (E : XK), Room k (A.deeper (envOfC qual scope s.heap.objs.size F.ad cdv)) → A.guards = some [] →
      PSs (cxOf (L2.CX P w) P w K mg base N qual scope F.ad cdv A outer s H E) bd (tS G (fun cls d _ H => E cls d H) (exSs { O with run := runP fs O n } body))) :
    FnP P w K mg base G F (runP fs O (n + 1) fx) (k + 1) := by
  intro A outer s H args Q E Gd hr hg e0 hbn hgd
  rw [eF] at hbn
  refine StX.run_bnd lk hcd S hr e0 hbn fun s2 H2 vs hv hr2 => ?_
  obtain ⟨xs, wd, eH, sr, rv, ok⟩ := hgd vs H2 hv
  subst eH
  refine ⟨_, hb A outer s2 wd.H E hr2 hg, _, wd, rfl, sr, start_rep rv, ?_⟩
  unfold runP at ok
  rw [hf] at ok
  dsimp only at ok
  by_cases hl : xs.length = F.ps.length
  · rw [if_pos hl] at ok
    unfold runB at ok
    cases q : exSs { O with run := runP fs O n } body (xs.map some ++ List.replicate (N.length - xs.length) none) wd.S with
    | nx ρ S1 => rw [q] at ok; exact fun σ' w' n' r => ok .non w' n' rfl
    | rt x S1 => rw [q] at ok; exact ok
    | bk ρ S1 => rw [q] at ok; exact ok.elim
    | ct ρ S1 => rw [q] at ok; exact ok.elim
    | ex e ρ S1 => rw [q] at ok; exact fun d σ' w' n' r rx => ok d w' n' rx
    | bad => rw [q] at ok; exact ok.elim
  · rw [if_neg hl] at ok; exact ok.elim
end
end FD

set_option Elab.async false
set_option linter.all false
set_option autoImplicit false
set_option maxRecDepth 100000
set_option maxHeartbeats 4000000
/-! FEn: slices, f-strings, item stores, three names at once. -/
namespace FD
open PySem PySem.Spec PyProof.Rows L2
section
variable {G : Ga} {Wx : WX} {X : Cx} {O : Or}
/-! ### slices -/
def tOO (G : Ga) (Wx : WX) (g : Env → Store → R W) : TO := fun σ H Q => In G σ H fun ρ w => Ok G Wx (g ρ w.S) w σ fun v H' => (v = .non → Q none H') ∧ ∀ i, v = .int i → Q (some i) H'
theorem fo_none : PO X none (tOO G Wx (evE O (.cst .non))) := ⟨fun pins s σ H Q I ⟨ρ, w, e, sr, he, h⟩ => by
  subst e
  exact po_none.run pins s σ w.H Q I ((Ok.here (x := .p .non) h sr rfl).1 rfl)⟩
theorem fo_some {e : PySem.Expr} {a : E} (ha : PE X e (tE G Wx (evE O a))) : PO X (some e) (tOO G Wx (evE O (.ixi a))) := ⟨fun pins s σ H Q I ⟨ρ, w, eH, sr, he, h⟩ => by
  subst eH
  refine (po_some ha).run pins s σ w.H Q I ⟨ρ, w, rfl, sr, he, ?_⟩
  have h : Ok G Wx ((evE O a ρ w.S).bind fun x S1 => match x with | .p (.int i) => .ok (.p (.int i)) S1 | _ => .bad) w σ _ := h
  refine ok_seq h fun x S1 v w1 _ h1 n1 r1 => ?_
  have eS := n1.S
  subst eS
  cases x with
  | p p =>
    cases p with
    | int i =>
      have r1 : v = .int i := r1
      subst r1
      exact ⟨i, rfl, (Ok.here (x := .p (.int i)) h1 n1.r rfl).2 i rfl⟩
    | _ => exact h1.elim
  | b _ => exact h1.elim
  | c _ => exact h1.elim⟩
theorem reps_drop {H : Hp} {ow : Addr → Prop} : ∀ {xs : List P} {vs : List V} (n : Nat), rep.reps G H ow xs vs → rep.reps G H ow (xs.drop n) (vs.drop n)
  | xs, vs, 0, r => r
  | [], vs, n + 1, r => by rw [show vs = [] from r]; rfl
  | x :: xs, vs, n + 1, ⟨v, t, e, r1, r2⟩ => by subst e; exact reps_drop n r2
theorem reps_take {H : Hp} {ow : Addr → Prop} : ∀ {xs : List P} {vs : List V} (n : Nat), rep.reps G H ow xs vs → rep.reps G H ow (xs.take n) (vs.take n)
  | xs, vs, 0, r => by rw [List.take_zero, List.take_zero]; rfl
  | [], vs, n + 1, r => by rw [show vs = [] from r]; rfl
  | x :: xs, vs, n + 1, ⟨v, t, e, r1, r2⟩ => by subst e; exact ⟨v, _, rfl, r1, reps_take n r2⟩
theorem reps_cut {H : Hp} {ow : Addr → Prop} {xs : List P} {vs : List V} (lo hi : Option Int) (r : rep.reps G H ow xs vs) : rep.reps G H ow (cutP xs lo hi) (cutV vs lo hi) := by
  unfold cutP cutV
  rw [reps_len r]
  exact reps_take _ (reps_drop _ r)
theorem cutP_all {xs : List P} {lo hi : Option Int} (h : HT.sIx xs.length 0 lo = 0 ∧ HT.sIx xs.length xs.length hi = xs.length) : cutP xs lo hi = xs := by
  unfold cutP
  rw [h.1, h.2]
  simp
/-- a bound, as data and as a value -/
theorem bnd_of {H : Hp} {ow : Addr → Prop} {q : P} {u : V} {o : Option Int} (r : rep G H ow q u) (h : bndP q = some o) : (u = .non ∧ o = none) ∨ ∃ i, u = .int i ∧ o = some i := by
  cases q with
  | non => cases h; exact .inl ⟨r, rfl⟩
  | int i => cases h; exact .inr ⟨i, r, rfl⟩
  | _ => cases h
def rSl (K : PySem.W.Frag) : V → Option Int → Option Int → Hp → VK → Prop := fun x lo hi H Q => rSlL K x lo hi H Q ∨ rSlA K x lo hi H Q
theorem sl_any : SlR X (rSl X.K) := SlR.or sl_list sl_tupA
theorem slc_fin (hK : X.K = G.K) {w : Wd} {x : W} {v : V} {p q r : P} {z : P} {lo hi : Option Int} {Q : VK} (sr : SR G w) (rx : repW G w x v) (hv : view1 w.S x = some p) (hl : bndP q = some lo) (hh : bndP r = some hi) (hz : slcP p q r = some z) (k : ∀ t w', Nx G w w' w.S → rep G w'.H w'.ow z t → Q t w'.H) : rSl X.K v lo hi w.H Q := by
  have r1 := view_rep1 sr rx hv
  have mkL : ∀ {a : Addr} {xs : List P} {vs : List V}, v = .ref a → SqL X.K w.H a vs → rep.reps G w.H w.ow xs vs → z = .lst (cutP xs lo hi) → rSl X.K v lo hi w.H Q := fun {a xs vs} e1 e2 e3 e4 => by
    subst e4
    refine .inl ⟨a, vs, e1, e2, fun t ht => ?_⟩
    have n : Nx G w { w with H := upd w.H t (.lst (cutV vs lo hi)) } w.S := ⟨rfl, sr.alloc ht, Gro.alloc ht⟩
    exact k (.ref t) _ n ⟨t, _, rfl, ⟨upd_same, fun y => sr.fresh ht y⟩, rep_stay.go n.g.stay _ _ (reps_cut lo hi e3)⟩
  cases p with
  | lst xs =>
    obtain ⟨a, vs, e, hl2, rs⟩ := r1
    have hz : (match bndP q, bndP r with | some lo, some hi => some (P.lst (cutP xs lo hi)) | _, _ => none) = some z := hz
    rw [hl, hh] at hz
    cases hz
    exact mkL e (by rw [hK]; exact .of hl2) rs rfl
  | fz xs =>
    obtain ⟨a, vs, e, hl2, rs⟩ := (show rep G w.H w.ow (.fz xs) v from r1)
    have hz : (match bndP q, bndP r with | some lo, some hi => some (P.lst (cutP xs lo hi)) | _, _ => none) = some z := hz
    rw [hl, hh] at hz
    cases hz
    exact mkL e (by rw [hK]; exact hl2.sq) rs rfl
  | tup xs =>
    obtain ⟨a, vs, e, hl2, rs⟩ := (show rep G w.H w.ow (.tup xs) v from r1)
    have hz : (match bndP q, bndP r with | some lo, some hi => some (P.tup (cutP xs lo hi)) | _, _ => none) = some z := hz
    rw [hl, hh] at hz
    cases hz
    have len := reps_len rs
    refine .inr ⟨a, vs, e, by rw [hK]; exact hl2.sq, fun hw => ?_, fun hw t ht => ?_⟩
    · rw [len] at hw
      rw [cutP_all hw] at k
      exact k v w (Nx.refl sr) ⟨a, vs, e, hl2, rs⟩ |> fun y => by rw [e] at y; exact y
    · have n : Nx G w { w with H := upd w.H t (.tup (cutV vs lo hi)) } w.S := ⟨rfl, sr.alloc ht, Gro.alloc ht⟩
      exact k (.ref t) _ n ⟨t, _, rfl, .inl ⟨.inl upd_same, fun y => sr.fresh ht y⟩, rep_stay.go n.g.stay _ _ (reps_cut lo hi rs)⟩
  | _ => cases hz
theorem fe_slc {a l h : E} {ea : PySem.Expr} {lo hi : Option PySem.Expr} {p2 pos : Pos} (hK : X.K = G.K) (ha : PE X ea (tE G Wx (evE O a))) (hl : PO X lo (tOO G Wx (evE O l))) (hh : PO X hi (tOO G Wx (evE O h))) :
    PE X (.Subscript ea (.Slice lo hi none p2) pos) (tE G Wx (evE O (.slc a l h))) :=
  PE.imp (pe_slice sl_any ha hl hh) fun σ H Q ⟨ρ, w, e, sr, he, hq⟩ => by
    subst e
    have hq : Ok G Wx ((evE O a ρ w.S).bind fun x S1 => (evE O l ρ S1).bind fun y S2 => (evE O h ρ S2).bind fun z S3 => match view1 S3 x, y, z with
      | some p, .p q, .p r => R.of ((slcP p q r).map W.p) S3
      | _, _, _ => .bad) w σ Q := hq
    refine ⟨ρ, w, rfl, sr, he, ok_seq hq fun x S1 v w1 _ h1 n1 r1 => ⟨ρ, w1, rfl, n1.r, n1.g.env he, ?_⟩⟩
    have eS := n1.S
    subst eS
    refine ok_seq h1 fun y S2 u w2 _ h2 n2 r2 => ?_
    have eS := n2.S
    subst eS
    have key : ∀ o, (∀ q, y = .p q → bndP q = some o → True) → True := fun _ _ => trivial
    -- the second bound, then the end
    have fin : ∀ (o : Option Int), ((u = .non ∧ o = none) ∨ ∃ i, u = .int i ∧ o = some i) → tOO G Wx (evE O h) σ w2.H fun o2 H3 => rSl X.K v o o2 H3 Q := fun o ho => by
      refine ⟨ρ, w2, rfl, n2.r, n2.g.env (n1.g.env he), ok_seq h2 fun z S3 t w3 _ h3 n3 r3 => ?_⟩
      have eS := n3.S
      subst eS
      have end_ : ∀ (o2 : Option Int), ((t = .non ∧ o2 = none) ∨ ∃ i, t = .int i ∧ o2 = some i) → rSl X.K v o o2 w3.H Q := fun o2 ho2 => by
        cases q0 : view1 w3.S x with
        | none => rw [q0] at h3; exact h3.elim
        | some p =>
          rw [q0] at h3
          cases y with
          | b _ => exact h3.elim
          | c _ => exact h3.elim
          | p q =>
            cases z with
            | b _ => exact h3.elim
            | c _ => exact h3.elim
            | p r =>
              have h3 : Ok G Wx (R.of ((slcP p q r).map W.p) w3.S) w3 σ Q := h3
              cases q3 : slcP p q r with
              | none => rw [q3] at h3; exact h3.elim
              | some zz =>
                rw [q3] at h3
                have bl : bndP q = some o := by
                  have r2 : rep G w2.H w2.ow q u := r2
                  rcases ho with ⟨e1, e2⟩ | ⟨i, e1, e2⟩
                  · subst e1 e2
                    cases q with
                    | non => rfl
                    | bl _ => cases r2
                    | int _ => cases r2
                    | str _ => cases r2
                    | ty _ => cases r2
                    | glb _ => cases r2
                    | _ => cases p <;> cases q3
                  · subst e1 e2
                    cases q with
                    | int j => cases r2; rfl
                    | non => cases r2
                    | bl _ => cases r2
                    | str _ => cases r2
                    | ty _ => cases r2
                    | glb _ => cases r2
                    | _ => cases p <;> cases q3
                have bh : bndP r = some o2 := by
                  have r3 : rep G w3.H w3.ow r t := r3
                  rcases ho2 with ⟨e1, e2⟩ | ⟨i, e1, e2⟩
                  · subst e1 e2
                    cases r with
                    | non => rfl
                    | bl _ => cases r3
                    | int _ => cases r3
                    | str _ => cases r3
                    | ty _ => cases r3
                    | glb _ => cases r3
                    | _ => cases p <;> cases q <;> cases q3
                  · subst e1 e2
                    cases r with
                    | int j => cases r3; rfl
                    | non => cases r3
                    | bl _ => cases r3
                    | str _ => cases r3
                    | ty _ => cases r3
                    | glb _ => cases r3
                    | _ => cases p <;> cases q <;> cases q3
                exact slc_fin hK n3.r (n3.g.repW (n2.g.repW r1)) q0 bl bh q3 fun t' w' n' r' => h3 t' w' n' r'
      exact ⟨fun e => end_ none (.inl ⟨e, rfl⟩), fun i e => end_ (some i) (.inr ⟨i, e, rfl⟩)⟩
    exact ⟨fun e => fin none (.inl ⟨e, rfl⟩), fun i e => fin (some i) (.inr ⟨i, e, rfl⟩)⟩
/-! ### f-strings -/
def cJs : E → List E → E
  | a, [] => a
  | a, b :: r => cJs (.bin .Add a b) r
def jk (O : Or) : List E → Env → W → Store → R W
  | [], _, x, S => .ok x S
  | b :: r, ρ, x, S => (evE O b ρ S).bind fun y S2 => (match view S2 x, view S2 y with
    | some p, some q => R.of ((binP .Add p q).map W.p) S2
    | _, _ => .bad).bind fun z S3 => jk O r ρ z S3
theorem cJs_jk : ∀ (bs : List E) (a : E) (ρ : Env) (S : Store), evE O (cJs a bs) ρ S = (evE O a ρ S).bind fun x S1 => jk O bs ρ x S1
  | [], a, ρ, S => by
    show evE O a ρ S = (evE O a ρ S).bind fun x S1 => .ok x S1
    cases evE O a ρ S <;> rfl
  | b :: r, a, ρ, S => by
    show evE O (cJs (.bin .Add a b) r) ρ S = _
    rw [cJs_jk r (.bin .Add a b) ρ S]
    show ((evE O a ρ S).bind fun x S1 => (evE O b ρ S1).bind fun y S2 => match view S2 x, view S2 y with
      | some p, some q => R.of ((binP .Add p q).map W.p) S2
      | _, _ => .bad).bind _ = _
    cases evE O a ρ S with
    | ok x S1 =>
      show ((evE O b ρ S1).bind _).bind _ = (evE O b ρ S1).bind _
      cases evE O b ρ S1 <;> rfl
    | ex _ _ => rfl
    | bad => rfl
inductive PartsOk (G : Ga) (Wx : WX) (X : Cx) (O : Or) : List PySem.Expr → List E → Prop
  | nil : PartsOk G Wx X O [] []
  | cons {e : PySem.Expr} {a : E} {es : List PySem.Expr} {as : List E} (h : PE X e (tE G Wx (evE O a))) (r : PartsOk G Wx X O es as) : PartsOk G Wx X O (e :: es) (a :: as)
theorem fj_parts {es : List PySem.Expr} {as : List E} (p : PartsOk G Wx X O es as) : ∃ ts, PJ X es ts ∧ ∀ (acc : Str) (ρ : Env) (w : Wd) (σ : L2.St) (Q : VK), SR G w → RepE G w σ ρ → Ok G Wx (jk O as ρ (.p (.str acc)) w.S) w σ Q → tJs ts acc σ w.H fun out H1 => Q (.str out) H1 := by
  induction p with
  | nil => exact ⟨[], .nil, fun acc ρ w σ Q sr he h => Ok.here (x := .p (.str acc)) h sr rfl⟩
  | @cons e a es as h r ih =>
    obtain ⟨ts, hp, hk⟩ := ih
    refine ⟨_ :: ts, .cons h hp, fun acc ρ w σ Q sr he hq => ⟨ρ, w, rfl, sr, he, ?_⟩⟩
    have hq : Ok G Wx ((evE O a ρ w.S).bind fun y S2 => (match view S2 (.p (.str acc)), view S2 y with
      | some p, some q => R.of ((binP .Add p q).map W.p) S2
      | _, _ => .bad).bind fun z S3 => jk O as ρ z S3) w σ Q := hq
    refine ok_seq hq fun x S1 v w1 _ h1 n1 r1 => ?_
    have eS := n1.S
    subst eS
    cases q1 : view w1.S x with
    | none => rw [q1] at h1; exact h1.elim
    | some q =>
      rw [q1] at h1
      have rq := view_rep n1.r r1 q1
      have h1 : Ok G Wx ((R.of ((binP .Add (.str acc) q).map W.p) w1.S).bind fun z S3 => jk O as ρ z S3) w1 σ Q := h1
      cases q with
      | str y =>
        have rq : v = .str y := rq
        have h1 : Ok G Wx ((R.of ((if acc.length + y.length ≤ sizeLine then some (P.str (acc ++ y)) else none).map W.p) w1.S).bind fun z S3 => jk O as ρ z S3) w1 σ Q := h1
        split at h1
        · rename_i hl
          refine ⟨y, rq, ?_, hk (acc ++ y) ρ w1 σ Q n1.r (n1.g.env he) h1⟩
          have e : (acc ++ y).length = acc.length + y.length := Array.size_append
          rw [e]; exact hl
        · exact h1.elim
      | _ => exact h1.elim
theorem fe_joined {v1 v2 : PySem.Expr} {rest : List PySem.Expr} {as : List E} {pos : Pos} (p : PartsOk G Wx X O (v1 :: v2 :: rest) as) : PE X (.JoinedStr (v1 :: v2 :: rest) pos) (tE G Wx (evE O (cJs (.cst (.str Str.empty)) as))) := by
  obtain ⟨ts, hp, hk⟩ := fj_parts p
  refine PE.imp (pe_joined hp) fun σ H Q ⟨ρ, w, e, sr, he, h⟩ => ?_
  subst e
  have h : Ok G Wx (evE O (cJs (.cst (.str Str.empty)) as) ρ w.S) w σ Q := h
  rw [cJs_jk] at h
  exact hk Str.empty ρ w σ Q sr he h
theorem fe_fmt {e : PySem.Expr} {a : E} {pos : Pos} (he : PE X e (tE G Wx (evE O a))) : PE X (.FormattedValue e (-1) none pos) (tE G Wx (evE O (.pri .fmt (.cons a .nil)))) :=
  PE.imp (pe_fmt he) fun σ H Q ⟨ρ, w, eH, sr, hen, h⟩ => by
    subst eH
    have h : Ok G Wx (((evE O a ρ w.S).bind fun x S1 => (R.ok ([] : List W) S1).bind fun xs S2 => .ok (x :: xs) S2).bind fun xs S1 => match views S1 xs with
      | some ps => R.of ((priP .fmt ps).map W.p) S1
      | none => .bad) w σ Q := h
    have e1 : (((evE O a ρ w.S).bind fun x S1 => (R.ok ([] : List W) S1).bind fun xs S2 => R.ok (x :: xs) S2).bind fun xs S1 => match views S1 xs with
      | some ps => R.of ((priP .fmt ps).map W.p) S1
      | none => .bad) = (evE O a ρ w.S).bind fun x S1 => match views S1 [x] with
      | some ps => R.of ((priP .fmt ps).map W.p) S1
      | none => .bad := by cases evE O a ρ w.S <;> rfl
    rw [e1] at h
    refine ⟨ρ, w, rfl, sr, hen, ok_seq h fun x S1 v w1 _ h1 n1 r1 => ?_⟩
    have eS := n1.S
    subst eS
    cases q1 : views w1.S [x] with
    | none => rw [q1] at h1; exact h1.elim
    | some ps =>
      rw [q1] at h1
      obtain ⟨y, t, e2, ry, rt⟩ := (show ∃ y t, ps = y :: t ∧ rep1 G w1 y v ∧ t = [] from by
        have z := views_rep1 n1.r (xs := [x]) (vs := [v]) ⟨v, [], rfl, r1, rfl⟩ q1
        cases ps with
        | nil => exact absurd (show [v] = [] from z) (by simp)
        | cons y t =>
          obtain ⟨u, r, e, z1, z2⟩ := z
          cases e
          cases t with
          | nil => exact ⟨y, [], rfl, z1, rfl⟩
          | cons _ _ => obtain ⟨_, _, e, _⟩ := z2; cases e)
      subst e2 rt
      have h1 : Ok G Wx (R.of ((priP .fmt [y]).map W.p) w1.S) w1 σ Q := h1
      cases y with
      | int i =>
        have h1 : Ok G Wx (R.of ((if i.natAbs.log2 < 1920 then some (P.str (toString i)) else none).map W.p) w1.S) w1 σ Q := h1
        split at h1
        · rename_i hl
          exact .inr ⟨i, ry, hl, Ok.here (x := .p (.str (toString i))) h1 n1.r rfl⟩
        · exact h1.elim
      | str z =>
        have h1 : Ok G Wx (R.of ((if z.length ≤ sizeLine then some (P.str z) else none).map W.p) w1.S) w1 σ Q := h1
        split at h1
        · rename_i hl
          exact .inl ⟨z, ry, hl, Ok.here (x := .p (.str z)) h1 n1.r rfl⟩
        · exact h1.elim
      | _ => exact h1.elim
/-! ### o[i] = e -/
theorem repWs_set {w : Wd} : ∀ {xs : List W} {vs : List V} {x : W} {v : V} {i : Nat}, repWs G w xs vs → repW G w x v → repWs G w (xs.set i x) (vs.set i v)
  | [], vs, x, v, i, r, _ => by rw [show vs = [] from r]; rfl
  | y :: xs, vs, x, v, 0, ⟨u, t, e, r1, r2⟩, r => by subst e; exact ⟨v, t, rfl, r, r2⟩
  | y :: xs, vs, x, v, i + 1, ⟨u, t, e, r1, r2⟩, r => by subst e; exact ⟨u, _, rfl, r1, repWs_set r2 r⟩
theorem fs_seti {o i value : PySem.Expr} {a b c : E} {pos pos' : Pos} (ho : PE X o (tE G Wx (evE O a))) (hi : PE X i (tE G Wx (evE O b))) (hv : PE X value (tE G Wx (evE O c))) (hp : ∀ v, assign (.Subscript o i pos') X.env v = (do
      let ov ← holding [v] (eval o X.env)
      let iv ← holding [v, ov] (eval i X.env)
      standAt pos'
      holding [v, ov, iv] (setItem ov iv v)
      release [v, ov, iv] []))
    (hs : swapsWithSole [.Subscript o i pos'] value pos.line X.env = pure false) (hw : swappedStores [.Subscript o i pos'] value X.env = pure none) : PS X (.Assign [.Subscript o i pos'] value pos) (tS G Wx (exS O (.seti a b c))) :=
  PS.imp (ps_asg hv (pg_sub ho hi set_list hp) hs hw) fun D σ H ⟨ρ, w, e, s, he, h⟩ => by
    subst e
    refine ⟨ρ, w, rfl, s, he, ok_out he h fun y S1 u w1 _ h1 n1 r1 => ⟨ρ, w1, rfl, n1.r, n1.g.env he, ?_⟩⟩
    have eS := n1.S
    subst eS
    refine ok_out (n1.g.env he) h1 fun x S2 v w2 _ h2 n2 r2 => ⟨ρ, w2, rfl, n2.r, n2.g.env (n1.g.env he), ?_⟩
    have eS := n2.S
    subst eS
    refine ok_out (n2.g.env (n1.g.env he)) h2 fun z S3 t w3 _ h3 n3 r3 => ?_
    have eS := n3.S
    subst eS
    cases x with
    | p p => exact h3.elim
    | b p => exact h3.elim
    | c k =>
      cases z with
      | b p => exact h3.elim
      | c k => exact h3.elim
      | p q =>
        cases q with
        | int j =>
          have h3 : OkS G Wx (match w3.S[k]? with
            | some (.lst xs) => if decide (0 ≤ j ∧ j.toNat < xs.length) then Out.nx ρ (w3.S.set k (.lst (xs.set j.toNat y))) else .bad
            | _ => .bad) w3 D := h3
          cases q : w3.S[k]? with
          | none => rw [q] at h3; exact h3.elim
          | some ce =>
            rw [q] at h3
            cases ce with
            | lst xs =>
              have h3 : OkS G Wx (if decide (0 ≤ j ∧ j.toNat < xs.length) then Out.nx ρ (w3.S.set k (.lst (xs.set j.toNat y))) else .bad) w3 D := h3
              split at h3
              · rename_i hc
                obtain ⟨c1, c2⟩ := of_decide_eq_true hc
                obtain ⟨ad, ha, ev⟩ := n3.g.repW r2
                obtain ⟨vs, ea, rf⟩ := n3.r.cell k ad _ ha q
                have lv := repWs_len rf
                have ej : ixN vs.length j = some j.toNat := by
                  unfold ixN
                  rw [lv, if_pos c1, if_pos (by omega)]
                refine ⟨ad, vs, j, j.toNat, ev, r3, ea, ej, ?_⟩
                have hk : alive w3.S k := ⟨_, q, fun z => by cases z⟩
                have g3 := Gro.put (o := .lst (vs.set j.toNat u)) (c := .lst (xs.set j.toNat y)) n3.r ha hk
                have s3 := SR.put (o := .lst (vs.set j.toNat u)) (c := .lst (xs.set j.toNat y)) n3.r ha hk ⟨_, upd_same, repWs_set (g3.repWs rf) (g3.repW (n3.g.repW (n2.g.repW r1)))⟩
                exact h3 σ (w3.put k ad (.lst (vs.set j.toNat u)) (.lst (xs.set j.toNat y))) ⟨rfl, s3, g3⟩ ((n1.trans (n2.trans (n3.trans ⟨rfl, s3, g3⟩))).g.env he)
              · exact h3.elim
            | _ => exact h3.elim
        | _ => exact h3.elim
/-! ### three names at once -/
theorem fs_par3 {i j l : Nat} {x y z : Str} {a b c : E} {ea eb ec : PySem.Expr} {px py pz pt pt2 pos : Pos} {kt k2 : Nat} (hc : X.calm = true) (hN : X.N.Nodup) (hi : X.N[i]? = some x) (hj : X.N[j]? = some y) (hl : X.N[l]? = some z) (hij : i ≠ j) (hil : i ≠ l) (hjl : j ≠ l)
    (hx : X.env.scope.names.lookup x = some .local) (hy : X.env.scope.names.lookup y = some .local) (hz : X.env.scope.names.lookup z = some .local) (ha : PA X [ea, eb, ec] (tA G Wx (evEs O (.cons a (.cons b (.cons c .nil))))))
    (hw : swappedStores [.Tuple [.Name x px, .Name y py, .Name z pz] kt pt] (.Tuple [ea, eb, ec] k2 pt2) X.env = pure (some [x, y, z])) :
    PS X (.Assign [.Tuple [.Name x px, .Name y py, .Name z pz] kt pt] (.Tuple [ea, eb, ec] k2 pt2) pos) (tS G Wx (exS O (.par [i, j, l] (.cons a (.cons b (.cons c .nil)))))) :=
  PS.imp (ps_par3 hc hN hi hj hl hij hil hjl hx hy hz ha hw) fun D σ H ⟨ρ, w, eH, sr, he, h⟩ => by
    subst eH
    refine ⟨ρ, w, rfl, sr, he, ?_⟩
    have h : OkS G Wx (match evEs O (.cons a (.cons b (.cons c .nil))) ρ w.S with | .ok xs S1 => (match setAll [i, j, l] xs ρ with | some ρ1 => Out.nx ρ1 S1 | none => .bad) | .ex e S1 => .ex e ρ S1 | .bad => .bad) w D := h
    show OkL G Wx (evEs O (.cons a (.cons b (.cons c .nil))) ρ w.S) w σ _
    cases q : evEs O (.cons a (.cons b (.cons c .nil))) ρ w.S with
    | bad => rw [q] at h; exact h.elim
    | ex e S1 => rw [q] at h; exact fun d w' n rx => h d σ w' n (n.g.env he) rx
    | ok xs S1 =>
      rw [q] at h
      dsimp only at h
      intro vs w' n r
      have z := evEs_len q
      obtain ⟨u1, u2, u3, rfl⟩ : ∃ u1 u2 u3, xs = [u1, u2, u3] := by
        match xs, z with
        | [u1, u2, u3], _ => exact ⟨u1, u2, u3, rfl⟩
      obtain ⟨v1, r1, rfl, q1, v2, r2, rfl, q2, v3, r3, rfl, q3, q4⟩ := r
      obtain rfl : r3 = [] := q4
      refine ⟨v1, v2, v3, rfl, ?_⟩
      have h : OkS G Wx (match (if i < ρ.length then (if j < (ρ.set i (some u1)).length then (if l < ((ρ.set i (some u1)).set j (some u2)).length then some (((ρ.set i (some u1)).set j (some u2)).set l (some u3)) else none) else none) else none) with | some ρ1 => Out.nx ρ1 S1 | none => .bad) w D := h
      by_cases c1 : i < ρ.length
      · rw [if_pos c1] at h
        by_cases c2 : j < (ρ.set i (some u1)).length
        · rw [if_pos c2] at h
          by_cases c3 : l < ((ρ.set i (some u1)).set j (some u2)).length
          · rw [if_pos c3] at h
            exact h _ w' n ((((n.g.env he).set q1).set q2).set q3)
          · rw [if_neg c3] at h; exact h.elim
        · rw [if_neg c2] at h; exact h.elim
      · rw [if_neg c1] at h; exact h.elim
end
end FD

set_option Elab.async false
set_option linter.all false
set_option autoImplicit false
set_option maxRecDepth 100000
set_option maxHeartbeats 4000000
/-! FEo: x.__class__.__name__; fields as targets. -/
namespace FDn
open PySem PySem.W PySem.Calls PyProof.Rows Builtin Builtin.ObjectAttr Builtin.Getset_descriptor
section
variable {pg : Program} {wo : World} {ar : Around} {st : Shared} {fr : Frag} {Rs : Result → Shared → Prop} {cl : Addr} {ob : Obj}
theorem own_name_get {tp v : Value} (kin : fr.In st.heap) (lk : fr.lookup cl = some ob) (hty : ob.cls = .type "type") (hv : (ob.slots[2]?).join = some v) (fin : Rs (.ok (.ret v)) st) :
    codeAny (model pg wo) ar (.call (.builtin "getset_descriptor.__get__") ⟨[.builtin "type.__name__", .ref cl, tp], []⟩) Rs st := by
  obtain ⟨hh, g, dr, t, os⟩ := st
  have look : Looks (model pg wo) hh (typeOf (.ref cl)) (.type "type") := fun _ _ _ _ k q => wpAny_typeOf_ref (k _ _ (kin _ _ lk)) (by rw [hty]; exact q)
  have meta_ : Looks (model pg wo) hh (isSubtype (.type "type") (.type "type")) true := Looks.of_pure (by rw [isSubtype_type]; kernel_rfl)
  have chk := KF.slot_gs.check (M := model pg wo)
  refine codeAny_call_builtin (id := "getset_descriptor.__get__") KF.slot_gs.plain KF.entry_gs (KF.slot_gs.check _ _ _ _ _ _ _ _ ktyn_type (KF.args_gs _ _ _) ?_)
  unfold Builtin.«getset_descriptor.__get__»
  unfold descrGet
  rw [dga_obj]
  refine wpAny_bind (wpAny_pure ?_)
  unfold descrGetter descrCheckInstance
  unfold descrNameAndClass isInstance
  simp only [ktyn_owner]
  repeat lk
  refine And.intro (Code.quiet_builtin _ (by decide +kernel)) (codeAny_builtin ktyn_entry ?_)
  unfold Builtin.«type.__name__»
  dsimp only
  unfold keptObject slotAt
  refine wpAny_bind (wpAny_bind (wpAny_loadPart (kin _ _ lk) (wpAny_pure ?_)))
  rw [hv]
  exact wpAny_pure fin
end
end FDn
namespace FD
open PySem PySem.Spec PyProof.Rows L2
/-- what is told of a class's name -/
structure NmOk (K : PySem.W.Frag) (C : Addr) (nm : Str) : Prop where
  rd : PySem.W.readsIn K C (.type "type") = true
  at_ : PySem.W.findCls K (.ref C) (.type "type") "__name__" = some (.get (.builtin "getset_descriptor.__get__") (.builtin "type.__name__") (.ref C) (.type "type"))
  slot : ∃ o t, K.lookup C = some o ∧ o.cls = .type "type" ∧ (o.slots[2]?).join = some (.str nm t)
def nmB (K : PySem.W.Frag) (C : Addr) (nm : Str) : Bool := PySem.W.readsIn K C (.type "type") && ((match PySem.W.findCls K (.ref C) (.type "type") "__name__" with
    | some (.get (.builtin g) (.builtin a) (.ref C') (.type t)) => decide (g = "getset_descriptor.__get__") && (decide (a = "type.__name__") && (decide (C' = C) && decide (t = "type")))
    | _ => false) && (match K.lookup C with
    | some o => (match o.cls with
      | .type t => decide (t = "type")
      | _ => false) && (match ((o.slots[2]? : Option (Option Value)).join : Option Value) with
      | some (.str x _) => decide (x = nm)
      | _ => false)
    | none => false))
theorem nmB_ok {K : PySem.W.Frag} {C : Addr} {nm : Str} (h : nmB K C nm = true) : NmOk K C nm := by
  obtain ⟨h1, h⟩ := He.ba h
  obtain ⟨h2, h3⟩ := He.ba h
  refine ⟨h1, ?_, ?_⟩
  · split at h2
    · rename_i g a C' t e
      obtain ⟨a1, h2⟩ := He.ba h2
      obtain ⟨a2, h2⟩ := He.ba h2
      obtain ⟨a3, a4⟩ := He.ba h2
      rw [e, of_decide_eq_true a1, of_decide_eq_true a2, of_decide_eq_true a3, of_decide_eq_true a4]
    · cases h2
  · split at h3
    · rename_i o e
      obtain ⟨a1, a2⟩ := He.ba h3
      split at a1
      · rename_i t et
        split at a2
        · rename_i x tk ex
          exact ⟨o, tk, e, by rw [et, of_decide_eq_true a1], by rw [ex, of_decide_eq_true a2]⟩
        · cases a2
      · cases a1
    · cases h3
section
variable {G : Ga} {Wx : WX} {X : Cx} {O : Or} {pins : List (Addr × Obj)} {σ : L2.St} {s : Shared}
theorem fe_cname {a : E} {ea : PySem.Expr} {p1 p2 : Pos} (hK : X.K = G.K) (C : ClsOk X.K G O) (hn : ∀ c, NmOk X.K (G.ca c) (O.cnm c)) (ha : PE X ea (tE G Wx (evE O a))) (hb1 : attributeBase ea "__class__" X.env (eval ea X.env) = eval ea X.env)
    (hb2 : attributeBase (.Attribute ea "__class__" p1) "__name__" X.env (eval (.Attribute ea "__class__" p1) X.env) = eval (.Attribute ea "__class__" p1) X.env) :
    PE X (.Attribute (.Attribute ea "__class__" p1) "__name__" p2) (tE G Wx (evE O (.cname a))) := by
  refine ⟨fun pins s σ H Q I ⟨ρ, w, eH, sr, he, h⟩ => ?_⟩
  subst eH
  have h : Ok G Wx ((evE O a ρ w.S).bind fun x S1 => match insOf S1 x with | some c => .ok (.p (.str (O.cnm c))) S1 | none => .bad) w σ Q := h
  refine attr_of hb2 (attr_of hb1 (thn (ha.run pins s σ w.H (fun v H1 => ∃ x w1, w1.H = H1 ∧ SR G w1 ∧ repW G w1 x v ∧ Ok G Wx (match insOf w1.S x with | some c => .ok (.p (.str (O.cnm c))) w1.S | none => .bad) w1 σ Q) I ⟨ρ, w, rfl, sr, he, ok_seq h fun x S1 v w1 _ h1 n1 r1 => ?_⟩) fun u s1 hh => ?_))
  · have eS := n1.S
    subst eS
    exact ⟨x, w1, rfl, n1.r, r1, h1⟩
  · obtain ⟨v, H1, I1, rv, x, w1, eH, sr1, rx, h1⟩ := hh
    subst eH
    cases hi : insOf w1.S x with
    | none => rw [hi] at h1; exact h1.elim
    | some c =>
      rw [hi] at h1
      obtain ⟨ax, dx, fs, ev, ea1⟩ := ins_at sr1 rx hi
      subst ev
      obtain rfl : u = Value.ref ax := rv
      obtain ⟨mA, J, _⟩ := ins_get I1.hok ea1
      obtain ⟨od, J, _⟩ := J.look
      obtain ⟨c1, c2, c3, c4, c5⟩ := C.ins c
      have hc : (PySem.W.clsIn X.K (G.ca c)).isSome = true := (Bool.and_eq_true_iff.mp (C.kit c)).1
      have I2 : Inv X pins σ w1.H { s1 with toks := s1.toks + 1 } := I1.tok _
      refine PySem.W.get_bind I1.kIn J (PySem.W.plainGet_of c1.pg).1 (PySem.W.findObj_data hc c2 c3 c4) (PySem.W.plainGet_of c1.pg).2 (wpAny_call (PySem.W.class_get (s := { s1 with toks := s1.toks + 1 }) I2.kIn J c5 (PySem.W.handed_on rfl ?_)))
      obtain ⟨o, t, n1, n2, n3⟩ := (hn c).slot
      refine PySem.W.cls_bind I2.kIn (hn c).rd (hn c).at_ (wpAny_call (FDn.own_name_get (st := { s1 with toks := s1.toks + 1 + 1 }) (I2.tok _).kIn n1 n2 n3 (PySem.W.handed_on rfl ?_)))
      exact ⟨.str (O.cnm c), w1.H, I2.tok _, ⟨t, rfl⟩, Ok.here (x := .p (.str (O.cnm c))) h1 sr1 rfl⟩
/-! ### fields as targets -/
/-- self.f, self in the slot i -/
def gAtt (K : PySem.W.Frag) (i : Nat) (f : Str) : TG := fun v σ H Q => ∃ a C dx fs, σ[i]? = some (some (.ref a)) ∧ H a = some (.ins C dx fs) ∧ Cls K C ∧ NoAttr K C f ∧ fs.length < 1000 ∧ Q σ (upd H a (.ins C dx (putF f v fs)))
theorem pg_att {slf f : Str} {i : Nat} {p pos : Pos} (hN : X.N[i]? = some slf) (hv : Vis X.env.scope slf) (hd : (slf == ("__debug__" : Str)) = false) (hcd : (slf == ("__classdict__" : Str)) = false) : PG X (.Attribute (.Name slf p) f pos) (gAtt X.K i f) := by
  refine ⟨fun pins s σ H v u Q I r ⟨a, C, dx, fs, hs, ha, cl, na, hl, q⟩ => ?_⟩
  rw [arm_assign_Attribute]
  refine wpAny_bind (wpAny_holding (thn ((pe_var (pos := p) hN hv hd hcd).run pins s σ H (fun x H1 => x = .ref a ∧ H1 = H) I ⟨_, hs, rfl, rfl⟩) fun ov s1 hh => ?_))
  obtain ⟨x, H1, I1, rx, rfl, rfl⟩ := hh
  obtain rfl : ov = Value.ref a := rx
  refine wpAny_bind (wpAny_standAt (wpAny_bind (wpAny_holding (setattr_ok I1 ha cl na hl r fun s2 I2 => ?_))))
  exact wpAny_release ⟨σ, _, I2, q⟩
/-- several fields of one object -/
def gAtts (K : PySem.W.Frag) (i : Nat) : List Str → TGs
  | [] => gNil
  | f :: fs => gCons (gAtt K i f) (gAtts K i fs)
def putFs : List Str → List V → List (Str × V) → List (Str × V)
  | f :: fs, x :: xs, gs => putFs fs xs (putF f x gs)
  | _, _, gs => gs
/-- targets of the form self.f -/
def attNames (slf : Str) : List PySem.Expr → Option (List Str)
  | [] => some []
  | .Attribute (.Name x _) f _ :: r => if x = slf then (attNames slf r).map (f :: ·) else none
  | _ => none
theorem pgs_atts {slf : Str} {i : Nat} (hN : X.N[i]? = some slf) (hv : Vis X.env.scope slf) (hd : (slf == ("__debug__" : Str)) = false) (hcd : (slf == ("__classdict__" : Str)) = false) : ∀ {es : List PySem.Expr} {fs : List Str}, attNames slf es = some fs → PGs X es (gAtts X.K i fs) ∧ notStars es = true ∧ es.length = fs.length
  | [], fs, h => by cases h; exact ⟨pgs_nil, rfl, rfl⟩
  | e :: r, fs, h => by
    unfold attNames at h
    split at h
    · rename_i he; cases he
    · rename_i x p f pos r' he
      cases he
      split at h
      · rename_i hx
        subst hx
        cases q : attNames x r with
        | none => rw [q] at h; cases h
        | some gs =>
          rw [q] at h
          cases h
          obtain ⟨h1, h2, h3⟩ := pgs_atts hN hv hd hcd q
          exact ⟨pgs_cons (pg_att hN hv hd hcd) h1 (by rw [assign_cons rfl]; rfl), h2, by simp [h3]⟩
      · cases h
    · cases h
theorem putF_len {f : Str} {v : V} : ∀ gs : List (Str × V), (putF f v gs).length ≤ gs.length + 1
  | [] => by simp [putF]
  | (g, y) :: r => by
    unfold putF
    split
    · simp
    · have := putF_len (f := f) (v := v) r
      simp only [List.length_cons]
      omega
/-- the stores, one behind the other -/
theorem atts_run {K : PySem.W.Frag} {i : Nat} {a C dx : Addr} (cl : Cls K C) : ∀ {fs : List Str} {vs : List V} {gs : List (Str × V)} {H : Hp} {σ : L2.St} {Q : L2.St → Hp → Prop}, (∀ f ∈ fs, NoAttr K C f) → vs.length = fs.length → σ[i]? = some (some (.ref a)) → H a = some (.ins C dx gs) → gs.length + fs.length < 1000 →
    (∀ H', (∀ b, b ≠ a → H' b = H b) → H' a = some (.ins C dx (putFs fs vs gs)) → Q σ H') → gAtts K i fs vs σ H Q
  | [], [], gs, H, σ, Q, _, _, _, ha, _, q => ⟨rfl, q H (fun _ _ => rfl) ha⟩
  | [], _ :: _, _, _, _, _, _, hl, _, _, _, _ => by simp at hl
  | _ :: _, [], _, _, _, _, _, hl, _, _, _, _ => by simp at hl
  | f :: fs, v :: vs, gs, H, σ, Q, hn, hl, hs, ha, hz, q => by
    refine ⟨v, vs, rfl, a, C, dx, gs, hs, ha, cl, hn f List.mem_cons_self, by omega, ?_⟩
    have := putF_len (f := f) (v := v) gs
    refine atts_run cl (fun g hg => hn g (List.mem_cons_of_mem _ hg)) (by simpa using hl) hs (upd_same) (by simp only [List.length_cons] at hz; omega) fun H' h1 h2 => q H' (fun b hb => (h1 b hb).trans (upd_ne hb)) h2
theorem putWs_rep {w : Wd} : ∀ {fs : List Str} {xs : List W} {vs : List V} {gs : List (Str × W)} {us : List (Str × V)}, repWs G w xs vs → repWf G w gs us → repWf G w (putWs fs xs gs) (putFs fs vs us)
  | [], xs, vs, gs, us, r, q => by
    unfold putWs putFs
    exact q
  | f :: fs, [], vs, gs, us, r, q => by rw [show vs = [] from r]; exact q
  | f :: fs, x :: xs, vs, gs, us, ⟨v, t, e, r1, r2⟩, q => by subst e; exact putWs_rep (fs := fs) r2 (putF_rep r1 q)
theorem fs_setu {es : List PySem.Expr} {fs : List Str} {slf : Str} {i kt : Nat} {a : E} {ea : PySem.Expr} {pt pos : Pos} (hK : X.K = G.K) (hc : X.calm = true) (hN : X.N[i]? = some slf) (hv : Vis X.env.scope slf) (hd : (slf == ("__debug__" : Str)) = false) (hcd : (slf == ("__classdict__" : Str)) = false)
    (cl : ∀ c, Cls X.K (G.ca c)) (na : ∀ f ∈ fs, ∀ c, NoAttr X.K (G.ca c) f) (hes : attNames slf es = some fs) (ha : PE X ea (tE G Wx (evE O a))) (hs : swapsWithSole [.Tuple es kt pt] ea pos.line X.env = pure false) (hw : swappedStores [.Tuple es kt pt] ea X.env = pure none) :
    PS X (.Assign [.Tuple es kt pt] ea pos) (tS G Wx (exS O (.setu i fs a))) := by
  obtain ⟨g1, g2, g3⟩ := pgs_atts hN hv hd hcd hes
  refine PS.imp (ps_asg ha (pg_tup hc g1 (n := fs.length) (by rw [assign_len, g3]) (assign_nost g2)) hs hw) fun D σ H ⟨ρ, w, e, sr, he, h⟩ => ?_
  subst e
  refine ⟨ρ, w, rfl, sr, he, ok_out he h fun x S1 v w1 _ h1 n1 r1 => ?_⟩
  have eS := n1.S
  subst eS
  cases q1 : ρ[i]? with
  | none => rw [q1] at h1; exact h1.elim
  | some o =>
    rw [q1] at h1
    cases o with
    | none => exact h1.elim
    | some y =>
      cases y with
      | p _ => exact h1.elim
      | b _ => exact h1.elim
      | c k =>
        dsimp only at h1
        cases q2 : w1.S[k]? with
        | none => rw [q2] at h1; exact h1.elim
        | some ce =>
          rw [q2] at h1
          cases ce with
          | ins c gs =>
            dsimp only at h1
            cases q3 : tupW x with
            | none => rw [q3] at h1; exact h1.elim
            | some xs =>
              rw [q3] at h1
              dsimp only at h1
              split at h1
              · rename_i hz
                obtain ⟨z1, z2⟩ := of_decide_eq_true hz
                obtain ⟨vs, av, ev, tv, rv⟩ : ∃ vs av, v = .ref av ∧ SqT X.K w1.H av vs ∧ repWs G w1 xs vs := by
                  cases x with
                  | c _ => cases q3
                  | p p =>
                    cases p with
                    | tup ps =>
                      cases q3
                      obtain ⟨b, us, e1, e2, e3⟩ := (show rep G w1.H w1.ow _ v from r1)
                      exact ⟨us, b, e1, by rw [hK]; exact e2.sq, reps_map e3⟩
                    | _ => cases q3
                  | b p =>
                    cases p with
                    | tup ps =>
                      cases q3
                      obtain ⟨b, us, e1, e2, e3⟩ := (show rep G w1.H w1.hot _ v from r1)
                      exact ⟨us, b, e1, by rw [hK]; exact e2.sq, reps_mapb e3⟩
                    | _ => cases q3
                have e1 := n1.g.env he
                obtain ⟨u, hu, ru⟩ := e1.2 i (.c k) q1
                obtain ⟨ad, hio, eu⟩ := ru
                subst eu
                obtain ⟨dx, us, hH, rf⟩ := n1.r.cell k ad _ hio q2
                refine ⟨av, vs, ev, tv, by rw [repWs_len rv, z1], atts_run (cl c) (fun f hf => na f hf c) (by rw [repWs_len rv, z1]) hu hH (by rw [repWf_len rf]; exact z2) fun H' k1 k2 => ?_⟩
                have hk : alive w1.S k := ⟨_, q2, fun z => by cases z⟩
                have eH : H' = (w1.put k ad (.ins (G.ca c) dx (putFs fs vs us)) (.ins c (putWs fs xs gs))).H := by
                  funext b
                  by_cases hb : b = ad
                  · rw [hb, k2]; exact upd_same.symm
                  · rw [k1 b hb]; exact (upd_ne hb).symm
                have g3 := Gro.put (o := .ins (G.ca c) dx (putFs fs vs us)) (c := .ins c (putWs fs xs gs)) n1.r hio hk
                have s3 := SR.put (o := .ins (G.ca c) dx (putFs fs vs us)) (c := .ins c (putWs fs xs gs)) n1.r hio hk ⟨dx, _, upd_same, putWs_rep (g3.repWs rv) (g3.repWf rf)⟩
                rw [eH]
                exact h1 σ (w1.put k ad (.ins (G.ca c) dx (putFs fs vs us)) (.ins c (putWs fs xs gs))) ⟨rfl, s3, g3⟩ ((n1.trans ⟨rfl, s3, g3⟩).g.env he)
              · exact h1.elim
          | _ => exact h1.elim
end
end FD

set_option Elab.async false
set_option linter.all false
set_option autoImplicit false
set_option maxRecDepth 100000
set_option maxHeartbeats 4000000
/-! FEp: super().__init__(e, ..) at the head of an own class's __init__. -/
namespace FD
open PySem PySem.Spec PyProof.Rows L2 NdefX
/-- what is told of the class above: its __init__ -/
structure SupI (K : PySem.W.Frag) (G : Ga) (O : Or) (d : Nat) (D f2 : Addr) : Prop where
  mro : ∀ c, O.isSub c d = true → PySem.W.mroIn K (G.ca c) (.ref D) = some true
  at_ : ∀ c, O.isSub c d = true → PySem.W.ks_superIn K (G.ca c) D "__init__" = some (some (.ref f2))
  ty : PySem.W.typeIn K (.ref f2) = some (.type "function")
  fn : PySem.W.fnIn K f2 = true
section
variable {G : Ga} {Wx : WX} {X : Cx} {O : Or} {pins : List (Addr × Obj)} {σ : L2.St} {s : Shared}
theorem sup_own {f cc cda D : Addr} {slf : Str} {body : List Stmt} {F2 : FnI} {g d k : Nat} {pm : List Src} {as : Es} {es : List PySem.Expr} {p0 p1 ap cp : Pos} {ρ : Env} {w : Wd} {Q : VK} (S : SupOk X.prog X.K X.mg f cc cda D X.env.scope slf) (hK : X.K = G.K) (I : Inv X pins σ w.H s)
    (hfu : X.env.func = some f) (hco : X.env.code = .ref cda) (hcl : X.env.cells.lookup ("__class__" : Str) = some cc) (h0 : X.N[0]? = some slf) (hF : FnP X.prog X.w X.K X.mg X.base G F2 (O.run g) k) (hr : Room k X.A) (hg : X.A.guards = some []) (tk : Takes X Wx)
    (bd : BdOk X.prog X.w X.K X.mg X.base G F2 (lenEs as + 1) [] pm) (B : SupI X.K G O d D F2.ad) (hst : notStars es = true) (hfew : es.length < 29) (hz : es = [] → as = .nil) (ha : PA X es (tA G Wx (evEs O as))) (sr : SR G w) (he : RepE G w σ ρ) (hline : (ap.endLine == cp.line) = true)
    (h : Ok G Wx (evE O (.sup d g as pm) ρ w.S) w σ Q) :
    PySem.wpAt (model X.prog X.w) X.A (.func body X.env) (eval (.Call (.Attribute (.Call (.Name "super" p0) [] [] p1) "__init__" ap) es [] cp) X.env) (EP X pins σ Q) X.xe s := by
  have h : Ok G Wx (match ρ[0]? with
    | some (some x) => (match insOf w.S x with
      | some c => if O.isSub c d = true then (evEs O as ρ w.S).bind fun xs S1 => callW (arr pm (O.run g)) (x :: xs) S1 else .bad
      | none => .bad)
    | _ => .bad) w σ Q := h
  cases q1 : ρ[0]? with
  | none => rw [q1] at h; exact h.elim
  | some o =>
    rw [q1] at h
    cases o with
    | none => exact h.elim
    | some x =>
      dsimp only at h
      cases hi : insOf w.S x with
      | none => rw [hi] at h; exact h.elim
      | some c =>
        rw [hi] at h
        dsimp only at h
        split at h
        · rename_i hsub
          obtain ⟨u, hu, ru⟩ := he.2 0 x q1
          obtain ⟨ax, dx, fs, ev, ea⟩ := ins_at sr ru hi
          subst ev
          obtain ⟨mA, J, _⟩ := ins_get I.hok ea
          obtain ⟨od, J, _⟩ := J.look
          have hm := B.at_ c hsub
          cases hc : PySem.W.clsIn X.K (G.ca c) with
          | none => unfold PySem.W.ks_superIn at hm; rw [hc] at hm; cases hm
          | some cd =>
            unfold PySem.W.ks_superIn at hm
            rw [hc] at hm
            refine PySem.ks_wpAt_MethodCall (pl := (do return (← importBound (.Call (.Name "super" p0) [] [] p1) X.env).getD true)) ?_ (by rw [arm_eval_Call]; have q := fun ov => meth_call (o := .Call (.Name "super" p0) [] [] p1) (es := es) (kws := []) (ks := []) (m := "__init__") (env := X.env) (ov := ov) hst rfl (by show es.length + 0 < 29; omega) hline; simp only [q]; rfl)
            refine sup_base S I hfu hco hcl h0 hu J (B.mro c hsub) fun h1 e1 k1 => ?_
            have I1 : Inv X pins σ w.H { s with heap := h1 } := I.kept (t' := s.toks) k1
            obtain ⟨mA1, J1, _⟩ := ins_get I1.hok ea
            obtain ⟨od1, J1, _⟩ := J1.look
            have KX1 := I1.kIn
            obtain ⟨of, hof, hofc⟩ : ∃ of, h1.get? F2.ad = some of ∧ of.cls = .type "function" := by
              have ht' : (X.K.lookup F2.ad).map (·.cls) = some (.type "function") := B.ty
              cases z : X.K.lookup F2.ad with
              | none => rw [z] at ht'; cases ht'
              | some of => rw [z] at ht'; exact ⟨of, KX1 _ _ z, Option.some.inj ht'⟩
            refine PySem.ks_wpAny_getMethod_super e1 (PySem.W.looks_opaque KX1 S.ho) (l₀ := cd.mro) (fun A Q E s k q => wpAny_bind ((PySem.W.looks_clsIn KX1 hc) A _ E s k (wpAny_pure q))) rfl KX1 hm hof hofc (PySem.W.ks_ne KX1 J1 hc) (by decide) ?_
            -- the bound method is tracked
            have nq : w.H h1.objs.size = none := I1.hok.fresh (Nat.le_refl _)
            have I2 : Inv X pins σ (upd w.H h1.objs.size (.met F2.ad ax)) { s with heap := h1.push (PySem.W.methodObj (.ref F2.ad) (.ref ax)), toks := s.toks + 1 } :=
              I1.laid (t' := s.toks + 1) (a := h1.objs.size) (o := .met F2.ad ax) (fun b u z => Heap.get?_push_of_some _ z) (Nat.le_refl _) (show (h1.push (PySem.W.methodObj (.ref F2.ad) (.ref ax))).get? h1.objs.size = some (PySem.W.methodObj (.ref F2.ad) (.ref ax)) from Heap.get?_push_size h1 rfl)
            have n0 : Nx G w { w with H := upd w.H h1.objs.size (.met F2.ad ax) } w.S := ⟨rfl, sr.alloc nq, Gro.alloc nq⟩
            have h2 : Ok G Wx ((evEs O as ρ w.S).bind fun xs S1 => callW (arr pm (O.run g)) (x :: xs) S1) { w with H := upd w.H h1.objs.size (.met F2.ad ax) } σ Q := Ok.from h n0
            have eq0 : ({ w with H := upd w.H h1.objs.size (.met F2.ad ax) } : Wd).H h1.objs.size = some (.met F2.ad ax) := upd_same
            have no : ¬ ({ w with H := upd w.H h1.objs.size (.met F2.ad ax) } : Wd).own h1.objs.size := fun ⟨kk, z1, cz, z2, z3⟩ => by
              obtain ⟨o, z⟩ := sr.ih kk _ z1
              rw [nq] at z; cases z
            have fin : ∀ (us : List Value) (vs : List V) (xs : List W) (w2 : Wd) (s2 : Shared), Inv X pins σ w2.H s2 → Nx G { w with H := upd w.H h1.objs.size (.met F2.ad ax) } w2 w2.S → Vals vs us → repWs G w2 xs vs → xs.length = lenEs as → Ok G Wx (callW (arr pm (O.run g)) (x :: xs) w2.S) w2 σ Q →
                w2.H h1.objs.size = some (.met F2.ad ax) ∧ wpAny (model X.prog X.w) X.A (call (.ref h1.objs.size) us []) (EP X pins σ Q) X.xe s2 := fun us vs xs w2 s2 I3 n2 rv r1 l1 h3 => by
              have em := n2.g.keep _ _ eq0 no
              refine ⟨em, wpAny_call (call_met I3 em (call_at (ksn := []) (ws := []) (zs := []) (us := .ref ax :: us) (vs := .ref ax :: vs) hF hr hg tk bd I3 (.cons rfl rv) .nil ?_ rfl n2.r ?_ h3))⟩
              · rw [List.length_cons, ← rv.length, repWs_len r1, l1]
              · rw [List.append_nil]
                exact ⟨_, _, rfl, (n0.trans n2).g.repW ru, r1⟩
            cases es with
            | nil =>
              have e0 := hz rfl
              subst e0
              have h2 : Ok G Wx (callW (arr pm (O.run g)) [x] w.S) { w with H := upd w.H h1.objs.size (.met F2.ad ax) } σ Q := h2
              obtain ⟨em, q⟩ := fin [] [] [] _ _ I2 (Nx.refl n0.r) .nil rfl rfl h2
              exact callwith_met (a := ax) (g := F2.ad) rfl B.fn (PyProof.Rows.evalArgs_nil3 ⟨met_P I2 em, q⟩)
            | cons e es =>
              obtain ⟨hs1, hs2⟩ := Bool.and_eq_true_iff.mp (show (notStar e && notStars es) = true from hst)
              have hcon := star_cons (env := X.env) (es := es) hs1
              have hnone := star_none (env := X.env) (pos := cp) hs2
              have run := ha.run cp pins _ σ _ (fun vs H1 => ∃ xs w1, w1.H = H1 ∧ Nx G { w with H := upd w.H h1.objs.size (.met F2.ad ax) } w1 w1.S ∧ repWs G w1 xs vs ∧ xs.length = lenEs as ∧ Ok G Wx (callW (arr pm (O.run g)) (x :: xs) w1.S) w1 σ Q) I2
                ⟨ρ, _, rfl, n0.r, n0.g.env he, okL_seq h2 fun xs S1 vs w1 e2 h3 n1 r1 => by
                  have eS := n1.S
                  subst eS
                  exact ⟨xs, w1, rfl, n1, r1, evEs_len e2, h3⟩⟩
              rw [hcon] at run ⊢
              refine callwith_met (a := ax) (g := F2.ad) ?_ B.fn (Calls.evalArgs_plain (thn run fun us s3 hh => ?_))
              · show ((false || (backTo cp (starEach es X.env)).any (·.1)) || false) = false
                rw [hnone]; rfl
              · obtain ⟨vs, H1, I3, rv, xs, w1, eH, n1, r1, l1, h3⟩ := hh
                subst eH
                obtain ⟨em, q⟩ := fin us vs xs w1 s3 I3 n1 rv r1 l1 h3
                exact ⟨met_P I3 em, q⟩
        · exact h.elim
end
/-! ### the def -/
section
variable {P : Program} {w : World} {K : PySem.W.Frag} {mg : Str → Option Value} {base : Heap} {G : Ga}
theorem takes_ncx {N : List Str} {F : NF} {f : Addr} {A : Around} {outer : List PySem.Env} {s : Shared} {H : Hp} {E : XK} :
    Takes (ncx (L2.CX P w) P w K mg base N F f A outer s H E) (fun cls d _ H => E cls d H) :=
  takes_of rfl rfl rfl (by rfl)
theorem startF_rep {w : Wd} {N : List Str} {xs : List W} {vs : List V} (hN : vs.length < N.length) (r : repWs G w xs vs) : RepE G w (startF N vs [none]) (xs.map some ++ List.replicate (N.length - xs.length) none) := by
  have e : startF N vs [none] = L2.start N vs := by
    unfold startF L2.start
    have e1 : N.length - vs.length = (N.length - vs.length - 1) + 1 := by omega
    rw [e1, List.replicate_succ]
    rfl
  rw [e]
  exact start_rep r
theorem fnP_sup {O : Or} {f cc cda D f2 : Addr} {slf : Str} {F2 : FnI} {g d k n fx : Nat} {fs : List Fn} {name qual : Str} {params : Arguments} {scope : Scope} {dV kV doc pm ct oc : Value} {an od : Option Addr} {osl : Array (Option Value)} {N ps : List Str} {pmm : List Src} {as : Es}
    {es : List PySem.Expr} {p0 p1 ap cp pos : Pos} {rest : List Stmt} {body : List Sm} {fd : FuncData}
    (eF : fd = PySem.W.ksFn name qual params (.Expr (.Call (.Attribute (.Call (.Name "super" p0) [] [] p1) "__init__" ap) es [] cp) pos :: rest) scope dV kV doc pm an (.ref cda) ct cc)
    (lk : K.lookup f = some ⟨oc, od, .func fd, osl⟩) (hcd : PySem.W.codeIn K (.ref cda) qual = true) (S : NScope N ps ["__class__"] scope) (h0 : ps[0]? = some slf) (hsup : SupOk P K mg f cc cda D scope slf) (hGK : K = G.K)
    (hf : fs[fx]? = some ⟨ps.length, N.length, .expr (.sup d g as pmm) :: body⟩) (hF : FnP P w K mg base G F2 (runP fs O n g) (k + 1)) (bd : BdOk P w K mg base G F2 (lenEs as + 1) [] pmm) (B : SupI K G { O with run := runP fs O n } d D F2.ad)
    (hst : notStars es = true) (hfew : es.length < 29) (hz : es = [] → as = .nil) (hline : (ap.endLine == cp.line) = true)
    (hb : ∀ (A : Around) (outer : List PySem.Env) (s : Shared) (H : Hp) (E : XK), Room (k + 10) (A.deeper (envF ⟨name, qual, params, .Expr (.Call (.Attribute (.Call (.Name "super" p0) [] [] p1) "__init__" ap) es [] cp) pos :: rest, scope, [("__class__", cc)], cda⟩ f s.heap.objs.size)) → A.guards = some [] →
      PA (ncx (L2.CX P w) P w K mg base N ⟨name, qual, params, .Expr (.Call (.Attribute (.Call (.Name "super" p0) [] [] p1) "__init__" ap) es [] cp) pos :: rest, scope, [("__class__", cc)], cda⟩ f A outer s H E) es (tA G (fun cls d _ H => E cls d H) (evEs { O with run := runP fs O n } as)) ∧
      PSs (ncx (L2.CX P w) P w K mg base N ⟨name, qual, params, .Expr (.Call (.Attribute (.Call (.Name "super" p0) [] [] p1) "__init__" ap) es [] cp) pos :: rest, scope, [("__class__", cc)], cda⟩ f A outer s H E) rest (tS G (fun cls d _ H => E cls d H) (exSs { O with run := runP fs O n } body))) :
    FnP P w K mg base G ⟨f, fd, ps⟩ (runP fs O (n + 1) fx) (k + 11) := by
  intro A outer s H args Q E Gd hr hg e0 hbn hgd
  have KX : K.In s.heap := e0.mod.kin.keeps fun b o e => (e0.bs b o e).1
  have hbn : StX.Bnd (L2.CX P w) P w K mg base fd args ps A outer s H E Gd := hbn
  subst eF
  refine codeAny_call_function hr.depth (KX _ _ lk) rfl S.co S.gen rfl (PySem.W.codeRec_of KX hcd) ?_
  refine hbn _ _ _ fun s2 H2 vs us e2 un ho hx r hl gg => ?_
  have lim : s2.heap.NoLimit := e0.mod.nolimit.keeps fun b o e => (e2.bs b o e).1
  obtain ⟨xs, wd, eH, sr, rv, ok⟩ := hgd vs H2 gg
  subst eH
  refine wpAny_newFunctionEnv S.nocell (fun ⟨y, _⟩ hy => S.par y (List.of_mem_zip hy).1) (fun h1 hns hsb => ⟨lim.fresh _ hsb, ?_⟩) S.kind
  have kp : ∀ b o, s2.heap.get? b = some o → h1.get? b = some o := fun b o e => hsb.extBut b o (Nat.ne_of_lt (Heap.lt_size e)) (Heap.get?_push_of_some _ e)
  obtain ⟨cl, cld, csl, lcell⟩ := hsup.cell
  have KX2 : K.In s2.heap := e2.mod.kin.keeps fun b o e => (e2.bs b o e).1
  have hcc : s2.heap.get? cc = some _ := KX2 _ _ lcell
  have ncc : wd.H cc = none := (e2.bs cc _ (e2.mod.kin _ _ lcell)).2
  have CA : CellsAt [("__class__", cc)] ["__class__"] [none] s2.heap wd.H := by
    have one : ∀ {y : Str} {c : Addr}, ([("__class__", cc)] : List (Str × Addr)).lookup y = some c → y = "__class__" ∧ c = cc := fun {y c} h => by
      rw [List.lookup_cons] at h
      split at h
      · rename_i q
        cases h
        exact ⟨beq_iff_eq.mp q, rfl⟩
      · cases h
    refine ⟨rfl, fun y c h => ?_, fun x y c a b => (one a).1.trans (one b).1.symm, fun i y h => ?_⟩
    · rw [(one h).2]
      exact ⟨ncc, _, _, hcc, rfl⟩
    · cases i with
      | succ i => simp at h
      | zero =>
        simp at h
        subst h
        exact ⟨cc, by simp [List.lookup], fun v z => by simp at z⟩
  refine PySem.ks_codeAny_funcAt ?_
  have Iv := inv_startN (CX := L2.CX P w) (w := w) (E := E) (A := A) (f := f) (tk := s2.toks + (ps.zip us).length) (F := ⟨name, qual, params, .Expr (.Call (.Attribute (.Call (.Name "super" p0) [] [] p1) "__init__" ap) es [] cp) pos :: rest, scope, [("__class__", cc)], cda⟩) S hr.hd e2 hl r CA hns kp
  have hrX : Room (k + 10) (A.deeper (envF ⟨name, qual, params, .Expr (.Call (.Attribute (.Call (.Name "super" p0) [] [] p1) "__init__" ap) es [] cp) pos :: rest, scope, [("__class__", cc)], cda⟩ f s2.heap.objs.size)) := hr.deeper _
  obtain ⟨hpa, hpss⟩ := hb A outer s2 wd.H E hrX hg
  have tk := takes_ncx (P := P) (w := w) (K := K) (mg := mg) (base := base) (N := N) (F := ⟨name, qual, params, .Expr (.Call (.Attribute (.Call (.Name "super" p0) [] [] p1) "__init__" ap) es [] cp) pos :: rest, scope, [("__class__", cc)], cda⟩) (f := f) (A := A) (outer := outer) (s := s2) (H := wd.H) (E := E)
  have hplen : ps.length < N.length := by
    have q := congrArg List.length S.pre
    rw [List.length_take, List.length_append] at q
    simp only [List.length_cons, List.length_nil] at q
    omega
  have hN0 : N[0]? = some slf := by
    have hp : 0 < ps.length := by
      obtain ⟨z, _⟩ := List.getElem?_eq_some_iff.mp h0
      exact z
    have e1 : (N.take (ps.length + [("__class__" : Str)].length))[0]? = N[0]? := List.getElem?_take_of_lt (by omega)
    rw [S.pre, List.getElem?_append_left hp, h0] at e1
    exact e1.symm
  have hrep : RepE G wd (startF N vs [none]) (xs.map some ++ List.replicate (N.length - xs.length) none) := startF_rep (by rw [hl]; exact hplen) rv
  have hxl : xs.length = ps.length := by rw [← repWs_len rv]; exact hl
  -- the plain run
  have ok2 : OkS G (fun cls d _ H => E cls d H) (exSs { O with run := runP fs O n } (.expr (.sup d g as pmm) :: body) (xs.map some ++ List.replicate (N.length - xs.length) none) wd.S) wd { nx := fun _ H' => Q .non H', rt := Q } := by
    unfold runP at ok
    rw [hf] at ok
    dsimp only at ok
    rw [if_pos hxl] at ok
    unfold runB at ok
    cases q : exSs { O with run := runP fs O n } (.expr (.sup d g as pmm) :: body) (xs.map some ++ List.replicate (N.length - xs.length) none) wd.S with
    | nx ρ S1 => rw [q] at ok; exact fun σ' w' n' r => ok .non w' n' rfl
    | rt x S1 => rw [q] at ok; exact ok
    | bk ρ S1 => rw [q] at ok; exact ok.elim
    | ct ρ S1 => rw [q] at ok; exact ok.elim
    | ex e ρ S1 => rw [q] at ok; exact fun d σ' w' n' r rx => ok d w' n' rx
    | bad => rw [q] at ok; exact ok.elim
  show PySem.wpAt (model P w) (ncx (L2.CX P w) P w K mg base N ⟨name, qual, params, .Expr (.Call (.Attribute (.Call (.Name "super" p0) [] [] p1) "__init__" ap) es [] cp) pos :: rest, scope, [("__class__", cc)], cda⟩ f A outer s2 wd.H E).A (.func _ (ncx (L2.CX P w) P w K mg base N ⟨name, qual, params, .Expr (.Call (.Attribute (.Call (.Name "super" p0) [] [] p1) "__init__" ap) es [] cp) pos :: rest, scope, [("__class__", cc)], cda⟩ f A outer s2 wd.H E).env) (execs _ (ncx (L2.CX P w) P w K mg base N ⟨name, qual, params, .Expr (.Call (.Attribute (.Call (.Name "super" p0) [] [] p1) "__init__" ap) es [] cp) pos :: rest, scope, [("__class__", cc)], cda⟩ f A outer s2 wd.H E).env) _ _ _
  have fin : ∀ {σ' : L2.St} {H' : Hp} {s' : Shared} {v' : V} {u' : Value}, Inv (ncx (L2.CX P w) P w K mg base N ⟨name, qual, params, .Expr (.Call (.Attribute (.Call (.Name "super" p0) [] [] p1) "__init__" ap) es [] cp) pos :: rest, scope, [("__class__", cc)], cda⟩ f A outer s2 wd.H E) [] σ' H' s' → RelV v' u' → Q v' H' → CE outer P w H s Q u' s' :=
    fun {σ' H' s' v' u'} J rv' q => ⟨v', H', J.os.trans ho, J.bare, un.trans J.base, J.hok, rv', q⟩
  have exit : ∀ (e : Value) (s' : Shared), (ncx (L2.CX P w) P w K mg base N ⟨name, qual, params, .Expr (.Call (.Attribute (.Call (.Name "super" p0) [] [] p1) "__init__" ap) es [] cp) pos :: rest, scope, [("__class__", cc)], cda⟩ f A outer s2 wd.H E).xe e s' →
      wpAny (model P w) (A.deeper (envF ⟨name, qual, params, .Expr (.Call (.Attribute (.Call (.Name "super" p0) [] [] p1) "__init__" ap) es [] cp) pos :: rest, scope, [("__class__", cc)], cda⟩ f s2.heap.objs.size)) (leaving (envF ⟨name, qual, params, .Expr (.Call (.Attribute (.Call (.Name "super" p0) [] [] p1) "__init__" ap) es [] cp) pos :: rest, scope, [("__class__", cc)], cda⟩ f s2.heap.objs.size) e) (fun _ s'' => CR (L2.CX P w) outer P w H s Q E (.error e) s'') (fun e' s'' => CR (L2.CX P w) outer P w H s Q E (.error e') s'') s' :=
    fun e s' z => wpAny_mono z (fun _ s'' z => hx e s'' z) fun e' s'' z => hx e' s'' z
  generalize hX : ncx (L2.CX P w) P w K mg base N ⟨name, qual, params, .Expr (.Call (.Attribute (.Call (.Name "super" p0) [] [] p1) "__init__" ap) es [] cp) pos :: rest, scope, [("__class__", cc)], cda⟩ f A outer s2 wd.H E = X at Iv tk hpa hpss fin exit
  have eN : X.N = N := by rw [← hX]; rfl
  have eK : X.K = K := by rw [← hX]; rfl
  have eP : X.prog = P := by rw [← hX]; rfl
  have ew : X.w = w := by rw [← hX]; rfl
  have em : X.mg = mg := by rw [← hX]; rfl
  have eb : X.base = base := by rw [← hX]; rfl
  have es' : X.env.scope = scope := by rw [← hX]; rfl
  have ef : X.env.func = some f := by rw [← hX]; rfl
  have ec : X.env.code = .ref cda := by rw [← hX]; rfl
  have ecl : X.env.cells.lookup ("__class__" : Str) = some cc := by rw [← hX]; rfl
  have hrX' : Room (k + 10) X.A := by rw [← hX]; exact hrX
  have hgX : X.A.guards = some [] := by rw [← hX]; exact hg
  have hquiet : interactive X.env = false := Iv.quiet
  refine PySem.ks_wpAt_execs_cons ?_
  have hsup' : SupOk X.prog X.K X.mg f cc cda D X.env.scope slf := by rw [eP, eK, em, es']; exact hsup
  have okE : Ok G (fun cls d _ H => E cls d H) (evE { O with run := runP fs O n } (.sup d g as pmm) (xs.map some ++ List.replicate (N.length - xs.length) none) wd.S) wd (startF N vs [none]) (fun v H1 => ∃ w1, w1.H = H1 ∧ Nx G wd w1 w1.S ∧ OkS G (fun cls d _ H => E cls d H) (exSs { O with run := runP fs O n } body (xs.map some ++ List.replicate (N.length - xs.length) none) w1.S) w1 { nx := fun _ H' => Q .non H', rt := Q }) := by
    unfold exSs exS at ok2
    cases q : evE { O with run := runP fs O n } (.sup d g as pmm) (xs.map some ++ List.replicate (N.length - xs.length) none) wd.S with
    | bad => rw [q] at ok2; exact ok2.elim
    | ex e S1 =>
      rw [q] at ok2
      exact fun d w' n' rx => ok2 d (startF N vs [none]) w' n' (n'.g.env hrep) rx
    | ok x S1 =>
      rw [q] at ok2
      have ok2 : OkS G (fun cls d _ H => E cls d H) (exSs { O with run := runP fs O n } body (xs.map some ++ List.replicate (N.length - xs.length) none) S1) wd { nx := fun _ H' => Q .non H', rt := Q } := ok2
      intro v w' n' rx
      have eS := n'.S
      subst eS
      exact ⟨w', rfl, n', OkS.from ok2 n'⟩
  have run := sup_own (p0 := p0) (p1 := p1) (X := X) (Wx := fun cls d _ H => E cls d H) (body := .Expr (.Call (.Attribute (.Call (.Name "super" p0) [] [] p1) "__init__" ap) es [] cp) pos :: rest) (s := { s2 with heap := h1, toks := s2.toks + (ps.zip us).length }) (F2 := F2) (O := { O with run := runP fs O n }) hsup' (by rw [eK]; exact hGK) Iv ef ec ecl (by rw [eN]; exact hN0)
    (by rw [eP, ew, eK, em, eb]; exact hF) (hrX'.mono (by omega)) hgX tk (by rw [eP, ew, eK, em, eb]; exact bd) (by rw [eK]; exact B) hst hfew hz hpa sr hrep hline okE
  rw [eP, ew] at run
  refine PySem.ks_wpAt_Expr_any (PySem.ks_wpAt_mono run (fun v s' hh => ?_) fun e s' z => exit e s' z) hquiet rfl
  obtain ⟨v1, H1, J, _, w1, eH, n1, ok3⟩ := hh
  subst eH
  refine wpAt_of_wpAny ?_
  have r2 := hpss.run [] s' (startF N vs [none]) w1.H { nx := fun _ H' => Q .non H', rt := Q } J ⟨_, w1, rfl, n1.r, n1.g.env hrep, ok3⟩
  rw [eP, ew] at r2
  refine wpAny_mono r2 (fun fl s3 hs3 => ?_) fun e s3 z => exit e s3 z
  cases fl with
  | next =>
    obtain ⟨σ', H', J', q⟩ := hs3
    exact fin (v' := V.non) (u' := Value.none) J' rfl q
  | ret u' =>
    obtain ⟨v', σ', H', J', rv', q⟩ := hs3
    exact fin J' rv' q
  | brk => obtain ⟨_, _, _, q⟩ := hs3; exact q.elim
  | cont => obtain ⟨_, _, _, q⟩ := hs3; exact q.elim
end
end FD

set_option Elab.async false
set_option linter.all false
set_option autoImplicit false
set_option maxRecDepth 100000
set_option maxHeartbeats 2000000
/-! FEc: from the text to the little language. -/
namespace FD
open PySem PySem.Spec PyProof.Rows L2
/-- what is known of a def's surroundings -/
structure Ct where
  N : List Str
  kind : ScopeKind
  names : List (Str × NameKind)
  fn : Str → Option Nat
  cls : Str → Option (Nat × Nat)
  cl : Str → Option Nat
  stat : Str → Str → Option Nat
  cst : Str → Option P
  gcd : Str → Bool
  bd : Nat → Nat → List Str → Option (List Src)
  fld : Str → Bool
  blt : Str → Bool
  told : Str → Option (Hsx × Addr × Str × Nat)
  cellOk : Bool
  newl : Pos → Bool
  frz : Pos → Bool
def Ct.vis (ct : Ct) (x : Str) : Bool := match ct.names.lookup x with
  | some .local => true
  | some .cell => true
  | some .free => true
  | _ => false
def Ct.gl (ct : Ct) (x : Str) : Bool := match ct.names.lookup x with
  | some .globalImplicit => true
  | _ => false
def okName (x : Str) : Bool := !(x == ("__debug__" : Str)) && !(x == ("__classdict__" : Str))
/-- a block's names -/
def Ct.blk (ct : Ct) (scope : Scope) : Ct := { ct with names := (relS scope { kind := ct.kind, names := ct.names, isGenerator := false, isCoroutine := false }).names, kind := scope.kind, told := fun _ => none, cellOk := false }
def Ct.lam (ct : Ct) (scope : Scope) : Ct := { ct with names := scope.names, kind := scope.kind, told := fun _ => none, cellOk := false }
def Ct.sc (ct : Ct) : Scope := { kind := ct.kind, names := ct.names, isGenerator := false, isCoroutine := false }
def cConst : Const → E
  | .none => .cst .non
  | .bool b => .cst (.bl b)
  | .int i => .cst (.int i)
  | .str x => .cst (.str x)
  | _ => .nope
def cName (ct : Ct) (x : Str) : E := if okName x = true then
    if ct.vis x = true then (match ct.N.findIdx? (· == x) with
      | some i => .var i
      | none => .nope)
    else if ct.gl x = true then (match ct.cst x with
      | some p => .cst p
      | none => .nope) else .nope
  else .nope
def baseOk : PySem.Expr → Bool
  | .Call (.Name _ _) [] [] _ => false
  | _ => true
def notSlice : PySem.Expr → Bool
  | .Slice _ _ _ _ => false
  | _ => true
def cEs (f : PySem.Expr → E) : List PySem.Expr → Es
  | [] => .nil
  | e :: r => .cons (f e) (cEs f r)
def cKs (f : PySem.Expr → E) : List Keyword → Es
  | [] => .nil
  | ⟨_, e, _⟩ :: r => .cons (f e) (cKs f r)
def noParams (p : Arguments) : Bool := match p with
  | ⟨[], [], none, [], [], none, []⟩ => true
  | _ => false
/-- what isinstance is asked for -/
def cCl (ct : Ct) : PySem.Expr → Option Cl
  | .Name x _ => if okName x = true ∧ ct.gl x = true then (match ct.cl x with
      | some c => some (.own c)
      | none => if ct.blt x = true then (if x = "int" then some (.ty "int") else if x = "bool" then some (.ty "bool") else if x = "str" then some (.ty "str") else if x = "tuple" then some (.ty "tuple") else if x = "list" then some (.ty "list") else if x = "dict" then some (.ty "dict") else none) else none)
    else none
  | _ => none
def cCls (ct : Ct) : List PySem.Expr → Option (List Cl)
  | [] => some []
  | e :: r => match cCl ct e, cCls ct r with
    | some c, some cs => if notStar e = true then some (c :: cs) else none
    | _, _ => none
/-- built-in functions by name -/
def cBlt (ct : Ct) (f : PySem.Expr → E) (x : Str) (es : List PySem.Expr) : E := if ct.blt x = true then match es with
    | [a] => if notStar a = true then
        if x = "len" then .pri .len (.cons (f a) .nil) else if x = "int" then .pri .int (.cons (f a) .nil) else if x = "repr" then .pri .repr (.cons (f a) .nil)
        else if x = "tuple" then .pri .tuple (.cons (f a) .nil) else if x = "list" then .pri .list (.cons (f a) .nil)
        else if x = "bool" then .boo (f a) else if x = "abs" then .one .abs (f a) else if x = "str" then .one .str (f a) else .nope
      else .nope
    | [a, b] => if x = "isinstance" ∧ notStar a = true then (match b with
        | .Tuple cs _ _ => (match cCls ct cs with
          | some l => if l.length ≤ 100 ∧ l ≠ [] then .isi (f a) l else .nope
          | none => .nope)
        | _ => (match cCl ct b with
          | some c => .isi (f a) [c]
          | none => .nope)) else .nope
    | _ => .nope
  else .nope
def cCall (ct : Ct) (f : PySem.Expr → E) (x : Str) (es : List PySem.Expr) (kws : List Keyword) : E := if okName x = true ∧ ct.gl x = true ∧ notStars es = true then match kwNames kws with
    | some ks => (match ct.fn x with
      | some g => (match ct.bd g es.length ks with
        | some pm => .call g (cEs f es) (cKs f kws) pm
        | none => .nope)
      | none => (match ct.cls x with
        | some (c, g) => (match ct.bd g (es.length + 1) ks with
          | some pm => .make c g (cEs f es) (cKs f kws) pm
          | none => .nope)
        | none => (match kws with
          | [] => if ct.gcd x = true then (match es with
              | [a, b] => .pri .gcd (.cons (f a) (.cons (f b) .nil))
              | _ => .nope) else cBlt ct f x es
          | _ => .nope)))
    | none => .nope
  else .nope
def cMeth (ct : Ct) (f : PySem.Expr → E) (o : PySem.Expr) (m : Str) (es : List PySem.Expr) (kws : List Keyword) (apos pos : Pos) : E := if notStars es = true ∧ es.length + kws.length < 29 ∧ (apos.endLine == pos.line) = true ∧ baseOk o = true then match kwNames kws with
    | some ks => (match (match o with
        | .Name x _ => if okName x = true ∧ ct.gl x = true then ct.stat x m else none
        | _ => none) with
      | some g => (match ct.bd g es.length ks with
        | some pm => .call g (cEs f es) (cKs f kws) pm
        | none => .nope)
      | none => (match kws, es with
        | [], [b] => if m = "append" then .bm .append (f o) (.cons (f b) .nil) else .meth (f o) m (cEs f es) (cKs f kws) ks
        | _, _ => .meth (f o) m (cEs f es) (cKs f kws) ks))
    | none => .nope
  else .nope
def Ct.loc (ct : Ct) (x : Str) : Bool := match ct.names.lookup x with
  | some .local => true
  | some .cell => ct.cellOk
  | _ => false
def cG (ct : Ct) : Nat → PySem.Expr → Option Tg
  | 0, _ => none
  | n + 1, e => match e with
    | .Name x _ => if ct.loc x = true then (match ct.N.findIdx? (· == x) with
      | some i => some (.nm i)
      | none => none) else none
    | .Tuple es _ _ => if notStars es = true then (go n es).map Tg.tup else none
    | _ => none
where
  go : Nat → List PySem.Expr → Option Tgs
  | 0, _ => none
  | _ + 1, [] => some .nil
  | n + 1, e :: es => match cG ct n e, go n es with
    | some t, some ts => some (.cons t ts)
    | _, _ => none
def isSet : PySem.Expr → Bool
  | .Set _ _ _ => true
  | _ => false
def cI (ct : Ct) (f : PySem.Expr → E) (e : PySem.Expr) : It := match e with
  | .Call (.Name x _) es [] _ => if x = "range" ∧ ct.gl x = true ∧ ct.blt x = true ∧ notStars es = true then (match es with
      | [a] => .rng (f a)
      | [a, b] => .rng2 (f a) (f b)
      | _ => .seq .nope) else .seq (f e)
  | _ => .seq (f e)
/-- a block's own names, with their places -/
def ownOf (N : List Str) : List (Str × NameKind) → List (Str × Nat)
  | [] => []
  | (x, k) :: r => match k, N.findIdx? (· == x) with
    | .local, some i => (x, i) :: ownOf N r
    | .cell, some i => (x, i) :: ownOf N r
    | _, _ => ownOf N r
def blkB (ct : Ct) (scope : Scope) : Bool :=
  decide (scope.kind = .function) && scope.names.all (fun y => decide (scope.names.lookup y.1 = some y.2) && (!decide (y.2 = .free) || decide (ct.names.lookup y.1 = some .cell) || decide (ct.names.lookup y.1 = some .free)))
/-- a comprehension's parts -/
def cLc (ct : Ct) (n : Nat) (fE : Ct → PySem.Expr → E) (fT : Ct → PySem.Expr → T) (elt tg iter : PySem.Expr) (ifs : List PySem.Expr) (scope : Scope) : Option (It × Tg × T × E) :=
  if blkB ct scope = true ∧ isSet iter = false then (match cG (ct.blk scope) n tg with
    | some t => if (ixT t).all (fun i => ((ownOf ct.N scope.names).map (·.2)).contains i) = true then (match ifs with
        | [] => some (cI ct (fE ct) iter, t, .tt, fE (ct.blk scope) elt)
        | [c] => some (cI ct (fE ct) iter, t, fT (ct.blk scope) c, fE (ct.blk scope) elt)
        | _ => none) else none
    | none => none) else none
/-- a slice's bound -/
def cOpt (f : PySem.Expr → E) : Option PySem.Expr → E
  | none => .cst .non
  | some e => .ixi (f e)
/-- an f-string's part -/
def cPart (f : PySem.Expr → E) : PySem.Expr → Option E
  | .Constant (.str x) _ _ => some (.cst (.str x))
  | .FormattedValue e c none _ => if c = -1 then some (.pri .fmt (.cons (f e) .nil)) else none
  | _ => none
def cParts (f : PySem.Expr → E) : List PySem.Expr → Option (List E)
  | [] => some []
  | e :: r => match cPart f e, cParts f r with
    | some a, some as => some (a :: as)
    | _, _ => none
def isEq : CmpOp → Option Bool
  | .Eq => some false
  | .NotEq => some true
  | _ => none
mutual
def cE : Nat → Ct → PySem.Expr → E
  | 0, _, _ => .nope
  | n + 1, ct, e => if ct.frz e.pos = true then .frz (cX n ct e) else cX n ct e
def cX : Nat → Ct → PySem.Expr → E
  | 0, _, _ => .nope
  | n + 1, ct, e => match e with
    | .Name x _ => cName ct x
    | .Constant c _ _ => cConst c
    | .Tuple es _ _ => if notStars es = true then .tup (cEs (cE n ct) es) else .nope
    | .List es pos => if notStars es = true then (if ct.newl pos = true then .newl (cEs (cE n ct) es) else .lst (cEs (cE n ct) es)) else .nope
    | .BinOp a op b _ => .opr op (cE n ct a) (cE n ct b)
    | .UnaryOp .Not a _ => .not (cE n ct a)
    | .UnaryOp .USub a _ => .one .neg (cE n ct a)
    | .BoolOp op (a :: b :: rest) pos => (match op, rest with
      | .And, [] => .and (cE n ct a) (cE n ct b)
      | .Or, [] => .or (cE n ct a) (cE n ct b)
      | .And, _ :: _ => .and (cE n ct a) (cX n ct (.BoolOp .And (b :: rest) pos))
      | .Or, _ :: _ => .or (cE n ct a) (cX n ct (.BoolOp .Or (b :: rest) pos)))
    | .IfExp t a b _ => .ife (cT n ct t) (cE n ct a) (cE n ct b)
    | .Compare a [op] [b] _ => (match isEq op with
      | some neg => .eqo neg (cE n ct a) (cE n ct b)
      | none => if behindInMarks op b = false then .cmp op (cE n ct a) (cE n ct b) else .nope)
    | .Compare a [o1, o2] [b, c] _ => if lastMarks [o1, o2] [b, c] = false then .chn o1 o2 (cE n ct a) (cE n ct b) (cE n ct c) else .nope
    | .Attribute (.Attribute a k kp) m _ => if baseOk a = true ∧ k = "__class__" ∧ m = "__name__" then .cname (cE n ct a) else if ct.fld m = true then .att (cE n ct (.Attribute a k kp)) m else .nope
    | .Attribute a f _ => if baseOk a = true ∧ ct.fld f = true then .att (cE n ct a) f else .nope
    | .Subscript a (.Slice lo hi none _) _ => .slc (cE n ct a) (cOpt (cE n ct) lo) (cOpt (cE n ct) hi)
    | .JoinedStr (v1 :: v2 :: rest) _ => (match cParts (cE n ct) (v1 :: v2 :: rest) with
      | some as => cJs (.cst (.str Str.empty)) as
      | none => .nope)
    | .Subscript a i _ => if notSlice i = true then .sub (cE n ct a) (cE n ct i) else .nope
    | .ListComp elt [⟨tg, iter, ifs, 0⟩] scope _ => (match cLc ct n (fun c e => cE n c e) (fun c e => cT n c e) elt tg iter ifs scope with
      | some (it, t, ts, a) => .comp it t ((ownOf ct.N scope.names).map (·.2)) ts a
      | none => .nope)
    | .Call (.Name x _) [.Lambda params body scope _] [] _ => (match ct.told x with
      | some (hs, tb, q, k) => if noParams params = true ∧ LamX.lamSB ct.sc scope = true then .lamc (stripH hs) tb q k (cE n (ct.lam scope) body) else .nope
      | none => .nope)
    | .Call (.Name x _) es kws _ => cCall ct (cE n ct) x es kws
    | .Call (.Attribute o m apos) es kws pos => cMeth ct (cE n ct) o m es kws apos pos
    | _ => .nope
def cT : Nat → Ct → PySem.Expr → T
  | 0, _, _ => .e .nope
  | n + 1, ct, e => match e with
    | .UnaryOp .Not a _ => .not (cT n ct a)
    | .BoolOp op (a :: b :: rest) pos => (match op, rest with
      | .And, [] => .and (cT n ct a) (cT n ct b)
      | .Or, [] => .or (cT n ct a) (cT n ct b)
      | .And, _ :: _ => .and (cT n ct a) (cT n ct (.BoolOp .And (b :: rest) pos))
      | .Or, _ :: _ => .or (cT n ct a) (cT n ct (.BoolOp .Or (b :: rest) pos)))
    | .Compare a [op] [b] _ => (match isEq op with
      | some neg => .eqo neg (cE n ct a) (cE n ct b)
      | none => if behindInMarks op b = false then .cmp op (cE n ct a) (cE n ct b) else .e .nope)
    | .Compare a [o1, o2] [b, c] _ => if lastMarks [o1, o2] [b, c] = false then .chn o1 o2 (cE n ct a) (cE n ct b) (cE n ct c) else .e .nope
    | .IfExp _ _ _ _ => .e .nope
    | .BoolOp _ _ _ => .e .nope
    | .UnaryOp _ _ _ => .e (cE n ct e)
    | .Compare _ _ _ _ => .e .nope
    | _ => .e (cE n ct e)
end
end FD

set_option Elab.async false
set_option linter.all false
set_option autoImplicit false
set_option maxRecDepth 100000
set_option maxHeartbeats 4000000
/-! FEm: a comprehension's block. -/
namespace FD
open PySem PySem.Spec PyProof.Rows L2
theorem own_ix {N : List Str} : ∀ {l : List (Str × NameKind)} {p : Str × Nat}, p ∈ ownOf N l → N[p.2]? = some p.1
  | [], p, h => by cases h
  | (x, k) :: r, p, h => by
    unfold ownOf at h
    split at h
    · rename_i i hi
      rcases List.mem_cons.mp h with e | h
      · subst e
        obtain ⟨h1, h2, _⟩ := List.findIdx?_eq_some_iff_getElem.mp hi
        show N[i]? = some x
        rw [List.getElem?_eq_getElem h1, eq_of_beq h2]
      · exact own_ix h
    · rename_i i hi
      rcases List.mem_cons.mp h with e | h
      · subst e
        obtain ⟨h1, h2, _⟩ := List.findIdx?_eq_some_iff_getElem.mp hi
        show N[i]? = some x
        rw [List.getElem?_eq_getElem h1, eq_of_beq h2]
      · exact own_ix h
    · exact own_ix h
theorem own_all {N : List Str} : ∀ {l : List (Str × NameKind)} {y : Str × NameKind}, y ∈ l → (y.2 = .local ∨ y.2 = .cell) → y.1 ∈ (ownOf N l).map (·.1) ∨ y.1 ∉ N
  | [], y, h, _ => by cases h
  | (x, k) :: r, y, h, hk => by
    by_cases hN : y.1 ∈ N
    · left
      rcases List.mem_cons.mp h with e | h
      · subst e
        have hi : ∃ i, N.findIdx? (· == x) = some i := by
          cases q : N.findIdx? (· == x) with
          | some i => exact ⟨i, rfl⟩
          | none =>
            have z := List.findIdx?_eq_none_iff.mp q x hN
            simp at z
        obtain ⟨i, hi⟩ := hi
        unfold ownOf
        rcases hk with hk | hk
        · cases (show k = .local from hk)
          rw [hi]
          simp
        · cases (show k = .cell from hk)
          rw [hi]
          simp
      · rcases own_all (N := N) h hk with z | z
        · unfold ownOf
          split
          · exact List.mem_cons_of_mem _ z
          · exact List.mem_cons_of_mem _ z
          · exact z
        · exact absurd hN z
    · exact .inr hN
theorem blk_ok {ct : Ct} {scope sc : Scope} (hn : sc.names = ct.names) (h : blkB ct scope = true) : BlkOk ct.N sc scope (ownOf ct.N scope.names) := by
  unfold blkB at h
  rw [Bool.and_eq_true, List.all_eq_true] at h
  obtain ⟨h1, h2⟩ := h
  refine ⟨of_decide_eq_true h1, fun y hy => ?_, fun p hp => own_ix hp, fun y hy e => ?_, fun y hy e => own_all hy e⟩
  · have z := h2 y hy
    rw [Bool.and_eq_true] at z
    exact of_decide_eq_true z.1
  · have z := h2 y hy
    simp only [Bool.and_eq_true, Bool.or_eq_true, Bool.not_eq_true', decide_eq_true_eq, decide_eq_false_iff_not] at z
    rw [hn]
    rcases z.2 with (z | z) | z
    · exact absurd e z
    · exact .inl z
    · exact .inr z
end FD

set_option Elab.async false
set_option linter.all false
set_option autoImplicit false
set_option maxRecDepth 100000
set_option maxHeartbeats 2000000
/-! FEd: the compiled expression means what the text means. -/
namespace FD
open PySem PySem.Spec PyProof.Rows L2
structure CtOk0 (ct : Ct) (X : Cx) (G : Ga) (O : Or) (fi : Nat → FnI) (k : Nat) (Wx : WX) : Prop where
  N : X.N = ct.N
  nd : ct.N.Nodup
  nm : X.env.scope.names = ct.names
  kind : X.env.scope.kind = ct.kind
  hK : X.K = G.K
  calm : X.calm = true
  gd : X.A.guards = some []
  room : Room (k + 8) X.A
  tk : Takes X Wx
  C : ClsOk X.K G O
  M : MethsOk X G O fi k
  ops : OpsOk X.K G O
  cl : ∀ c, Cls X.K (G.ca c)
  noat : ∀ f, ct.fld f = true → ∀ c, NoAttr X.K (G.ca c) f
  fnk : ∀ x f, ct.fn x = some f → X.mg x = some (.ref (fi f).ad) ∧ PySem.W.keepIn X.K (.ref (fi f).ad) = true ∧ FnP X.prog X.w X.K X.mg X.base G (fi f) (O.run f) k
  bdk : ∀ f np ks pm, ct.bd f np ks = some pm → BdOk X.prog X.w X.K X.mg X.base G (fi f) np ks pm
  mkk : ∀ x c f, ct.cls x = some (c, f) → X.mg x = some (.ref (G.ca c)) ∧ Mk X.K (G.ca c) (fi f).ad ∧ FnP X.prog X.w X.K X.mg X.base G (fi f) (O.run f) k
  clk : ∀ x c, ct.cl x = some c → X.mg x = some (.ref (G.ca c))
  statk : ∀ x m f, ct.stat x m = some f → ∃ C mc pr, X.mg x = some (.ref C) ∧ Stat X.K C mc m pr (fi f).ad ∧ FnP X.prog X.w X.K X.mg X.base G (fi f) (O.run f) k
  cstk : ∀ x p, ct.cst x = some p → ∃ u v, X.mg x = some u ∧ RelV v u ∧ ∀ H ow, rep G H ow p v
  gcdk : ∀ x, ct.gcd x = true → X.mg x = some (.builtin "math.gcd")
  bltk : ∀ x, ct.blt x = true → X.mg x = none
  nmk : ∀ c, NmOk X.K (G.ca c) (O.cnm c)
def ToldOk (ct : Ct) (X : Cx) (G : Ga) (O : Or) (fi : Nat → FnI) (k : Nat) (Wx : WX) : Prop := ∀ x hs tb q kc, ct.told x = some (hs, tb, q, kc) → ∀ (params : Arguments) (body : PySem.Expr) (scope : Scope) (p lpos pos : Pos) (e : E), noParams params = true → LamX.lamSB ct.sc scope = true →
  (∀ (X' : Cx) (Wx' : WX), CtOk0 (ct.lam scope) X' G O fi k Wx' → PE X' body (tE G Wx' (evE O e))) → PE X (.Call (.Name x p) [.Lambda params body scope lpos] [] pos) (tE G Wx (evE O (.lamc (stripH hs) tb q kc e)))
structure CtOk (ct : Ct) (X : Cx) (G : Ga) (O : Or) (fi : Nat → FnI) (k : Nat) (Wx : WX) : Prop extends CtOk0 ct X G O fi k Wx where
  told : ToldOk ct X G O fi k Wx
section
variable {ct : Ct} {X : Cx} {G : Ga} {O : Or} {fi : Nat → FnI} {k : Nat} {Wx : WX}
theorem CtOk0.vis (c : CtOk0 ct X G O fi k Wx) {x : Str} (h : ct.vis x = true) : Vis X.env.scope x := by
  unfold Ct.vis at h
  unfold Vis
  rw [c.nm]
  split at h
  · rename_i e; exact .inl e
  · rename_i e; exact .inr (.inl e)
  · rename_i e; exact .inr (.inr e)
  · cases h
theorem CtOk0.gl (c : CtOk0 ct X G O fi k Wx) {x : Str} (h : ct.gl x = true) : Gl X x := by
  unfold Ct.gl at h
  show X.env.scope.names.lookup x = _
  rw [c.nm]
  split at h
  · assumption
  · cases h
theorem okName_of {x : Str} (h : okName x = true) : (x == ("__debug__" : Str)) = false ∧ (x == ("__classdict__" : Str)) = false := by
  unfold okName at h
  simpa [Bool.and_eq_true, Bool.not_eq_true'] using h
theorem base_ok {o : PySem.Expr} (h : baseOk o = true) (m : Str) (env : PySem.Env) (whole : Sem Value) : attributeBase o m env whole = whole := by
  unfold baseOk at h
  unfold attributeBase
  split at h
  · cases h
  · rename_i hne
    split
    · rename_i id p q
      exact absurd rfl (hne id p q)
    · rfl
theorem slice_ok {e : PySem.Expr} (h : notSlice e = true) : PlainIx e := by
  intro o i
  cases e <;> first | rfl | (cases h)
theorem find_ok {N : List Str} {x : Str} {i : Nat} (h : N.findIdx? (· == x) = some i) : N[i]? = some x := by
  obtain ⟨h1, h2, _⟩ := List.findIdx?_eq_some_iff_getElem.mp h
  rw [List.getElem?_eq_getElem h1, eq_of_beq h2]
theorem s_const (O : Or) (c : Const) (j : Nat) (pos : Pos) : PE X (.Constant c j pos) (tE G Wx (evE O (cConst c))) := by
  cases c with
  | none => exact fe_flat rfl pe_non O
  | bool b => exact fe_flat rfl pe_bl O
  | int i => exact fe_flat rfl pe_int O
  | str x => exact fe_flat rfl pe_str O
  | _ => exact fe_nope O
theorem fe_glob {x : Str} {p : P} {u : Value} {v : V} {pos : Pos} (hg : Gl X x) (hm : X.mg x = some u) (r : RelV v u) (hp : ∀ H ow, rep G H ow p v) (hd : (x == ("__debug__" : Str)) = false) (O : Or) : PE X (.Name x pos) (tE G Wx (evE O (.cst p))) :=
  PE.imp (pe_glob hg hm r hd) fun σ H Q ⟨ρ, w, e, s, he, h⟩ => by
    subst e
    exact Ok.here (x := .p p) h s (hp _ _)
theorem s_name (c : CtOk0 ct X G O fi k Wx) (x : Str) (pos : Pos) : PE X (.Name x pos) (tE G Wx (evE O (cName ct x))) := by
  unfold cName
  split
  · rename_i hn
    obtain ⟨h1, h2⟩ := okName_of hn
    split
    · rename_i hv
      split
      · rename_i i hi
        exact fe_var (by rw [c.N]; exact find_ok hi) (c.vis hv) h1 h2 O
      · exact fe_nope O
    · split
      · rename_i hgl
        split
        · rename_i p hp
          obtain ⟨u, v, e1, e2, e3⟩ := c.cstk x p hp
          exact fe_glob (c.gl hgl) e1 e2 e3 h1 O
        · exact fe_nope O
      · exact fe_nope O
  · exact fe_nope O
variable {f : PySem.Expr → E}
theorem s_es (hf : ∀ e, PE X e (tE G Wx (evE O (f e)))) : ∀ es : List PySem.Expr, notStars es = true → PA X es (tA G Wx (evEs O (cEs f es)))
  | [], _ => fa_nil
  | e :: es, h => by
    obtain ⟨h1, h2⟩ := Bool.and_eq_true_iff.mp (show (notStar e && notStars es) = true from h)
    exact fa_cons h1 (hf e) (s_es hf es h2)
theorem s_ks (hf : ∀ e, PE X e (tE G Wx (evE O (f e)))) : ∀ kws : List Keyword, PK X kws (tA G Wx (evEs O (cKs f kws)))
  | [] => fk_nil
  | ⟨_, e, _⟩ :: r => fk_cons (hf e) (s_ks hf r)
theorem cEs_len : ∀ es : List PySem.Expr, lenEs (cEs f es) = es.length
  | [] => rfl
  | _ :: es => by show lenEs (cEs f es) + 1 = _; rw [cEs_len es]; rfl
theorem cKs_len : ∀ {kws : List Keyword} {ks : List Str}, kwNames kws = some ks → lenEs (cKs f kws) = ks.length
  | [], ks, h => by cases h; rfl
  | ⟨none, _, _⟩ :: r, ks, h => by cases h
  | ⟨some n, e, p⟩ :: r, ks, h => by
    have h : (kwNames r).map (n :: ·) = some ks := h
    cases q : kwNames r with
    | none => rw [q] at h; cases h
    | some ks' =>
      rw [q] at h
      cases h
      show lenEs (cKs f r) + 1 = ks'.length + 1
      rw [cKs_len q]
theorem cEs_nil {es : List PySem.Expr} (h : es = []) : cEs f es = .nil := by rw [h]; rfl
end
end FD

namespace FD
open PySem PySem.Spec PyProof.Rows L2
section
variable {ct : Ct} {X : Cx} {G : Ga} {O : Or} {fi : Nat → FnI} {k : Nat} {Wx : WX}
theorem CtOk0.loc {ct : Ct} (c : CtOk0 ct X G O fi k Wx) {x : Str} (h : ct.loc x = true) : L2.Loc X.env.scope x := by
  unfold Ct.loc at h
  unfold L2.Loc
  rw [c.nm]
  split at h
  · rename_i e; exact .inl e
  · rename_i e; exact .inr e
  · cases h
theorem tgs_len {ct : Ct} : ∀ (n : Nat) (es : List PySem.Expr) (ts : Tgs), cG.go ct n es = some ts → es.length = lenTs ts
  | 0, _, _, h => by cases h
  | _ + 1, [], ts, h => by cases h; rfl
  | n + 1, e :: es, ts, h => by
    have h : (match cG ct n e, cG.go ct n es with | some t, some ts => some (Tgs.cons t ts) | _, _ => none) = some ts := h
    cases h1 : cG ct n e with
    | none => rw [h1] at h; cases h
    | some t =>
      cases h2 : cG.go ct n es with
      | none => rw [h1, h2] at h; cases h
      | some us =>
        rw [h1, h2] at h
        cases h
        show es.length + 1 = lenTs us + 1
        rw [tgs_len n es us h2]
theorem s_tg {ct : Ct} (c : CtOk0 ct X G O fi k Wx) (fnl : ∀ x, ct.loc x = true → X.fn x = true ∨ X.env.scope.names.lookup x = some .local) : ∀ n, (∀ e t, cG ct n e = some t → PG X e (tG G t) ∧ notStar e = true) ∧ (∀ es ts, cG.go ct n es = some ts → notStars es = true → PGs X es (tGs G ts))
  | 0 => ⟨fun e t h => (by cases h), fun es ts h _ => (by cases h)⟩
  | n + 1 => by
    obtain ⟨i1, i2⟩ := s_tg c fnl n
    refine ⟨fun e t h => ?_, fun es ts h hs => ?_⟩
    · cases e with
      | Name x pos =>
        have h : (if ct.loc x = true then (match ct.N.findIdx? (· == x) with | some i => some (Tg.nm i) | none => none) else none) = some t := h
        split at h
        · rename_i hl
          split at h
          · rename_i i hi
            cases h
            exact ⟨fg_nm (by rw [c.N]; exact c.nd) (by rw [c.N]; exact find_ok hi) (c.loc hl) (fnl x hl), rfl⟩
          · cases h
        · cases h
      | Tuple es j pos =>
        have h : (if notStars es = true then (cG.go ct n es).map Tg.tup else none) = some t := h
        split at h
        · rename_i hs
          cases q : cG.go ct n es with
          | none => rw [q] at h; cases h
          | some ts =>
            rw [q] at h
            cases h
            exact ⟨fg_tup c.hK c.calm hs (tgs_len n es ts q) (i2 es ts q hs), rfl⟩
        · cases h
      | _ => cases h
    · cases es with
      | nil => cases h; exact fgs_nil
      | cons e es =>
        have h : (match cG ct n e, cG.go ct n es with | some t, some ts => some (Tgs.cons t ts) | _, _ => none) = some ts := h
        obtain ⟨s1, s2⟩ := Bool.and_eq_true_iff.mp (show (notStar e && notStars es) = true from hs)
        cases h1 : cG ct n e with
        | none => rw [h1] at h; cases h
        | some t =>
          cases h2 : cG.go ct n es with
          | none => rw [h1, h2] at h; cases h
          | some us =>
            rw [h1, h2] at h
            cases h
            exact fgs_cons s1 (i1 e t h1).1 (i2 es us h2 s2)
theorem fi_nope {tg e : PySem.Expr} : PI X tg e (tI G Wx (evIt O (.seq .nope))) := ⟨fun pins s σ H Rr I ⟨ρ, w, eH, sr, he, h⟩ => by
  have h : OkI G Wx ((.bad : R W).bind fun x S1 => R.of (itemsW x) S1) w σ Rr := h
  exact h.elim⟩
theorem s_it {ct : Ct} {f : PySem.Expr → E} (c : CtOk0 ct X G O fi k Wx) (hf : ∀ e, PE X e (tE G Wx (evE O (f e)))) (tg e : PySem.Expr) : PI X tg e (tI G Wx (evIt O (cI ct f e))) := by
  unfold cI
  split
  · rename_i x p es pos
    split
    · rename_i h
      obtain ⟨h1, h2, h3, h4⟩ := h
      subst h1
      split
      · rename_i a
        obtain ⟨s1, _⟩ := Bool.and_eq_true_iff.mp (show (notStar a && notStars []) = true from h4)
        exact fi_rng (c.gl h2) (c.bltk _ h3) s1 (hf a)
      · rename_i a b
        obtain ⟨s1, s2⟩ := Bool.and_eq_true_iff.mp (show (notStar a && notStars [b]) = true from h4)
        obtain ⟨s2, _⟩ := Bool.and_eq_true_iff.mp (show (notStar b && notStars []) = true from s2)
        exact fi_rng2 (c.gl h2) (c.bltk _ h3) s1 s2 (hf a) (hf b)
      · exact fi_nope
    · exact fi_seq c.hK (hf _)
  · exact fi_seq c.hK (hf _)
theorem set_ok {e : PySem.Expr} (h : isSet e = false) (env : PySem.Env) (x : Value) : foldedSetIterable e env x = pure x := by
  cases e <;> first | rfl | (cases h)
theorem blk_ct (c : CtOk0 ct X G O fi k Wx) {scope : Scope} (s : Shared) (H : Hp) (C : Addr) (cl : List (Str × Addr)) (fp : List Addr) :
    CtOk (ct.blk scope) (X.blk s H scope (compEnvC scope cl C X.env) fp) G O fi k (fun _ _ _ _ => False) where
  N := c.N
  nd := c.nd
  nm := by
    show (relS scope X.env.scope).names = _
    unfold relS Ct.blk relS
    dsimp only
    rw [c.nm, c.kind]
  kind := rfl
  hK := c.hK
  calm := c.calm
  gd := c.gd
  room := c.room
  tk := takes_none5
  C := c.C
  M := c.M
  ops := c.ops
  cl := c.cl
  noat := c.noat
  fnk := c.fnk
  bdk := c.bdk
  mkk := c.mkk
  clk := c.clk
  statk := c.statk
  cstk := c.cstk
  gcdk := c.gcdk
  bltk := c.bltk
  nmk := c.nmk
  told := fun x hs tb q kc h => by cases h
end
end FD

set_option Elab.async false
set_option linter.all false
set_option autoImplicit false
set_option maxRecDepth 100000
set_option maxHeartbeats 4000000
/-! FEe: calls; the compiled expression means what the text means. -/
namespace FD
open PySem PySem.Spec PyProof.Rows L2
section
variable {ct : Ct} {X : Cx} {G : Ga} {O : Or} {fi : Nat → FnI} {k : Nat} {Wx : WX} {f : PySem.Expr → E}
theorem s_cl (c : CtOk0 ct X G O fi k Wx) {e : PySem.Expr} {cl : Cl} (h : cCl ct e = some cl) : PE X e (tC (clV G cl)) := by
  cases e with
  | Name x pos =>
    unfold cCl at h
    dsimp only at h
    split at h
    · rename_i h0
      obtain ⟨hn, hg⟩ := h0
      obtain ⟨h1, h2⟩ := okName_of hn
      split at h
      · rename_i d hd
        cases h
        exact pe_glob (c.gl hg) (c.clk x d hd) rfl h1
      · split at h
        · rename_i hb
          have hm := c.bltk x hb
          have hg := c.gl hg
          split at h
          · rename_i e; subst e; cases h; exact pe_bltn hg hm (by decide +kernel : bootBuiltins "int" = some (.type "int")) rfl
          · split at h
            · rename_i e; subst e; cases h; exact pe_bltn hg hm (by decide +kernel : bootBuiltins "bool" = some (.type "bool")) rfl
            · split at h
              · rename_i e; subst e; cases h; exact pe_bltn hg hm (by decide +kernel : bootBuiltins "str" = some (.type "str")) rfl
              · split at h
                · rename_i e; subst e; cases h; exact pe_bltn hg hm (by decide +kernel : bootBuiltins "tuple" = some (.type "tuple")) rfl
                · split at h
                  · rename_i e; subst e; cases h; exact pe_bltn hg hm (by decide +kernel : bootBuiltins "list" = some (.type "list")) rfl
                  · split at h
                    · rename_i e; subst e; cases h; exact pe_bltn hg hm (by decide +kernel : bootBuiltins "dict" = some (.type "dict")) rfl
                    · cases h
        · cases h
    · cases h
  | _ => cases h
theorem s_cls (c : CtOk0 ct X G O fi k Wx) : ∀ {es : List PySem.Expr} {cs : List Cl}, cCls ct es = some cs → PA X es (tCls G cs)
  | [], cs, h => by cases h; exact cls_nil
  | e :: es, cs, h => by
    have h : (match cCl ct e, cCls ct es with | some c, some cs => if notStar e = true then some (c :: cs) else none | _, _ => none) = some cs := h
    cases h1 : cCl ct e with
    | none => rw [h1] at h; cases h
    | some d =>
      cases h2 : cCls ct es with
      | none => rw [h1, h2] at h; cases h
      | some ds =>
        rw [h1, h2] at h
        dsimp only at h
        split at h
        · rename_i hs
          cases h
          exact cls_cons hs (s_cl c h1) (s_cls c h2)
        · cases h
theorem cl_star {e : PySem.Expr} {cl : Cl} (h : cCl ct e = some cl) : notStar e = true := by
  cases e <;> first | rfl | cases h
theorem s_blt (c : CtOk0 ct X G O fi k Wx) (hf : ∀ e, PE X e (tE G Wx (evE O (f e)))) {x : Str} (hg : Gl X x) (es : List PySem.Expr) (p pos : Pos) : PE X (.Call (.Name x p) es [] pos) (tE G Wx (evE O (cBlt ct f x es))) := by
  unfold cBlt
  split
  · rename_i hb
    have hm := c.bltk x hb
    have room : X.A.units + 64 < cLine := by have := c.room.un; omega
    split
    · rename_i a
      split
      · rename_i hs
        have arg : PA X [a] (tA G Wx (evEs O (.cons (f a) .nil))) := fa_cons hs (hf a) fa_nil
        split
        · rename_i e; subst e
          exact fe_pri (fun t ht => pe_callB len_ok hg hm (by decide +kernel) ht (by decide) (by decide) (star_cons hs) rfl) arg (g_len c.hK)
        · split
          · rename_i e; subst e
            exact fe_pri (fun t ht => pe_callTy call_int1 hg hm PyProof.Rows.boot_int ht (by decide) (by decide) (star_cons hs) rfl) arg g_int
          · split
            · rename_i e; subst e
              exact fe_pri (fun t ht => pe_callB (repr_ok c.hK c.gd room) hg hm PyProof.Rows.boot_repr ht (by decide) (by decide) (star_cons hs) rfl) arg g_repr
            · split
              · rename_i e; subst e
                exact fe_pri (fun t ht => pe_callTy call_tuple_of hg hm (by decide +kernel) ht (by decide) (by decide) (star_cons hs) rfl) arg (g_tuple c.hK)
              · split
                · rename_i e; subst e
                  exact fe_pri (fun t ht => pe_callTy call_list_of hg hm (by decide +kernel) ht (by decide) (by decide) (star_cons hs) rfl) arg (g_list c.hK)
                · split
                  · rename_i e; subst e
                    exact fe_boo c.hK c.M (c.room.mono (by omega)) c.gd hg hm hs (hf a)
                  · split
                    · rename_i e; subst e
                      exact fe_abs c.M (c.room.mono (by omega)) c.gd hg hm hs (hf a)
                    · split
                      · rename_i e; subst e
                        exact fe_str c.M (c.room.mono (by omega)) c.gd hg hm hs (hf a)
                      · exact fe_nope O
      · exact fe_nope O
    · rename_i a b
      split
      · rename_i h0
        obtain ⟨e, hs⟩ := h0
        subst e
        split
        · rename_i cs j pt
          split
          · rename_i l hl
            split
            · rename_i hz
              exact fe_isiT c.hK c.C hz.2 hz.1 hg hm hs (hf a) (s_cls c hl)
            · exact fe_nope O
          · exact fe_nope O
        · split
          · rename_i cl hl
            exact fe_isi1 c.hK c.C hg hm hs (cl_star hl) (hf a) (s_cl c hl)
          · exact fe_nope O
      · exact fe_nope O
    · exact fe_nope O
  · exact fe_nope O
theorem g_gcd : PriG G .gcd rGcd := by
  intro w ps vs q Q s r h k
  have two : ∃ i j, ps = [.int i, .int j] := by
    cases ps with
    | nil => cases h
    | cons x xr =>
      cases xr with
      | nil => cases x <;> cases h
      | cons y yr =>
        cases yr with
        | cons _ _ => cases x <;> cases y <;> cases h
        | nil => cases x <;> cases y <;> first | exact ⟨_, _, rfl⟩ | cases h
  obtain ⟨i, j, rfl⟩ := two
  obtain ⟨v, t, rfl, r1, u, t2, rfl, r2, r3⟩ := r
  obtain rfl : v = .int i := r1
  obtain rfl : u = .int j := r2
  obtain rfl : t2 = [] := r3
  cases h
  exact ⟨i, j, rfl, k _ w (Nx.refl s) rfl⟩
theorem s_call (c : CtOk0 ct X G O fi k Wx) (hf : ∀ e, PE X e (tE G Wx (evE O (f e)))) (x : Str) (es : List PySem.Expr) (kws : List Keyword) (p pos : Pos) : PE X (.Call (.Name x p) es kws pos) (tE G Wx (evE O (cCall ct f x es kws))) := by
  unfold cCall
  split
  · rename_i h0
    obtain ⟨hn, hgl, hst⟩ := h0
    obtain ⟨h1, h2⟩ := okName_of hn
    have hg := c.gl hgl
    split
    · rename_i ks hks
      split
      · rename_i g hgf
        obtain ⟨e1, e2, e3⟩ := c.fnk x g hgf
        split
        · rename_i pm hpm
          exact fe_call e3 (c.room.mono (by omega)) c.gd c.tk hg e1 e2 (by rw [cEs_len]; exact c.bdk g _ _ _ hpm) h1 hst hks (cKs_len hks) cEs_nil (s_es hf es hst) (s_ks hf kws)
        · exact fe_nope O
      · split
        · rename_i d g hd
          obtain ⟨e1, e2, e3⟩ := c.mkk x d g hd
          split
          · rename_i pm hpm
            exact fe_make e2 e3 (c.room.mono (by omega)) c.gd c.tk hg e1 (by rw [cEs_len]; exact c.bdk g _ _ _ hpm) h1 hst hks (cKs_len hks) cEs_nil (s_es hf es hst) (s_ks hf kws)
          · exact fe_nope O
        · split
          · split
            · rename_i hgc
              split
              · rename_i a b
                obtain ⟨s1, s2⟩ := Bool.and_eq_true_iff.mp (show (notStar a && notStars [b]) = true from hst)
                obtain ⟨s2, _⟩ := Bool.and_eq_true_iff.mp (show (notStar b && notStars []) = true from s2)
                exact fe_pri (fun t ht => pe_callBfun cr_gcd hg (c.gcdk x hgc) ht h1 (star_cons s1) (by rw [star_cons s2]; rfl)) (fa_cons s1 (hf a) (fa_cons s2 (hf b) fa_nil)) g_gcd
              · exact fe_nope O
            · exact s_blt c hf hg es p pos
          · exact fe_nope O
    · exact fe_nope O
  · exact fe_nope O
theorem s_meth (c : CtOk0 ct X G O fi k Wx) (hf : ∀ e, PE X e (tE G Wx (evE O (f e)))) (o : PySem.Expr) (m : Str) (es : List PySem.Expr) (kws : List Keyword) (apos pos : Pos) : PE X (.Call (.Attribute o m apos) es kws pos) (tE G Wx (evE O (cMeth ct f o m es kws apos pos))) := by
  unfold cMeth
  split
  · rename_i h0
    obtain ⟨hst, hn, hpl, hbo⟩ := h0
    split
    · rename_i ks hks
      have meth : PE X (.Call (.Attribute o m apos) es kws pos) (tE G Wx (evE O (.meth (f o) m (cEs f es) (cKs f kws) ks))) :=
        fe_meth (fi := fi) c.gd c.tk (c.room.mono (by omega)) c.cl (fun d g pm h => c.M d m _ _ g pm h) hst hks (cKs_len hks) cEs_nil (hf o) (s_es hf es hst) (s_ks hf kws) (meth_form (base_ok hbo _ _ _) hst hks hn hpl)
      split
      · rename_i g hg
        split at hg
        · rename_i x p
          split at hg
          · rename_i h1
            obtain ⟨hn1, hgl⟩ := h1
            obtain ⟨d1, d2⟩ := okName_of hn1
            obtain ⟨C, mc, pr, e1, e2, e3⟩ := c.statk x m g hg
            split
            · rename_i pm hpm
              exact fe_stat e3 (c.room.mono (by omega)) c.gd c.tk (c.gl hgl) e1 e2 (by rw [cEs_len]; exact c.bdk g _ _ _ hpm) d1 hst hks (cKs_len hks) cEs_nil (s_es hf es hst) (s_ks hf kws) (base_ok hbo _ _ _) hn hpl
            · exact fe_nope O
          · cases hg
        · cases hg
      · split
        · rename_i b
          split
          · rename_i e
            subst e
            obtain ⟨s1, _⟩ := Bool.and_eq_true_iff.mp (show (notStar b && notStars []) = true from hst)
            exact fe_append s1 (hf o) (hf b) (base_ok hbo _ _ _) hpl
          · exact meth
        · exact meth
    · exact fe_nope O
  · exact fe_nope O
end
end FD

set_option Elab.async false
set_option linter.all false
set_option autoImplicit false
set_option maxRecDepth 100000
set_option maxHeartbeats 4000000
/-! FEf: expressions and tests, all. -/
namespace FD
open PySem PySem.Spec PyProof.Rows L2
section
variable {G : Ga} {O : Or} {fi : Nat → FnI} {k : Nat}
theorem lam_ct {ct : Ct} {scope : Scope} {X : Cx} {Wx : WX} (c : CtOk0 (ct.lam scope) X G O fi k Wx) : CtOk (ct.lam scope) X G O fi k Wx := ⟨c, fun x hs tb q kc h => by cases h⟩
theorem isEq_some {op : CmpOp} {neg : Bool} (h : isEq op = some neg) : op = if neg then .NotEq else .Eq := by
  cases op <;> cases h <;> rfl
def SndE (G : Ga) (O : Or) (fi : Nat → FnI) (k : Nat) (cmp : Ct → PySem.Expr → E) : Prop := ∀ (ct : Ct) (X : Cx) (Wx : WX), CtOk ct X G O fi k Wx → ∀ e, PE X e (tE G Wx (evE O (cmp ct e)))
def SndT (G : Ga) (O : Or) (fi : Nat → FnI) (k : Nat) (cmp : Ct → PySem.Expr → T) : Prop := ∀ (ct : Ct) (X : Cx) (Wx : WX), CtOk ct X G O fi k Wx → ∀ e, PT X e (tT G Wx (evT O (cmp ct e)))
theorem snd_nopeT {X : Cx} {Wx : WX} {e : PySem.Expr} : PT X e (tT G Wx (evT O (.e .nope))) := ⟨fun pins s σ H Q I ⟨ρ, w, eH, sr, he, h⟩ => by
  have h : OkB G Wx (R.bind (.bad : R W) fun x S1 => truW O x S1) w σ Q := h
  exact h.elim⟩
theorem lc_parts {n : Nat} {fE : Ct → PySem.Expr → E} {fT : Ct → PySem.Expr → T} (hE : SndE G O fi k fE) (hT : SndT G O fi k fT) {ct : Ct} {X : Cx} {Wx : WX} (c : CtOk ct X G O fi k Wx) {elt tg iter : PySem.Expr} {ifs : List PySem.Expr} {scope : Scope} {it : It} {t : Tg} {ts : T} {a : E}
    (h : cLc ct n fE fT elt tg iter ifs scope = some (it, t, ts, a)) : PI X tg iter (tI G Wx (evIt O it)) ∧ BlkOk X.N X.env.scope scope (ownOf ct.N scope.names) ∧ (∀ i ∈ ixT t, i ∈ (ownOf ct.N scope.names).map (·.2)) ∧
      (∀ (s : Shared) (H : Hp) (C : Addr) (cl : List (Str × Addr)) (fp : List Addr), PG (X.blk s H scope (compEnvC scope cl C X.env) fp) tg (tG G t)) ∧
      (∀ (s : Shared) (H : Hp) (C : Addr) (cl : List (Str × Addr)) (fp : List Addr), PTs (X.blk s H scope (compEnvC scope cl C X.env) fp) ifs (tT G (fun _ _ _ _ => False) (evT O ts))) ∧
      (∀ (s : Shared) (H : Hp) (C : Addr) (cl : List (Str × Addr)) (fp : List Addr), PE (X.blk s H scope (compEnvC scope cl C X.env) fp) elt (tE G (fun _ _ _ _ => False) (evE O a))) ∧ (∀ x, foldedSetIterable iter X.env x = pure x) := by
  unfold cLc at h
  split at h
  · rename_i h0
    split at h
    · rename_i t' ht
      have hfn : ∀ (s : Shared) (H : Hp) (C : Addr) (cl : List (Str × Addr)) (fp : List Addr) (x : Str), (ct.blk scope).loc x = true → (X.blk s H scope (compEnvC scope cl C X.env) fp).fn x = true ∨ (X.blk s H scope (compEnvC scope cl C X.env) fp).env.scope.names.lookup x = some .local := fun s H C cl fp x hx => by
        rw [(blk_ct c.toCtOk0 s H C cl fp).nm]
        unfold Ct.loc at hx
        split at hx
        · rename_i e; exact .inr e
        · cases hx
        · cases hx
      have hg : ∀ (s : Shared) (H : Hp) (C : Addr) (cl : List (Str × Addr)) (fp : List Addr), PG (X.blk s H scope (compEnvC scope cl C X.env) fp) tg (tG G t') := fun s H C cl fp => ((s_tg (blk_ct c.toCtOk0 s H C cl fp).toCtOk0 (hfn s H C cl fp) n).1 _ _ ht).1
      have hok : BlkOk X.N X.env.scope scope (ownOf ct.N scope.names) := by rw [c.N]; exact blk_ok c.nm h0.1
      split at h
      · rename_i hz
        have hix : ∀ i ∈ ixT t', i ∈ (ownOf ct.N scope.names).map (·.2) := fun i hi => List.contains_iff_mem.mp (List.all_eq_true.mp hz i hi)
        split at h
        · cases h
          exact ⟨s_it c.toCtOk0 (hE ct X Wx c) _ _, hok, hix, hg, fun s H C cl fp => fts_nil, fun s H C cl fp => hE _ _ _ (blk_ct c.toCtOk0 s H C cl fp) _, set_ok h0.2 _⟩
        · cases h
          exact ⟨s_it c.toCtOk0 (hE ct X Wx c) _ _, hok, hix, hg, fun s H C cl fp => fts_one (hT _ _ _ (blk_ct c.toCtOk0 s H C cl fp) _), fun s H C cl fp => hE _ _ _ (blk_ct c.toCtOk0 s H C cl fp) _, set_ok h0.2 _⟩
        · cases h
      · cases h
    · cases h
  · cases h
theorem opt_ok {X : Cx} {Wx : WX} {f : PySem.Expr → E} (hf : ∀ e, PE X e (tE G Wx (evE O (f e)))) : ∀ o : Option PySem.Expr, PO X o (tOO G Wx (evE O (cOpt f o)))
  | none => fo_none
  | some e => fo_some (hf e)
theorem parts_ok {X : Cx} {Wx : WX} {f : PySem.Expr → E} (hf : ∀ e, PE X e (tE G Wx (evE O (f e)))) : ∀ {es : List PySem.Expr} {as : List E}, cParts f es = some as → PartsOk G Wx X O es as
  | [], as, h => by cases h; exact .nil
  | e :: r, as, h => by
    have h : (match cPart f e, cParts f r with | some a, some as => some (a :: as) | _, _ => none) = some as := h
    cases h1 : cPart f e with
    | none => rw [h1] at h; cases h
    | some a =>
      cases h2 : cParts f r with
      | none => rw [h1, h2] at h; cases h
      | some bs =>
        rw [h1, h2] at h
        cases h
        refine .cons ?_ (parts_ok hf h2)
        unfold cPart at h1
        split at h1
        · cases h1; exact fe_flat rfl pe_str O
        · split at h1
          · rename_i hc
            cases h1
            rw [hc]
            exact fe_fmt (hf _)
          · cases h1
        · cases h1
theorem snd_cX {n : Nat} (hE : SndE G O fi k (cE n)) (hX : SndE G O fi k (cX n)) (hT : SndT G O fi k (cT n)) : SndE G O fi k (cX (n + 1)) := by
  intro ct X Wx c e
  have hf := hE ct X Wx c
  unfold cX
  split
  · exact s_name c.toCtOk0 _ _
  · exact s_const O _ _ _
  · split
    · rename_i h; exact fe_tup (s_es hf _ h)
    · exact fe_nope O
  · split
    · rename_i h
      split
      · exact fe_newl (s_es hf _ h)
      · exact fe_lst (s_es hf _ h)
    · exact fe_nope O
  · exact fe_opr c.hK c.M c.ops (c.room.mono (by omega)) c.gd (hf _) (hf _)
  · exact fe_not (hf _)
  · exact fe_ngo c.M (c.room.mono (by omega)) c.gd (hf _)
  · rename_i op a b rest pos
    split
    · exact fe_and (hf _) (pe_one (hf _))
    · exact fe_or (hf _) (pe_one (hf _))
    · exact fe_and (hf _) (hX ct X Wx c _)
    · exact fe_or (hf _) (hX ct X Wx c _)
  · exact fe_ife (hT ct X Wx c _) (hf _) (hf _)
  · split
    · rename_i neg h
      rw [isEq_some h]
      exact fe_eqo c.hK c.C c.M c.room c.gd (hf _) (hf _)
    · split
      · rename_i h
        exact fe_cmp c.hK (by have := c.room.un; omega) (hf _) (hf _) h
      · exact fe_nope O
  · split
    · rename_i h
      exact fe_chn c.hK (by have := c.room.un; omega) (hf _) (hf _) (hf _) h
    · exact fe_nope O
  · split
    · rename_i h
      obtain ⟨h1, h2, h3⟩ := h
      subst h2 h3
      exact fe_cname c.hK c.C c.nmk (hf _) (base_ok h1 _ _ _) (base_ok rfl _ _ _)
    · split
      · rename_i h
        exact fe_att c.hK c.cl (c.noat _ h) (hf _) (base_ok rfl _ _ _)
      · exact fe_nope O
  · split
    · rename_i h
      exact fe_att c.hK c.cl (c.noat _ h.2) (hf _) (base_ok h.1 _ _ _)
    · exact fe_nope O
  · refine fe_slc c.hK (hf _) ?_ ?_
    · exact opt_ok hf _
    · exact opt_ok hf _
  · split
    · rename_i as h
      exact fe_joined (parts_ok hf h)
    · exact fe_nope O
  · split
    · rename_i h
      exact fe_sub c.hK (hf _) (hf _) (slice_ok h)
    · exact fe_nope O
  · rename_i elt tg iter ifs scope pos
    split
    · rename_i it t ts a h
      obtain ⟨p1, p2, p3, p4, p5, p6, p7⟩ := lc_parts hE hT c h
      exact fe_comp c.calm (by rw [c.N]; exact c.nd) p1 p2 p3 p4 p5 p6 p7
    · exact fe_nope O
  · split
    · rename_i hs tb q kc ht
      split
      · rename_i hp
        exact c.told _ hs tb q kc ht _ _ _ _ _ _ _ hp.1 hp.2 fun X' Wx' c' => hE _ X' Wx' (lam_ct c') _
      · exact fe_nope O
    · exact fe_nope O
  · exact s_call c.toCtOk0 hf _ _ _ _ _
  · exact s_meth c.toCtOk0 hf _ _ _ _ _ _
  · exact fe_nope O
theorem snd_cE {n : Nat} (hX : SndE G O fi k (cX n)) : SndE G O fi k (cE (n + 1)) := by
  intro ct X Wx c e
  unfold cE
  split
  · exact fe_frz (hX ct X Wx c e)
  · exact hX ct X Wx c e
theorem snd_cT {n : Nat} (hE : SndE G O fi k (cE n)) (hT : SndT G O fi k (cT n)) : SndT G O fi k (cT (n + 1)) := by
  intro ct X Wx c e
  have hf := hE ct X Wx c
  have ht := hT ct X Wx c
  unfold cT
  split
  · exact ft_not (ht _)
  · split
    · exact (fw_and (ht _) (pw_and1 (ht _))).pt
    · exact (fw_or (ht _) (pw_or1 (ht _))).pt
    · exact (fw_and (ht _) ⟨fun wh pins s σ H Q I h => (ht _).run pins s σ H Q I h⟩).pt
    · exact (fw_or (ht _) ⟨fun wh pins s σ H Q I h => (ht _).run pins s σ H Q I h⟩).pt
  · split
    · rename_i neg h
      rw [isEq_some h]
      exact ft_eqo c.hK c.C c.M c.room c.gd (hf _) (hf _)
    · split
      · rename_i h
        exact ft_cmp c.hK (by have := c.room.un; omega) (hf _) (hf _) h
      · exact snd_nopeT
  · split
    · rename_i h
      exact ft_chn c.hK (by have := c.room.un; omega) (hf _) (hf _) (hf _) h
    · exact snd_nopeT
  · exact snd_nopeT
  · exact snd_nopeT
  · rename_i op a pos hne
    refine ft_e c.hK c.M (c.room.mono (by omega)) c.gd (hf _) fun whole => ?_
    cases op <;> first | rfl | exact (hne rfl).elim | exact (hne _ _ rfl).elim | exact (hne _ rfl).elim
  · exact snd_nopeT
  · rename_i h1 h2 h3 h4 h5 h6 h7
    refine ft_e c.hK c.M (c.room.mono (by omega)) c.gd (hf _) fun whole => ?_
    cases e <;> first | rfl | (exfalso; first | exact h1 _ _ rfl | exact h2 _ _ _ _ _ rfl | exact h3 _ _ _ _ rfl | exact h4 _ _ _ _ rfl | exact h5 _ _ _ _ rfl | exact h5 _ _ _ rfl | exact h6 _ _ _ rfl | exact h7 _ _ _ _ rfl | exact h7 _ _ _ rfl)
theorem snd_all : ∀ n, SndE G O fi k (cE n) ∧ SndE G O fi k (cX n) ∧ SndT G O fi k (cT n)
  | 0 => ⟨fun ct X Wx c e => by unfold cE; exact fe_nope O, fun ct X Wx c e => by unfold cX; exact fe_nope O, fun ct X Wx c e => by unfold cT; exact snd_nopeT⟩
  | n + 1 => let ⟨h1, h2, h3⟩ := snd_all n; ⟨snd_cE h2, snd_cX h1 h2 h3, snd_cT h1 h3⟩
end
end FD

set_option Elab.async false
set_option linter.all false
set_option autoImplicit false
set_option maxRecDepth 100000
set_option maxHeartbeats 4000000
/-! FEh: two names at once. -/
namespace FD
open PySem PySem.Spec PyProof.Rows L2
section
variable {G : Ga} {Wx : WX} {X : Cx} {O : Or}
theorem fs_par {i j : Nat} {x y : Str} {a b : E} {ea eb : PySem.Expr} {px py pt pt2 pos : Pos} {kt k2 : Nat} (hc : X.calm = true) (hN : X.N.Nodup) (hi : X.N[i]? = some x) (hj : X.N[j]? = some y) (hij : i ≠ j)
    (hx : X.env.scope.names.lookup x = some .local) (hy : X.env.scope.names.lookup y = some .local) (ha : PA X [ea, eb] (tA G Wx (evEs O (.cons a (.cons b .nil)))))
    (hw : swappedStores [.Tuple [.Name x px, .Name y py] kt pt] (.Tuple [ea, eb] k2 pt2) X.env = pure (some [x, y])) :
    PS X (.Assign [.Tuple [.Name x px, .Name y py] kt pt] (.Tuple [ea, eb] k2 pt2) pos) (tS G Wx (exS O (.par [i, j] (.cons a (.cons b .nil))))) :=
  PS.imp (ps_par hc hN hi hj hij hx hy ha hw) fun D σ H ⟨ρ, w, eH, sr, he, h⟩ => by
    subst eH
    refine ⟨ρ, w, rfl, sr, he, ?_⟩
    have h : OkS G Wx (match evEs O (.cons a (.cons b .nil)) ρ w.S with | .ok xs S1 => (match setAll [i, j] xs ρ with | some ρ1 => Out.nx ρ1 S1 | none => .bad) | .ex e S1 => .ex e ρ S1 | .bad => .bad) w D := h
    show OkL G Wx (evEs O (.cons a (.cons b .nil)) ρ w.S) w σ _
    cases q : evEs O (.cons a (.cons b .nil)) ρ w.S with
    | bad => rw [q] at h; exact h.elim
    | ex e S1 => rw [q] at h; exact fun d w' n rx => h d σ w' n (n.g.env he) rx
    | ok xs S1 =>
      rw [q] at h
      dsimp only at h
      intro vs w' n r
      cases xs with
      | nil => exact h.elim
      | cons u xs =>
        cases xs with
        | nil =>
          have h : OkS G Wx (match (if i < ρ.length then (none : Option Env) else none) with | some ρ1 => Out.nx ρ1 S1 | none => .bad) w D := h
          split at h
          · rename_i e; split at e <;> cases e
          · exact h.elim
        | cons t xs =>
          obtain ⟨v1, r1, rfl, q1, v2, r2, rfl, q2, q3⟩ := r
          cases xs with
          | cons _ _ =>
            exfalso
            have z := evEs_len q
            simp [lenEs] at z
          | nil =>
            obtain rfl : r2 = [] := q3
            refine ⟨v1, v2, rfl, ?_⟩
            have h : OkS G Wx (match (if i < ρ.length then (if j < (ρ.set i (some u)).length then some ((ρ.set i (some u)).set j (some t)) else none) else none) with | some ρ1 => Out.nx ρ1 S1 | none => .bad) w D := h
            by_cases c1 : i < ρ.length
            · rw [if_pos c1] at h
              by_cases c2 : j < (ρ.set i (some u)).length
              · rw [if_pos c2] at h
                exact h _ w' n (((n.g.env he).set q1).set q2)
              · rw [if_neg c2] at h; exact h.elim
            · rw [if_neg c1] at h; exact h.elim
end
end FD

set_option Elab.async false
set_option linter.all false
set_option autoImplicit false
set_option maxRecDepth 100000
set_option maxHeartbeats 4000000
/-! FEi: when the stores of two names are in order. -/
namespace FD
open PySem PySem.Spec PyProof.Rows L2
def parOk (names : List (Str × NameKind)) (x y : Str) (px py : Pos) (ea eb : PySem.Expr) : Bool :=
  decide (names.lookup x = some .local) && decide (names.lookup y = some .local) && (px.line == py.line) && !(x == y) && notStar ea && notStar eb && !(foldedForSure 8 ea && foldedForSure 8 eb) && !(constantsAlone 8 ea && constantsAlone 8 eb)
theorem par_ok {env : PySem.Env} {x y : Str} {px py pt pt2 : Pos} {kt k2 : Nat} {ea eb : PySem.Expr} (hk : env.blockKind = .function) (h : parOk env.scope.names x y px py ea eb = true) :
    swappedStores [.Tuple [.Name x px, .Name y py] kt pt] (.Tuple [ea, eb] k2 pt2) env = pure (some [x, y]) := by
  unfold parOk at h
  simp only [Bool.and_eq_true, Bool.not_eq_true', decide_eq_true_eq, beq_iff_eq] at h
  obtain ⟨⟨⟨⟨⟨⟨⟨h1, h2⟩, h3⟩, h4⟩, h5⟩, h6⟩, h7⟩, h8⟩ := h
  have k1 : env.kindOf x = some .local := h1
  have k2' : env.kindOf y = some .local := h2
  have ne : (y == x) = false := by
    cases q : (y == x) with
    | false => rfl
    | true => rw [eq_of_beq q] at h4; simp at h4
  unfold swappedStores
  have e1 : (PySem.Expr.Name x px).pos.line = px.line := rfl
  simp [hk, k1, k2', h3, h7, h8, ne, e1, List.eraseDups, List.eraseDupsBy, List.eraseDupsBy.loop]
  rintro (z | z)
  · exfalso
    cases ea <;> first | (cases h5; done) | (cases z; done)
  · exfalso
    cases eb <;> first | (cases h6; done) | (cases z; done)
def par3Ok (names : List (Str × NameKind)) (x y z : Str) (px py pz : Pos) (ea eb ec : PySem.Expr) : Bool :=
  decide (names.lookup x = some .local) && decide (names.lookup y = some .local) && decide (names.lookup z = some .local) && (px.line == py.line) && (px.line == pz.line) && !(x == y) && !(x == z) && !(y == z) && notStar ea && notStar eb && notStar ec && !(foldedForSure 8 ea && foldedForSure 8 eb && foldedForSure 8 ec) && !(constantsAlone 8 ea && constantsAlone 8 eb && constantsAlone 8 ec)
theorem beq_str_comm {x y : Str} (h : (x == y) = false) : (y == x) = false := by
  cases q : (y == x) with
  | false => rfl
  | true => rw [eq_of_beq q] at h; simp at h
theorem par3_ok {env : PySem.Env} {x y z : Str} {px py pz pt pt2 : Pos} {kt k2 : Nat} {ea eb ec : PySem.Expr} (hk : env.blockKind = .function) (h : par3Ok env.scope.names x y z px py pz ea eb ec = true) :
    swappedStores [.Tuple [.Name x px, .Name y py, .Name z pz] kt pt] (.Tuple [ea, eb, ec] k2 pt2) env = pure (some [x, y, z]) := by
  unfold par3Ok at h
  simp only [Bool.and_eq_true, Bool.not_eq_true', decide_eq_true_eq, beq_iff_eq] at h
  obtain ⟨⟨⟨⟨⟨⟨⟨⟨⟨⟨⟨⟨h1, h2⟩, h3⟩, l1⟩, l2⟩, n1⟩, n2⟩, n3⟩, s1⟩, s2⟩, s3⟩, h7⟩, h8⟩ := h
  have k1 : env.kindOf x = some .local := h1
  have k2' : env.kindOf y = some .local := h2
  have k3' : env.kindOf z = some .local := h3
  have m1 := beq_str_comm n1
  have m2 := beq_str_comm n2
  have m3 := beq_str_comm n3
  unfold swappedStores
  have e1 : (PySem.Expr.Name x px).pos.line = px.line := rfl
  have st : ∀ e : PySem.Expr, notStar e = true → (match e with | .Starred .. => true | _ => false) = false := fun e he => by cases e <;> first | rfl | cases he
  have h7 : (foldedForSure 8 ea && (foldedForSure 8 eb && foldedForSure 8 ec)) = false := by rw [← Bool.and_assoc]; exact h7
  have h8 : (constantsAlone 8 ea && (constantsAlone 8 eb && constantsAlone 8 ec)) = false := by rw [← Bool.and_assoc]; exact h8
  simp [hk, k1, k2', k3', ← l1, ← l2, h7, h8, m1, m2, m3, n1, n2, n3, e1, List.eraseDups, List.eraseDupsBy, List.eraseDupsBy.loop]
  rintro (z | z | z)
  · exfalso
    cases ea <;> first | (cases s1; done) | (cases z; done)
  · exfalso
    cases eb <;> first | (cases s2; done) | (cases z; done)
  · exfalso
    cases ec <;> first | (cases s3; done) | (cases z; done)
/-- a target that is no local name of the line -/
def oddTg (names : List (Str × NameKind)) (line : Nat) : PySem.Expr → Bool
  | .Name x p => !(decide (names.lookup x = some .local) && p.line == line)
  | _ => true
def noSwap (names : List (Str × NameKind)) (ts vs : List PySem.Expr) : Bool := !(ts.length == 2 || ts.length == 3) || (ts.any (oddTg names ((ts.head?.map (·.pos.line)).getD 0)) || (vs.all (foldedForSure 8) && notStars vs))
theorem noSwap_ok {env : PySem.Env} {pt pt2 : Pos} {kt k2 : Nat} {ts vs : List PySem.Expr} (h : noSwap env.scope.names ts vs = true) : swappedStores [.Tuple ts kt pt] (.Tuple vs k2 pt2) env = pure none := by
  unfold swappedStores
  simp only []
  split
  · rfl
  · rename_i c1
    split
    · rfl
    · rename_i c2
      split
      · rfl
      · rename_i c3
        split
        · rfl
        · rename_i c4
          exfalso
          unfold noSwap at h
          rcases Bool.or_eq_true_iff.mp h with h | h
          · rw [h] at c1
            simp at c1
          · rcases Bool.or_eq_true_iff.mp h with h | h
            · obtain ⟨t, ht, ho⟩ := List.any_eq_true.mp h
              have c3 : (ts.filterMap fun e => match e with
                | .Name id pos => if (env.kindOf id == some .local && pos.line == (ts.head?.map (·.pos.line)).getD 0) = true then some id else none
                | _ => none).length = ts.length := by
                simp only [Bool.or_eq_true, bne_iff_ne, ne_eq, not_or, Decidable.not_not] at c3
                exact c3.1
              have lt : ∀ (l : List PySem.Expr), t ∈ l → (l.filterMap fun e => match e with
                | .Name id pos => if (env.kindOf id == some .local && pos.line == (ts.head?.map (·.pos.line)).getD 0) = true then some id else none
                | _ => none).length < l.length := by
                intro l hl
                induction l with
                | nil => cases hl
                | cons a l ih =>
                  have le : ∀ l : List PySem.Expr, (l.filterMap fun e => match e with
                    | .Name id pos => if (env.kindOf id == some .local && pos.line == (ts.head?.map (·.pos.line)).getD 0) = true then some id else none
                    | _ => none).length ≤ l.length := fun l => List.length_filterMap_le _ _
                  rcases List.mem_cons.mp hl with e | hl
                  · subst e
                    have none_ : (match t with
                      | .Name id pos => if (env.kindOf id == some .local && pos.line == (ts.head?.map (·.pos.line)).getD 0) = true then some id else none
                      | _ => none) = none := by
                      cases t with
                      | Name x p =>
                        unfold oddTg at ho
                        have e2 : env.kindOf x = env.scope.names.lookup x := rfl
                        show (if _ then _ else _) = none
                        rw [if_neg]
                        rw [e2]
                        simp only [Bool.not_eq_true', Bool.and_eq_false_iff, decide_eq_false_iff_not] at ho
                        simp only [Bool.and_eq_true, not_and, beq_iff_eq]
                        intro q
                        rcases ho with z | z
                        · exact absurd q z
                        · simpa using z
                      | _ => rfl
                    rw [List.filterMap_cons, none_]
                    exact Nat.lt_succ_of_le (le l)
                  · rw [List.filterMap_cons, List.length_cons]
                    split
                    · exact Nat.lt_succ_of_lt (ih hl)
                    · rw [List.length_cons]
                      exact Nat.succ_lt_succ (ih hl)
              exact absurd c3 (Nat.ne_of_lt (lt ts ht))
            · exact c4 (He.ba h).1
end FD

set_option Elab.async false
set_option linter.all false
set_option autoImplicit false
set_option maxRecDepth 100000
set_option maxHeartbeats 4000000
/-! FEg: statements. -/
namespace FD
open PySem PySem.Spec PyProof.Rows L2
/-- own exceptions by name: number, fields, how many parameters -/
structure Cs extends Ct where
  exc : Str → Option (Nat × List (Str × Nat) × Nat)
def isTup : PySem.Expr → Bool
  | .Tuple _ _ _ => true
  | .List _ _ => true
  | _ => false
/-- a tuple display handed to targets one by one -/
def cTT (n : Nat) (ct : Cs) (f : PySem.Expr → E) (t v : PySem.Expr) : Sm := match t, v with
  | .Tuple ts _ _, .Tuple vs _ _ => if noSwap ct.names ts vs = true then (match cG ct.toCt n t with
    | some g => .asg g (f v)
    | none => .nope) else .nope
  | _, _ => .nope
mutual
def cS : Nat → Cs → Stmt → Sm
  | 0, _, _ => .nope
  | n + 1, ct, s => match s with
    | .Expr (.Constant (.str _) _ _) _ => .pass
    | .Expr e _ => if notComp e = true then .expr (cE n ct.toCt e) else .nope
    | .Return (some e) _ => .ret (cE n ct.toCt e)
    | .Return none _ => .retN
    | .Assign [.Name y _] (.ListComp elt [⟨tg, iter, ifs, 0⟩] scope _) _ => (match ct.N.findIdx? (· == y) with
      | some i => if ct.names.lookup y = some .local then (match cLc ct.toCt n (fun c e => cE n c e) (fun c e => cT n c e) elt tg iter ifs scope with
          | some (it, t, ts, a) => .asg (.nm i) (.comp it t ((ownOf ct.N scope.names).map (·.2)) ts a)
          | none => .nope) else .nope
      | none => .nope)
    | .Assign [t] v _ => (match t with
      | .Attribute o f _ => if notComp v = true ∧ ct.fld f = true then .setf (cE n ct.toCt o) f (cE n ct.toCt v) else .nope
      | .Tuple (.Attribute (.Name x px) f pf :: r) kt pt => if notComp v = true ∧ isTup v = false ∧ okName x = true ∧ ct.vis x = true then (match ct.N.findIdx? (· == x), attNames x (.Attribute (.Name x px) f pf :: r) with
        | some i, some fs => if fs.all ct.fld = true then .setu i fs (cE n ct.toCt v) else .nope
        | _, _ => .nope) else .nope
      | .Subscript o i _ => if notComp v = true ∧ notSlice i = true then .seti (cE n ct.toCt o) (cE n ct.toCt i) (cE n ct.toCt v) else .nope
      | _ => if notComp v = true ∧ isTup v = false then (match cG ct.toCt n t with
          | some g => .asg g (cE n ct.toCt v)
          | none => .nope) else (match t with
        | .Name _ _ => if notComp v = true then (match cG ct.toCt n t with
          | some g => .asg g (cE n ct.toCt v)
          | none => .nope) else .nope
        | .Tuple [.Name x px, .Name y py] _ _ => (match v with
          | .Tuple [ea, eb] _ _ => (match ct.N.findIdx? (· == x), ct.N.findIdx? (· == y) with
            | some i, some j => if parOk ct.names x y px py ea eb = true ∧ i ≠ j then .par [i, j] (.cons (cE n ct.toCt ea) (.cons (cE n ct.toCt eb) .nil)) else cTT n ct (cE n ct.toCt) t v
            | _, _ => .nope)
          | _ => .nope)
        | .Tuple [.Name x px, .Name y py, .Name z pz] _ _ => (match v with
          | .Tuple [ea, eb, ec] _ _ => (match ct.N.findIdx? (· == x), ct.N.findIdx? (· == y), ct.N.findIdx? (· == z) with
            | some i, some j, some l => if par3Ok ct.names x y z px py pz ea eb ec = true ∧ i ≠ j ∧ i ≠ l ∧ j ≠ l then .par [i, j, l] (.cons (cE n ct.toCt ea) (.cons (cE n ct.toCt eb) (.cons (cE n ct.toCt ec) .nil))) else cTT n ct (cE n ct.toCt) t v
            | _, _, _ => .nope)
          | _ => .nope)
        | _ => cTT n ct (cE n ct.toCt) t v))
    | .If c a b _ => .ifs (cT n ct.toCt c) (cSs n ct a) (cSs n ct b)
    | .For t it body [] _ => if isSet it = false then (match cG ct.toCt n t with
      | some g => .for_ (cI ct.toCt (cE n ct.toCt) it) g (cSs n ct body)
      | none => .nope) else .nope
    | .While c body [] _ => .whl 1000000000 (cT n ct.toCt c) (cSs n ct body)
    | .Raise (some (.Call (.Name x _) (e :: es) [] _)) none _ => if okName x = true ∧ ct.gl x = true ∧ notStars (e :: es) = true then (match ct.exc x with
      | some (c, fls, np) => if es.length + 2 = np ∧ es.length < 1000 then .rse c (cEs (cE n ct.toCt) (e :: es)) fls else .nope
      | none => .nope) else .nope
    | .Pass _ => .pass
    | .Break _ => .brk
    | .Continue _ => .cont
    | _ => .nope
def cSs : Nat → Cs → List Stmt → List Sm
  | 0, _, _ => [.nope]
  | _ + 1, _, [] => []
  | n + 1, ct, s :: r => cS n ct s :: cSs n ct r
end
structure CsOk (ct : Cs) (X : Cx) (G : Ga) (O : Or) (fi : Nat → FnI) (k : Nat) (Wx : WX) : Prop extends CtOk ct.toCt X G O fi k Wx where
  blk : X.env.blockKind = .function
  pass : PassesOwn (model X.prog X.w) X.A X.env X.xe
  fnl : ∀ x, ct.loc x = true → X.fn x = true ∨ X.env.scope.names.lookup x = some .local
  exk : ∀ x c fls np, ct.exc x = some (c, fls, np) → ∃ (fI : Addr) (fd : FuncData) (ps : List Str), OexC X.K (G.xa c) ∧ PySem.W.findIn X.K (.ref (G.xa c)) "__init__" = some (some (.ref fI)) ∧ PySem.W.typeIn X.K (.ref fI) = some (.type "function") ∧
    FnOk X.prog X.w X.K X.mg X.base (L2.CX X.prog X.w) k fI fd ps (spEx (G.xa c) fls ps.length) ∧ Binds X.K fd ps [] ∧ np = ps.length ∧ (∀ q ∈ fls, 1 ≤ q.2) ∧ fls ≠ [] ∧ X.mg x = some (.ref (G.xa c))
section
variable {ct : Cs} {X : Cx} {G : Ga} {O : Or} {fi : Nat → FnI} {k : Nat} {Wx : WX}
theorem swaps_ok {e : PySem.Expr} (h : notComp e = true) (t : Option PySem.Expr) (l : Nat) (env : PySem.Env) : swapsWith e t l env = pure false := by
  cases e <;> first | rfl | (cases h)
theorem sole_ok {t e : PySem.Expr} (h : notComp e = true) (l : Nat) (env : PySem.Env) : swapsWithSole [t] e l env = pure false := by
  cases e <;> first | rfl | (cases h)
theorem stores_ok {t v : PySem.Expr} (h : isTup v = false ∨ isTup t = false) (env : PySem.Env) : swappedStores [t] v env = pure none := by
  rcases h with h | h
  · cases v <;> first | (cases h; done) | skip
    all_goals (cases t <;> rfl)
  · cases t <;> first | (cases h; done) | rfl
theorem snd_TT {n : Nat} {ct : Cs} {X : Cx} {Wx : WX} (c : CsOk ct X G O fi k Wx) {t v : PySem.Expr} {pos : Pos} (hf : ∀ e, PE X e (tE G Wx (evE O (cE n ct.toCt e)))) (hG : ∀ e g, cG ct.toCt n e = some g → PG X e (tG G g) ∧ notStar e = true) : PS X (.Assign [t] v pos) (tS G Wx (exS O (cTT n ct (cE n ct.toCt) t v))) := by
  unfold cTT
  split
  · split
    · rename_i h
      split
      · rename_i g hg
        obtain ⟨g1, g2⟩ := hG _ _ hg
        exact fs_asg (hf _) g1 g2 rfl (noSwap_ok (by rw [c.nm]; exact h))
      · exact fs_nope
    · exact fs_nope
  · exact fs_nope
theorem store1 {o i v : PySem.Expr} {p : Pos} {env : PySem.Env} : swappedStores [.Subscript o i p] v env = pure none := by
  cases v <;> rfl
theorem sub_asg {o i : PySem.Expr} {p : Pos} {env : PySem.Env} (h : notSlice i = true) (v : Value) : assign (.Subscript o i p) env v = (do
      let ov ← holding [v] (eval o env)
      let iv ← holding [v, ov] (eval i env)
      standAt p
      holding [v, ov, iv] (setItem ov iv v)
      release [v, ov, iv] []) := by
  cases i <;> first | rfl | (cases h)
theorem snd_S {n : Nat} (hSs : ∀ (ct : Cs) (X : Cx) (Wx : WX), CsOk ct X G O fi k Wx → ∀ b, PSs X b (tS G Wx (exSs O (cSs n ct b)))) (ct : Cs) (X : Cx) (Wx : WX) (c : CsOk ct X G O fi k Wx) (s : Stmt) : PS X s (tS G Wx (exS O (cS (n + 1) ct s))) := by
  have hf := (snd_all (G := G) (O := O) (fi := fi) (k := k) n).1 ct.toCt X Wx c.toCtOk
  have ht := (snd_all (G := G) (O := O) (fi := fi) (k := k) n).2.2 ct.toCt X Wx c.toCtOk
  have hb := hSs ct X Wx c
  have hG := (s_tg c.toCtOk0 c.fnl n).1
  unfold cS
  split
  · exact fs_doc
  · split
    · rename_i h; exact fs_expr (hf _) (swaps_ok h _ _ _)
    · exact fs_nope
  · exact fs_ret (hf _)
  · exact fs_retN
  · rename_i y py elt tg iter ifs scope cp sp
    split
    · rename_i i hi
      split
      · rename_i hy
        split
        · rename_i it t ts a h
          have snd := snd_all (G := G) (O := O) (fi := fi) (k := k) n
          obtain ⟨p1, p2, p3, p4, p5, p6, p7⟩ := lc_parts snd.1 snd.2.2 c.toCtOk h
          have hyl : X.env.scope.names.lookup y = some .local := by rw [c.nm]; exact hy
          have hN : X.N.Nodup := by rw [c.N]; exact c.nd
          have hiX : X.N[i]? = some y := by rw [c.N]; exact find_ok hi
          have k1 : X.env.kindOf y = some .local := hyl
          have hsw : swapsWith (.ListComp elt [⟨tg, iter, ifs, 0⟩] scope cp) (some (.Name y py)) sp.line X.env = (pure (X.env.blockKind == .function && X.env.kindOf y == some .local && py.line == cp.line && !(scope.names.any fun (n, k) => n == y && (k == .local || k == .cell))) : Sem Bool) := rfl
          rw [c.blk, k1, Bool.and_assoc] at hsw
          cases q : (py.line == cp.line && !(scope.names.any fun (n, k) => n == y && (k == .local || k == .cell))) with
          | true =>
            rw [q] at hsw
            exact fs_setLc c.calm hN hiX hyl hsw p1 p2 p3 p4 p5 p6 p7
          | false =>
            rw [q] at hsw
            exact fs_set hN hiX (.inl hyl) (.inr hyl) (fe_comp c.calm hN p1 p2 p3 p4 p5 p6 p7) hsw
        · exact fs_nope
      · exact fs_nope
    · exact fs_nope
  · split
    · split
      · rename_i h
        exact fs_setf c.cl (c.noat _ h.2) (hf _) (hf _) (swaps_ok h.1 _ _ _)
      · exact fs_nope
    · split
      · rename_i h
        obtain ⟨h1, h2, h3, h4⟩ := h
        split
        · rename_i i fs hi hfs
          split
          · rename_i hall
            obtain ⟨d1, d2⟩ := okName_of h3
            exact fs_setu c.hK c.calm (by rw [c.N]; exact find_ok hi) (c.vis h4) d1 d2 c.cl (fun f hf => c.noat f (List.all_eq_true.mp hall f hf)) hfs (hf _) (sole_ok h1 _ _) (stores_ok (.inl h2) _)
          · exact fs_nope
        · exact fs_nope
      · exact fs_nope
    · split
      · rename_i h
        exact fs_seti (hf _) (hf _) (hf _) (fun v => sub_asg h.2 v) (sole_ok h.1 _ _) store1
      · exact fs_nope
    · split
      · rename_i h
        split
        · rename_i g hg
          obtain ⟨g1, g2⟩ := hG _ _ hg
          exact fs_asg (hf _) g1 g2 (swaps_ok h.1 _ _ _) (stores_ok (.inl h.2) _)
        · exact fs_nope
      · split
        · split
          · rename_i h
            split
            · rename_i g hg
              obtain ⟨g1, g2⟩ := hG _ _ hg
              exact fs_asg (hf _) g1 g2 (sole_ok h _ _) (stores_ok (.inr rfl) _)
            · exact fs_nope
          · exact fs_nope
        · split
          · split
            · rename_i i j hi hj
              split
              · rename_i h
                have h1 := h.1
                rw [← c.nm] at h1
                unfold parOk at h1
                simp only [Bool.and_eq_true, Bool.not_eq_true', decide_eq_true_eq, beq_iff_eq] at h1
                obtain ⟨⟨⟨⟨⟨⟨⟨l1, l2⟩, _⟩, _⟩, s1⟩, s2⟩, _⟩, _⟩ := h1
                exact fs_par c.calm (by rw [c.N]; exact c.nd) (by rw [c.N]; exact find_ok hi) (by rw [c.N]; exact find_ok hj) h.2 l1 l2 (fa_cons s1 (hf _) (fa_cons s2 (hf _) fa_nil)) (par_ok c.blk (by rw [c.nm]; exact h.1))
              · exact snd_TT c hf hG
            · exact fs_nope
          · exact fs_nope
        · split
          · split
            · rename_i i j l hi hj hl
              split
              · rename_i h
                obtain ⟨hp, d1, d2, d3⟩ := h
                have h1 := hp
                rw [← c.nm] at h1
                unfold par3Ok at h1
                simp only [Bool.and_eq_true, Bool.not_eq_true', decide_eq_true_eq, beq_iff_eq] at h1
                obtain ⟨⟨⟨⟨⟨⟨⟨⟨⟨⟨⟨⟨l1, l2⟩, l3⟩, _⟩, _⟩, _⟩, _⟩, _⟩, s1⟩, s2⟩, s3⟩, _⟩, _⟩ := h1
                exact fs_par3 c.calm (by rw [c.N]; exact c.nd) (by rw [c.N]; exact find_ok hi) (by rw [c.N]; exact find_ok hj) (by rw [c.N]; exact find_ok hl) d1 d2 d3 l1 l2 l3 (fa_cons s1 (hf _) (fa_cons s2 (hf _) (fa_cons s3 (hf _) fa_nil))) (par3_ok c.blk (by rw [c.nm]; exact hp))
              · exact snd_TT c hf hG
            · exact fs_nope
          · exact fs_nope
        · exact snd_TT c hf hG
  · exact fs_if (ht _) (hb _) (hb _)
  · split
    · rename_i h
      split
      · rename_i g hg
        exact fs_for c.pass c.calm (s_it c.toCtOk0 hf _ _) (hG _ _ hg).1 (hb _) (set_ok h _)
      · exact fs_nope
    · exact fs_nope
  · exact fs_whl c.pass (ht _) (hb _)
  · rename_i x p e es pos pos'
    split
    · rename_i h
      split
      · rename_i d fls np hd
        split
        · rename_i hz
          obtain ⟨fI, fd, ps, a1, a2, a3, a4, a5, a6, a7, a8, a9⟩ := c.exk x d fls np hd
          have hl : lenEs (cEs (cE n ct.toCt) (e :: es)) = es.length + 1 := cEs_len _
          exact fs_rse c.calm c.tk a1 a2 a3 a4 (c.room.mono (by omega)) a5 (by rw [hl, ← a6]; exact hz.1) (by rw [hl]; omega) a7 a8 (c.gl h.2.1) a9 (okName_of h.1).1 h.2.2 (s_es hf _ h.2.2)
        · exact fs_nope
      · exact fs_nope
    · exact fs_nope
  · exact fs_pass
  · exact fs_brk
  · exact fs_cont
  · exact fs_nope
theorem snd_Ss : ∀ n, (∀ (ct : Cs) (X : Cx) (Wx : WX), CsOk ct X G O fi k Wx → ∀ s, PS X s (tS G Wx (exS O (cS n ct s)))) ∧ (∀ (ct : Cs) (X : Cx) (Wx : WX), CsOk ct X G O fi k Wx → ∀ b, PSs X b (tS G Wx (exSs O (cSs n ct b))))
  | 0 => ⟨fun ct X Wx c s => by unfold cS; exact fs_nope, fun ct X Wx c b => by
    unfold cSs
    exact ⟨fun pins s σ H D I ⟨ρ, w, _, _, _, h⟩ => h.elim⟩⟩
  | n + 1 => by
    obtain ⟨i1, i2⟩ := snd_Ss n
    refine ⟨snd_S i2, fun ct X Wx c b => ?_⟩
    cases b with
    | nil => exact fs_nil
    | cons s r => exact fs_cons (i1 ct X Wx c s) (i2 ct X Wx c r)
end
end FD

set_option Elab.async false
set_option linter.all false
set_option autoImplicit false
set_option maxRecDepth 100000
set_option maxHeartbeats 4000000
/-! FEj: inside a comprehension. -/
namespace FD
open PySem PySem.Spec PyProof.Rows L2
section
variable {ct : Ct} {X : Cx} {G : Ga} {O : Or} {fi : Nat → FnI} {k : Nat} {Wx : WX}
end
end FD

set_option Elab.async false
set_option linter.all false
set_option autoImplicit false
set_option maxRecDepth 100000
set_option maxHeartbeats 4000000
/-! FEk: inside a lambda. -/
namespace FD
open PySem PySem.Spec PyProof.Rows L2 LamX
section
variable {ct : Ct} {X : Cx} {G : Ga} {O : Or} {fi : Nat → FnI} {k : Nat} {Wx : WX}
theorem lam_cx (c : CtOk0 ct X G O fi k Wx) {scope : Scope} {A : Around} {outer : List PySem.Env} {s : Shared} {H : Hp} {Ec : XK} {f c' : Addr} (hr : Room (k + 8) (A.deeper (lamEnv X scope s.heap.objs.size f c'))) (hg : A.guards = some []) :
    CtOk0 (ct.lam scope) (lamCx X A outer s H Ec scope f c') G O fi k (fun cls d _ H => Ec cls d H) where
  N := c.N
  nd := c.nd
  nm := rfl
  kind := rfl
  hK := c.hK
  calm := rfl
  gd := hg
  room := hr
  tk := takes_of rfl rfl rfl (by rfl)
  C := c.C
  M := c.M
  ops := c.ops
  cl := c.cl
  noat := c.noat
  fnk := c.fnk
  bdk := c.bdk
  mkk := c.mkk
  clk := c.clk
  statk := c.statk
  cstk := c.cstk
  gcdk := c.gcdk
  bltk := c.bltk
  nmk := c.nmk
end
end FD

set_option Elab.async false
set_option linter.all false
set_option autoImplicit false
set_option maxRecDepth 100000
set_option maxHeartbeats 4000000
/-! FEl: the lambdas of a def. -/
namespace FD
open PySem PySem.Spec PyProof.Rows L2 LamX
section
variable {ct : Ct} {X : Cx} {G : Ga} {O : Or} {fi : Nat → FnI} {k : Nat} {Wx : WX}
theorem params_nil {p : Arguments} (h : noParams p = true) : p = ⟨[], [], none, [], [], none, []⟩ := by
  unfold noParams at h
  split at h
  · rfl
  · cases h
theorem lamS_ct (c : CtOk0 ct X G O fi k Wx) {scope : Scope} (h : lamSB ct.sc scope = true) : LamS X.env.scope scope := by
  refine lamS_by ?_
  unfold lamSB at h ⊢
  rw [c.nm]
  exact h
/-- what a def must be, to be told lambdas -/
structure TolD (ct : Ct) (X : Cx) (G : Ga) (O : Or) (x : Str) (hsx : Hsx) : Prop where
  ex : ∃ (h₀ : ExceptHandler) (hds : List ExceptHandler) (a : Str) (g : Addr) (nj : Nat) (pg : Arguments) (sg : Scope) (dV kV doc pm cdv cty oc : Value) (an od : Option Addr) (osl : Array (Option Value)) (Ng : List Str) (p1 p2 p3 p4 p5 np : Pos),
    X.mg x = some (.ref g) ∧ PySem.W.keepIn X.K (.ref g) = true ∧
    X.K.lookup g = some ⟨oc, od, .func (PySem.W.fnOf x x pg (.Try [.Expr (.Call (.Name a p1) [] [] p2) p3] (h₀ :: hds) [] [] p4 :: [.Return (some (.Constant .none nj np)) p5]) sg dV kV doc pm an cdv cty), osl⟩ ∧
    PySem.W.codeIn X.K cdv x = true ∧
    L2.Binds X.K (PySem.W.fnOf x x pg (.Try [.Expr (.Call (.Name a p1) [] [] p2) p3] (h₀ :: hds) [] [] p4 :: [.Return (some (.Constant .none nj np)) p5]) sg dV kV doc pm an cdv cty) [a] [] ∧
    FnScope Ng [a] sg ∧ Ng[0]? = some a ∧ Vis sg a ∧
    (∀ (s : Shared) (H : Hp), ClasOk (cxOf C8.CX0 X.prog X.w X.K X.mg X.base Ng x sg g cdv X.A X.stack s H C8.E0).nox (h₀ :: hds) (clasH G hsx)) ∧ (∀ t ∈ hsx, ∀ i, t.2.1 = some i → i < Ng.length) ∧
    (a == ("__debug__" : Str)) = false ∧ (a == ("__classdict__" : Str)) = false
theorem told_of (c : CtOk0 ct X G O fi k Wx) {cc P : Addr} (hr : Room (k + 10) X.A) (hE : ∀ c d, PySem.W.exmOne X.K (.ref (G.xa c)) (.ref (G.xa d)) = some (O.exSub c d)) (TB : TabB X.base X.mg cc P) (hcode : X.env.code = .ref cc)
    (ht : ∀ x hs tb q kc, ct.told x = some (hs, tb, q, kc) → tb = P ∧ q = X.env.qual ++ "<lambda>" ∧ Gl X x ∧ (x == ("__debug__" : Str)) = false ∧ TolD ct X G O x hs) : ToldOk ct X G O fi k Wx := by
  intro x hs tb q kc hx params body scope p lpos pos e hp hl hb
  obtain ⟨rfl, rfl, hg, hdb, ⟨h₀, hds, a, g, nj, pg, sg, dV, kV, doc, pm, cdv, cty, oc, an, od, osl, Ng, p1, p2, p3, p4, p5, np, a1, a2, a3, a4, a5, a6, a7, a8, a9, b1, b2, b3⟩⟩ := ht x hs tb q kc hx
  have hp := params_nil hp
  subst hp
  exact fe_lamc (k := k + 8) hg a1 a2 a3 a4 a5 a6 a7 a8 hE a9 b1 TB hcode hr c.gd (lamS_ct c hl) rfl (fun _ _ _ _ _ => rfl) (fun A outer s H Ec f c' h1 h2 => hb _ _ (lam_cx c h1 h2)) hdb b2 b3 fun env => rfl
end
end FD

set_option Elab.async false
set_option linter.all false
set_option autoImplicit false
set_option maxRecDepth 100000
set_option maxHeartbeats 2000000
/-! FFa: a law's program as data; what a Hook tells of the heap behind its top. -/
namespace FD
open PySem PySem.Spec PyProof.Rows L2

/-- a def of the text -/
structure DD where
  own : Option Str
  stat : Bool
  name : Str
  params : Arguments
  body : List Stmt
  scope : Scope
  more : List Str
def argNames (p : Arguments) : List Str := (p.posonlyargs ++ p.args ++ p.kwonlyargs).map (·.arg) ++ (match p.vararg with | some a => [a.arg] | none => [])
def DD.ps (d : DD) : List Str := argNames d.params
def isLoc : NameKind → Bool
  | .local => true
  | .cell => true
  | _ => false
def freeNames (sc : Scope) : List Str := (sc.names.filter fun y => decide (y.2 = .free)).map (·.1)
/-- slots: the parameters, free names, other names, names of comprehensions -/
def DD.N (d : DD) : List Str := d.ps ++ freeNames d.scope ++ (((d.scope.names.filter fun y => isLoc y.2).map (·.1)).filter fun y => !(d.ps).contains y) ++ d.more
def DD.qual (d : DD) : Str := match d.own with
  | none => d.name
  | some C => C ++ "." ++ d.name
def ddOf (mr : Str → List Str) (own : Option Str) : Stmt → Option DD
  | .FunctionDef name params body decs _ _ scope _ _ _ => some ⟨own, match decs with | [.Name x _] => x == "staticmethod" | _ => false, name, params, body, scope, mr (match own with | none => name | some C => C ++ "." ++ name)⟩
  | _ => none
def ddsOf (mr : Str → List Str) : List Stmt → List DD
  | [] => []
  | .ClassDef C _ _ body _ _ _ _ _ _ _ :: r => body.filterMap (ddOf mr (some C)) ++ ddsOf mr r
  | s :: r => (match ddOf mr none s with | some d => [d] | none => []) ++ ddsOf mr r

/-! ### addresses -/
/-- the record of a static method -/
def statRec (K : PySem.W.Frag) (C : Addr) (m : Str) : Addr := match PySem.W.findIn K (.ref C) m with
  | some (some (.ref p)) => p
  | _ => 0
def statFn (K : PySem.W.Frag) (C : Addr) (m : Str) : Addr := match PySem.W.recIn K (statRec K C m) "staticmethod" with
  | some (.ref g :: _) => g
  | _ => 0
def DD.ad (K : PySem.W.Frag) (d : DD) : Addr := match d.own with
  | none => He.ga K d.name
  | some C => if d.stat = true then statFn K (He.ga K C) d.name else He.ma K (He.ga K C) d.name
def fdAt (K : PySem.W.Frag) (a : Addr) : FuncData := match K.lookup a with
  | some ⟨_, _, .func fd, _⟩ => fd
  | _ => default
abbrev FnZ : Type := Option (Str × Str × Arguments × FuncBody × Scope × Addr × Addr)
def fnZ (K : PySem.W.Frag) (a : Addr) : FnZ := match K.lookup a with
  | some ⟨_, _, .func fd, _⟩ => some (fd.name, fd.qualname, fd.params, fd.body, fd.scope, fd.globals, fd.builtins)
  | _ => none
def DD.val (d : DD) : FnZ := some (d.name, d.qual, d.params, .stmts d.body, d.scope, mainGlobals, builtinsNs)
/-- a plain def, its defaults -/
def DD.okB (K : PySem.W.Frag) (dvs : List V) (d : DD) : Bool := PySem.W.keepIn K (.ref (d.ad K)) && (match K.lookup (d.ad K) with
  | some ⟨_, _, .func fd, _⟩ => fd.closure.isEmpty && (PySem.W.codeIn K fd.code d.qual && He.dflB K fd.defaults dvs)
  | _ => false)
theorem DD.funD {K : PySem.W.Frag} {dvs : List V} {d : DD} (e : fnZ K (d.ad K) = d.val) (c : d.okB K dvs = true) : FunD K d.name d.qual d.params d.body d.scope dvs [] (d.ad K) (fdAt K (d.ad K)) := by
  obtain ⟨kp, c2⟩ := He.ba c
  unfold fnZ at e
  unfold fdAt
  cases q : K.lookup (d.ad K) with
  | none =>
    rw [q] at c2
    cases c2
  | some o =>
    obtain ⟨oc, od, dt, osl⟩ := o
    rw [q] at c2 e
    cases dt with
    | func fd =>
      obtain ⟨n1, n2, n3, n4, n5, n6, n7, n8, n9, n10, n11, n12, n13, n14, n15⟩ := fd
      have e2 : (some (n1, n2, n3, n4, n5, n6, n15) : FnZ) = some (d.name, d.qual, d.params, .stmts d.body, d.scope, mainGlobals, builtinsNs) := e
      simp only [Option.some.injEq, Prod.mk.injEq] at e2
      obtain ⟨h1, h2, h3, h4, h5, h6, h7⟩ := e2
      subst h1 h2 h3 h4 h5 h6 h7
      obtain ⟨k0, k1⟩ := He.ba c2
      obtain ⟨k1, k2⟩ := He.ba k1
      have k0 : n7 = [] := List.isEmpty_iff.mp k0
      subst k0
      exact ⟨⟨oc, od, n8, n9, n10, n11, n12, n13, n14, osl, rfl, q, k1, He.dflB_ok k2, .inl rfl⟩, kp⟩
    | _ => cases c2

/-! ### the Hook -/
def asZ (g : Addr → Option Obj) : Nat → List Addr
  | 0 => [mainGlobals, cStatics]
  | n + 1 => He.growD g (asZ g n)
abbrev AlZ : Type := List FnZ × Bool
def tabsZ (g : Addr → Option Obj) (tf : PySem.W.Frag → List Addr) (K : PySem.W.Frag) : Bool := (tf K).all fun c => PySem.W.codeHdIn K c (He.tabOf K c) && (match g (He.tabOf K c) with
  | some o => He.emptyTab o
  | none => false)
def obsZ (n : Nat) (ds : List DD) (tf : PySem.W.Frag → List Addr) (ex : PySem.W.Frag → Bool) (g : Addr → Option Obj) : AlZ :=
  let K := He.frT g (asZ g n)
  (ds.map fun d => fnZ K (d.ad K), ex K && tabsZ g tf K)
def valZ (ds : List DD) : AlZ := (ds.map DD.val, true)
structure SaysZ (ds : List DD) (tf : PySem.W.Frag → List Addr) (ex : PySem.W.Frag → Bool) (h : Heap) (K : PySem.W.Frag) : Prop where
  fn : ∀ d ∈ ds, fnZ K (d.ad K) = d.val
  more : ex K = true
  hd : ∀ c ∈ tf K, PySem.W.codeHdIn K c (He.tabOf K c) = true
  out : ∀ c ∈ tf K, K.lookup (He.tabOf K c) = none
  empty : ∀ c ∈ tf K, h.get? (He.tabOf K c) = some { cls := .none, data := .fields #[] }
theorem saysZ_of {n : Nat} {ds : List DD} {tf : PySem.W.Frag → List Addr} {ex : PySem.W.Frag → Bool} {h : Heap} (e : obsZ n ds tf ex h.get? = valZ ds) : SaysZ ds tf ex h (He.frT h.get? (asZ h.get? n)) := by
  have e1 : (ds.map fun d => fnZ (He.frT h.get? (asZ h.get? n)) (d.ad (He.frT h.get? (asZ h.get? n)))) = ds.map DD.val := congrArg (fun z : AlZ => z.1) e
  have e2 : (ex (He.frT h.get? (asZ h.get? n)) && tabsZ h.get? tf (He.frT h.get? (asZ h.get? n))) = true := congrArg (fun z : AlZ => z.2) e
  obtain ⟨h1, h2⟩ := He.ba e2
  have key : ∀ c ∈ tf (He.frT h.get? (asZ h.get? n)), PySem.W.codeHdIn (He.frT h.get? (asZ h.get? n)) c (He.tabOf (He.frT h.get? (asZ h.get? n)) c) = true ∧ ∃ o, h.get? (He.tabOf (He.frT h.get? (asZ h.get? n)) c) = some o ∧ He.emptyTab o = true := fun c hc => by
    obtain ⟨h3, h4⟩ := He.ba (List.all_eq_true.mp h2 c hc)
    refine ⟨h3, ?_⟩
    cases q : h.get? (He.tabOf (He.frT h.get? (asZ h.get? n)) c) with
    | none =>
      rw [q] at h4
      cases h4
    | some o =>
      rw [q] at h4
      exact ⟨o, rfl, h4⟩
  refine ⟨fun d hd => ?_, h1, fun p hp => (key p hp).1, fun p hp => ?_, fun p hp => ?_⟩
  · exact List.map_inj_left.mp e1 d hd
  · obtain ⟨_, o, q, z⟩ := key p hp
    exact He.frT_none q z
  · obtain ⟨_, o, q, z⟩ := key p hp
    rw [q, He.emptyTab_eq z]
def hookZ (n : Nat) (ds : List DD) (tf : PySem.W.Frag → List Addr) (ex : PySem.W.Frag → Bool) : PySem.W.Hook where
  α := AlZ
  obs := fun s => obsZ n ds tf ex s.heap.get?
  val := fun _ => valZ ds
  says := fun _ h => ∃ K : PySem.W.Frag, K.In h ∧ SaysZ ds tf ex h K
  of := fun _ _ e => ⟨_, He.frT_in, saysZ_of e⟩
  keeps := fun _ _ _ ⟨K, hK, c⟩ k => ⟨K, PySem.W.Frag.In.keeps hK k, ⟨c.fn, c.more, c.hd, c.out, fun p hp => k _ _ (c.empty p hp)⟩⟩
theorem obsZ_eq {n : Nat} {ds : List DD} {tf : PySem.W.Frag → List Addr} {ex : PySem.W.Frag → Bool} {g : Addr → Option Obj} {s : Shared} (h : ∀ a, g a = s.heap.get? a) : obsZ n ds tf ex g = (hookZ n ds tf ex).obs s := by
  have e : g = s.heap.get? := funext h
  rw [e]
  rfl
end FD

set_option Elab.async false
set_option linter.all false
set_option autoImplicit false
set_option maxRecDepth 100000
set_option maxHeartbeats 2000000
/-! FFb: binding by shapes. -/
namespace FD
open PySem PySem.Spec PyProof.Rows L2
/-- where a parameter's value comes from: a value of the call, a default -/
inductive Sx where
  | a (i : Nat) | d (j : Nat) | s (i : Nat)
  deriving DecidableEq
def sxU (us its : List Value) : List Sx → List Value
  | [] => []
  | .a i :: r => us.getD i .none :: sxU us its r
  | .d j :: r => its.getD j .none :: sxU us its r
  | .s _ :: r => .none :: sxU us its r
/-- the call binds so, whatever the values -/
def BdS (params : Arguments) (ps : List Str) (nd np : Nat) (ks : List Str) (pm : List Sx) : Prop :=
  ∀ (name qual : Str) (body : FuncBody) (scope : Scope) (gl : Addr) (cl : List (Str × Addr)) (T : Addr) (kV doc pmo : Value) (an : Option Addr) (cdv ct : Value) (bt : Addr) (us ws its : List Value), us.length = np → ws.length = ks.length → its.length = nd →
    (nd ≠ 0 → ∃ k : Option (Array Value) → Sem (List (Str × Value)), bindArgs ⟨name, qual, params, body, scope, gl, cl, .ref T, kV, doc, pmo, an, cdv, ct, bt⟩ ⟨us, ks.zip ws⟩ = seqItems? (.ref T) >>= k ∧ k (some its.toArray) = pure (ps.zip (sxU (us ++ ws) its pm))) ∧
    (nd = 0 → bindArgs ⟨name, qual, params, body, scope, gl, cl, .none, kV, doc, pmo, an, cdv, ct, bt⟩ ⟨us, ks.zip ws⟩ = pure (ps.zip (sxU (us ++ ws) [] pm)))
def srcOf (dp : List P) : Sx → Src
  | .a i => .a i
  | .d j => .d (dp.getD j .non)
  | .s i => .star i
section
variable {P0 : Program} {w : World} {K : PySem.W.Frag} {mg : Str → Option Value} {base : Heap} {G : Ga}
theorem vals_at : ∀ {vs : List V} {us : List Value} {i : Nat}, Vals vs us → i < vs.length → ∃ v, vs[i]? = some v ∧ RelV v (us.getD i .none)
  | _, _, 0, .cons r _, _ => ⟨_, rfl, r⟩
  | _, _, i + 1, .cons _ t, h => by
    obtain ⟨v, e, r⟩ := vals_at (i := i) t (by simpa using h)
    exact ⟨v, by simpa using e, by simpa using r⟩
  | _, _, _, .nil, h => by simp at h
/-- the places that are named are there -/
def sxOk (n m : Nat) : List Sx → Bool
  | [] => true
  | .a i :: r => decide (i < n) && sxOk n m r
  | .d j :: r => decide (j < m) && sxOk n m r
  | .s _ :: _ => false
theorem sx_vals {H : Hp} {dp : List P} {dvs : List V} (hd : dvs = dp.map (flatV G)) {vs : List V} {us : List Value} {its : List Value} (r : Vals vs us) (ri : Vals dvs its) : ∀ (pm : List Sx), sxOk vs.length dp.length pm = true →
    ∃ xs, Vals xs (sxU us its pm) ∧ xs.length = pm.length ∧ GdOf G (pm.map (srcOf dp)) vs H xs H
  | [], _ => ⟨[], .nil, rfl, rfl, rfl⟩
  | .a i :: pm, h => by
    obtain ⟨h1, h2⟩ := Bool.and_eq_true_iff.mp (show (decide (i < vs.length) && sxOk vs.length dp.length pm) = true from h)
    obtain ⟨xs, r1, r2, r3⟩ := sx_vals hd r ri pm h2
    obtain ⟨v, e, rv⟩ := vals_at r (of_decide_eq_true h1)
    exact ⟨v :: xs, .cons rv r1, by simp [r2], v, xs, e, rfl, r3⟩
  | .s i :: pm, h => by cases h
  | .d j :: pm, h => by
    obtain ⟨h1, h2⟩ := Bool.and_eq_true_iff.mp (show (decide (j < dp.length) && sxOk vs.length dp.length pm) = true from h)
    obtain ⟨xs, r1, r2, r3⟩ := sx_vals hd r ri pm h2
    have hj := of_decide_eq_true h1
    obtain ⟨v, e, rv⟩ := vals_at ri (i := j) (by rw [hd, List.length_map]; exact hj)
    refine ⟨v :: xs, .cons rv r1, by simp [r2], xs, ?_, r3⟩
    rw [hd, List.getElem?_map, List.getElem?_eq_getElem hj] at e
    cases e
    simp [List.getD, List.getElem?_eq_getElem hj]
theorem sxU_ids : ∀ (us l r : List Value), us = l ++ r → sxU us [] ((List.range' l.length r.length).map Sx.a) = r
  | us, l, [], _ => rfl
  | us, l, x :: r, h => by
    show us.getD l.length .none :: sxU us [] ((List.range' (l.length + 1) r.length).map Sx.a) = x :: r
    have e : us.getD l.length .none = x := by rw [h]; simp
    have q := sxU_ids us (l ++ [x]) r (by rw [h]; simp)
    rw [List.length_append] at q
    rw [e]
    exact congrArg (x :: ·) q
def sxIds (n : Nat) : List Sx := (List.range' 0 n).map Sx.a
theorem sxU_all (us : List Value) : sxU us [] (sxIds us.length) = us := sxU_ids us [] us rfl
theorem vals_len : ∀ {vs : List V} {us : List Value}, Vals vs us → us.length = vs.length
  | _, _, .nil => rfl
  | _, _, .cons _ t => by simp [vals_len t]
theorem bd_of {d : DD} {dp : List P} {np : Nat} {ks : List Str} {pm : List Sx} (F : FunD K d.name d.qual d.params d.body d.scope (dp.map (flatV G)) [] (d.ad K) (fdAt K (d.ad K))) (S : BdS d.params d.ps dp.length np ks pm) (hl : pm.length = d.ps.length) (ho : sxOk (np + ks.length) dp.length pm = true) :
    BdOk P0 w K mg base G ⟨d.ad K, fdAt K (d.ad K), d.ps⟩ np ks (pm.map (srcOf dp)) := by
  intro A outer s H us ws vs zs E e0 rv rz l1 l2 A' Ex Q h
  obtain ⟨oc, od, dV, kV, doc, pmo, an, cdv, ct, osl, ef, lk, hcd, hD, hK⟩ := F.ex
  have KX : K.In s.heap := e0.mod.kin.keeps fun b o e => (e0.bs b o e).1
  have lv : (vs ++ zs).length = np + ks.length := by rw [List.length_append, ← vals_len rv, ← vals_len rz, l1, l2]
  have fin : ∀ its : List Value, Vals (dp.map (flatV G)) its → Q (d.ps.zip (sxU (us ++ ws) its pm)) s := fun its ri => by
    obtain ⟨xs, r1, r2, r3⟩ := sx_vals (H := H) (G := G) rfl (rv.append rz) ri pm (by rw [lv]; exact ho)
    exact h s H xs _ e0 Un.refl rfl (fun _ _ z => z) r1 (r2.trans hl) r3
  show wpAny (model P0 w) A' (bindArgs (fdAt K (d.ad K)) ⟨us, ks.zip ws⟩) Q Ex s
  rw [ef]
  rcases hD with ⟨e, rfl⟩ | ⟨hne, T, o, its, m, rfl, lT, oT, rT⟩
  · have e0' : dp = [] := List.map_eq_nil_iff.mp e
    subst e0'
    obtain ⟨_, hz⟩ := S d.name d.qual (.stmts d.body) d.scope mainGlobals [] 0 kV doc pmo an cdv ct builtinsNs us ws [] l1 l2 rfl
    rw [hz rfl]
    exact wpAny_pure (fin [] .nil)
  · have li : its.length = dp.length := by rw [vals_len rT, List.length_map]
    obtain ⟨hk, _⟩ := S d.name d.qual (.stmts d.body) d.scope mainGlobals [] T kV doc pmo an cdv ct builtinsNs us ws its l1 l2 li
    obtain ⟨k, e1, e2⟩ := hk (fun z => hne (by rw [List.length_eq_zero_iff.mp z]; rfl))
    rw [show bindArgs (PySem.W.fnOf d.name d.qual d.params d.body d.scope (.ref T) kV doc pmo an cdv ct) ⟨us, ks.zip ws⟩ = seqItems? (.ref T) >>= k from e1]
    exact (looks_items KX lT oT (.of_pure e2) : PySem.W.Looks (model P0 w) s.heap _ _).here (fin its rT)
/-- .. every value by place, no default -/
theorem binds_of {d : DD} {dV kV doc pmo cdv ct : Value} {an : Option Addr} {cl : List (Str × Addr)} {np : Nat} {pm : List Sx} (S : BdS d.params d.ps 0 np [] pm) (hn : np = d.ps.length) (hp : ∀ us : List Value, us.length = np → sxU us [] pm = us) (hdV : dV = .none) :
    Binds K ⟨d.name, d.qual, d.params, .stmts d.body, d.scope, mainGlobals, cl, dV, kV, doc, pmo, an, cdv, ct, builtinsNs⟩ d.ps [] := by
  subst hdV
  intro s us KX hl
  rw [List.append_nil] at hl ⊢
  obtain ⟨_, hz⟩ := S d.name d.qual (.stmts d.body) d.scope mainGlobals cl 0 kV doc pmo an cdv ct builtinsNs us [] [] (by rw [hl, hn]) rfl rfl
  have hz := hz rfl
  rw [List.append_nil, hp us (by rw [hl, hn])] at hz
  exact .of_eq hz
end
/-! ### the last parameter takes what is left over -/
def isStr (pm : List Sx) : Bool := pm.any fun x => match x with
  | .s _ => true
  | _ => false
def BdStar (params : Arguments) (ps : List Str) (n np : Nat) : Prop :=
  ∀ (name qual : Str) (body : FuncBody) (scope : Scope) (gl : Addr) (cl : List (Str × Addr)) (kV doc pmo : Value) (an : Option Addr) (cdv ct : Value) (bt : Addr) (us : List Value), us.length = np →
    bindArgs ⟨name, qual, params, body, scope, gl, cl, .none, kV, doc, pmo, an, cdv, ct, bt⟩ ⟨us, []⟩ = (newTuple (us.drop n) >>= fun t => pure (ps.zip (us.take n ++ [t])))
def BdX (params : Arguments) (ps : List Str) (nd np : Nat) (ks : List Str) (pm : List Sx) : Prop :=
  if isStr pm = true then nd = 0 ∧ ks = [] ∧ ∃ n, pm = sxIds n ++ [.s n] ∧ n + 1 = ps.length ∧ n ≤ np ∧ np ≤ 1000 ∧ BdStar params ps n np else BdS params ps nd np ks pm
/-- a def's data, whatever it captures; no default -/
def FdS (K : PySem.W.Frag) (d : DD) : Prop := ∃ (cl : List (Str × Addr)) (kV doc pmo : Value) (an : Option Addr) (cdv ct : Value), fdAt K (d.ad K) = ⟨d.name, d.qual, d.params, .stmts d.body, d.scope, mainGlobals, cl, .none, kV, doc, pmo, an, cdv, ct, builtinsNs⟩
section
variable {P0 : Program} {w : World} {K : PySem.W.Frag} {mg : Str → Option Value} {base : Heap} {G : Ga} {d : DD}
theorem bd_s {np : Nat} {ks : List Str} {pm : List Sx} (F : FdS K d) (S : BdS d.params d.ps 0 np ks pm) (hl : pm.length = d.ps.length) (ho : sxOk (np + ks.length) 0 pm = true) :
    BdOk P0 w K mg base G ⟨d.ad K, fdAt K (d.ad K), d.ps⟩ np ks (pm.map (srcOf [])) := by
  intro A outer s H us ws vs zs E e0 rv rz l1 l2 A' Ex Q h
  obtain ⟨cl, kV, doc, pmo, an, cdv, ct, ef⟩ := F
  have lv : (vs ++ zs).length = np + ks.length := by rw [List.length_append, ← vals_len rv, ← vals_len rz, l1, l2]
  obtain ⟨xs, r1, r2, r3⟩ := sx_vals (H := H) (G := G) (dp := []) (dvs := []) rfl (rv.append rz) .nil pm (by rw [lv]; exact ho)
  obtain ⟨_, hz⟩ := S d.name d.qual (.stmts d.body) d.scope mainGlobals cl 0 kV doc pmo an cdv ct builtinsNs us ws [] l1 l2 rfl
  show wpAny (model P0 w) A' (bindArgs (fdAt K (d.ad K)) ⟨us, ks.zip ws⟩) Q Ex s
  rw [ef, hz rfl]
  exact wpAny_pure (h s H xs _ e0 Un.refl rfl (fun _ _ z => z) r1 (r2.trans hl) r3)
theorem gd_star {H : Hp} {q : Addr} {n : Nat} {all : List V} (hq : H q = none) : ∀ (l r t : List V), all = l ++ r ++ t → GdOf G ((List.range' l.length r.length).map Src.a ++ [.star n]) all H (r ++ [.ref q]) (upd H q (.tup (all.drop n)))
  | l, [], t, h => ⟨q, [], hq, rfl, rfl, rfl⟩
  | l, x :: r, t, h => by
    have z := gd_star (n := n) (all := all) hq (l ++ [x]) r t (by rw [h]; simp)
    rw [List.length_append] at z
    exact ⟨x, r ++ [.ref q], by rw [h]; simp, rfl, z⟩
theorem bd_star {n np : Nat} (F : FdS K d) (S : BdStar d.params d.ps n np) (hl : n + 1 = d.ps.length) (hn : n ≤ np) (hz : np ≤ 1000) :
    BdOk P0 w K mg base G ⟨d.ad K, fdAt K (d.ad K), d.ps⟩ np [] ((sxIds n ++ [Sx.s n]).map (srcOf [])) := by
  intro A outer s H us ws vs zs E e0 rv rz l1 l2 A' Ex Q h
  obtain ⟨cl, kV, doc, pmo, an, cdv, ct, ef⟩ := F
  have e1 : ws = [] := List.length_eq_zero_iff.mp l2
  subst e1
  cases rz
  have lv : vs.length = np := by rw [← vals_len rv, l1]
  have rv2 : Vals (vs.take n ++ vs.drop n) us := by rw [List.take_append_drop]; exact rv
  obtain ⟨u1, u2, eu, r1, r2⟩ := StX.vals_split rv2
  subst eu
  have t1 : u1.length = n := by rw [vals_len r1, List.length_take, lv]; omega
  have hn0 : H s.heap.objs.size = Option.none := e0.hok.fresh (Nat.le_refl _)
  have small : u2.length ≤ sizeLine := by
    rw [List.length_append] at l1
    have : (1000 : Nat) ≤ sizeLine := by decide
    omega
  show wpAny (model P0 w) A' (bindArgs (fdAt K (d.ad K)) ⟨u1 ++ u2, []⟩) Q Ex s
  rw [ef, S _ _ _ _ _ _ _ _ _ _ _ _ _ (u1 ++ u2) l1, List.drop_left' t1, List.take_left' t1]
  refine wpAny_bind (wpAny_newTuple (wpAny_pure ?_) small)
  have made : ObjOk P0 w (upd H s.heap.objs.size (.tup (vs.drop n))) (s.heap.push ({ cls := .type "tuple", data := .seq u2.toArray } : Obj)) s.heap.objs.size (.tup (vs.drop n)) := ⟨by rw [← vals_len r2]; exact small, u2, r2, ⟨_, Heap.get?_push_size _ rfl, rfl, _, rfl⟩⟩
  have un := StX.un_laid (fs := frs outer) (s := s) (o := ({ cls := .type "tuple", data := .seq u2.toArray } : Obj)) (u := .tup (vs.drop n)) hn0
  refine h _ _ (vs.take n ++ [V.ref s.heap.objs.size]) (u1 ++ [Value.ref s.heap.objs.size]) (StX.env0_laid e0 made) un rfl (fun e s' => StX.cxUp outer s H _ _ E e s' un (fun b o q => Heap.get?_push_of_some _ q) rfl) (r1.append (.cons rfl .nil)) ?_ ?_
  · rw [List.length_append, List.length_take, lv, Nat.min_eq_left hn, ← hl]; rfl
  · rw [List.append_nil, List.map_append]
    have z := gd_star (G := G) (n := n) (all := vs) hn0 [] (vs.take n) (vs.drop n) (by simp)
    have e2 : (sxIds n).map (srcOf []) = (List.range' ([] : List V).length (vs.take n).length).map Src.a := by
      rw [List.length_take, lv, Nat.min_eq_left hn]
      unfold sxIds
      rw [List.map_map]
      rfl
    rw [e2]
    exact z
end
theorem plain_x {params : Arguments} {ps : List Str} {nd np : Nat} {ks : List Str} {pm : List Sx} (h : isStr pm = false) (b : BdS params ps nd np ks pm) : BdX params ps nd np ks pm := by
  unfold BdX
  rw [if_neg (by rw [h]; decide)]
  exact b
theorem star_x {params : Arguments} {ps : List Str} {nd np n : Nat} {ks : List Str} {pm : List Sx} (h : isStr pm = true) (h0 : nd = 0) (h1 : ks = []) (h2 : pm = sxIds n ++ [.s n]) (h3 : n + 1 = ps.length) (h4 : n ≤ np) (h5 : np ≤ 1000) (b : BdStar params ps n np) : BdX params ps nd np ks pm := by
  unfold BdX
  rw [if_pos h]
  exact ⟨h0, h1, n, h2, h3, h4, h5, b⟩
end FD

set_option Elab.async false
set_option linter.all false
set_option autoImplicit false
set_option maxRecDepth 100000
set_option maxHeartbeats 2000000
/-! FFc: a law's facts as one Bool. -/
namespace FD
open PySem PySem.Spec PyProof.Rows L2
/-- an own exception class: those above it, its fields, its __init__ -/
structure XI where
  name : Str
  up : List Nat
  fls : List (Str × Nat)
  f : Nat
abbrev shp (f np : Nat) (ks : List Str) (pm : List Sx) : Nat × Nat × List Str × List Sx := (f, np, ks, pm)
abbrev mtp (c : Nat) (m : Str) (f : Nat) : Nat × Str × Nat := (c, m, f)
structure Lw where
  prog : Program
  more : Str → List Str
  cls : List (Str × List Nat × Nat)
  exs : List XI
  cst : List (Str × P)
  gcd : Bool
  blts : List Str
  fld : List Str
  shapes : List (Nat × Nat × List Str × List Sx)
  mt : List (Nat × Str × Nat)
  stats : List (Str × Str × Nat)
  newl : List Pos
  frz : List Pos
  told : List Str
section
variable (L : Lw)
def Lw.dds : List DD := ddsOf L.more L.prog.main.body
def Lw.isEx (d : DD) : Bool := match d.own with
  | some C => L.exs.any fun x => x.name == C
  | none => false
def clip (n c : Nat) : Nat := if c < n then c else 0
def Lw.cn (i : Nat) : Str := match L.cls[i]? with
  | some x => x.1
  | none => ""
def Lw.xn (i : Nat) : Str := match L.exs[i]? with
  | some x => x.name
  | none => ""
def Lw.up (i : Nat) : List Nat := match L.cls[i]? with
  | some x => x.2.1
  | none => []
def Lw.xup (i : Nat) : List Nat := match L.exs[i]? with
  | some x => x.up
  | none => []
def Lw.ga (K : PySem.W.Frag) : Ga := ⟨K, fun c => He.ga K (L.cn (clip L.cls.length c)), fun _ => 0, fun c => He.ga K (L.xn (clip L.exs.length c))⟩
def cPm : PySem.Expr → P
  | .Constant (.int i) _ _ => .int i
  | .Constant (.bool b) _ _ => .bl b
  | .Constant (.str x) _ _ => .str x
  | _ => .non
def DD.dfl (d : DD) : List P := d.params.defaults.map cPm
def Lw.bdOf (f np : Nat) (ks : List Str) : Option (List Src) := match L.shapes.find? fun s => s.1 == f && s.2.1 == np && s.2.2.1 == ks, L.dds[f]? with
  | some s, some d => if L.isEx d = true then none else some (s.2.2.2.map (srcOf d.dfl))
  | _, _ => none
def Lw.or : Or where
  run := fun _ _ _ => .bad
  isSub := fun d c => (L.up (clip L.cls.length d)).contains (clip L.cls.length c)
  exSub := fun d c => (L.xup (clip L.exs.length d)).contains (clip L.exs.length c)
  meth := fun c m n ks => match L.mt.find? fun t => t.1 == clip L.cls.length c && t.2.1 == m with
    | some t => (L.bdOf t.2.2 (n + 1) ks).map fun pm => (t.2.2, pm)
    | none => none
  cnm := fun c => L.cn (clip L.cls.length c)
def Lw.fi (K : PySem.W.Frag) (f : Nat) : FnI := match L.dds[f]? with
  | some d => ⟨d.ad K, fdAt K (d.ad K), d.ps⟩
  | none => ⟨0, default, []⟩
def ixOf {α : Type} (p : α → Bool) : Nat → List α → Option Nat
  | _, [] => none
  | i, x :: r => if p x = true then some i else ixOf p (i + 1) r
def Lw.fnIx (x : Str) : Option Nat := ixOf (fun d : DD => d.own.isNone && d.name == x) 0 L.dds
def Lw.clIx (x : Str) : Option Nat := ixOf (fun t : Str × List Nat × Nat => t.1 == x) 0 L.cls
/-! defs that are told lambdas -/
def cHI (n : Option Str) : PySem.Expr → Option HI
  | .Constant .none _ _ => some (.cst .non)
  | .Constant (.bool b) _ _ => some (.cst (.bl b))
  | .Constant (.int i) _ _ => some (.cst (.int i))
  | .Constant (.str x) _ _ => some (.cst (.str x))
  | .Attribute (.Name x _) f _ => if n = some x ∧ L.fld.contains f = true then some (.fld f) else none
  | .Call (.Name r _) [.Attribute (.Name x _) f _] [] _ => if r = "repr" ∧ n = some x ∧ L.fld.contains f = true then some (.rpr f) else none
  | _ => none
def cHIs (n : Option Str) : List PySem.Expr → Option (List HI)
  | [] => some []
  | e :: r => match cHI L n e, cHIs n r with
    | some h, some hs => if notStar e = true then some (h :: hs) else none
    | _, _ => none
def cHR (n : Option Str) : PySem.Expr → Option HR
  | .Tuple es _ _ => (cHIs L n es).map HR.tup
  | e => (cHI L n e).map HR.one
def xIx (x : Str) : Option Nat := ixOf (fun t : XI => t.name == x) 0 L.exs
def cH (d : DD) : ExceptHandler → Option (Nat × Option Nat × HR)
  | .ExceptHandler (some (.Name y _)) nm [.Return (some e) _] _ => if d.scope.names.lookup y = some .globalImplicit ∧ okName y = true then (match xIx L y, cHR L nm e with
    | some c, some h => (match nm with
      | none => some (c, none, h)
      | some n => if d.scope.names.lookup n = some .local ∧ okName n = true ∧ d.scope.names.lookup ("repr" : Str) = some .globalImplicit then (match d.N.findIdx? (· == n) with
        | some i => some (c, some i, h)
        | none => none) else none)
    | _, _ => none) else none
  | _ => none
def cHs (d : DD) : List ExceptHandler → Option Hsx
  | [] => some []
  | h :: r => match cH L d h, cHs d r with
    | some x, some xs => some (x :: xs)
    | _, _ => none
def toldHs (d : DD) : Option Hsx := match d.body with
  | [.Try [.Expr (.Call (.Name a _) [] [] _) _] (h₀ :: hds) [] [] _, .Return (some (.Constant .none _ _)) _] => if d.ps = [a] ∧ d.own.isNone = true ∧ (d.scope.names.lookup a = some .local ∨ d.scope.names.lookup a = some .cell) ∧ okName a = true ∧ d.dfl = [] ∧ L.isEx d = false ∧ L.blts.contains "repr" = true then cHs L d (h₀ :: hds) else none
  | _ => none
/-- every value by place -/
def shId (f n : Nat) : Bool := L.shapes.any fun s => s.1 == f && (s.2.1 == n && (s.2.2.1 == [] && decide (s.2.2.2 = sxIds n)))
def hasTab (d : DD) : Bool := d.own.isNone && d.name == "law"
/-- the code's surroundings -/
def Lw.ct (tb : Addr) (d : DD) : Ct where
  N := d.N
  kind := d.scope.kind
  names := d.scope.names
  fn := L.fnIx
  cls := fun x => match L.clIx x with
    | some i => (match L.cls[i]? with
      | some t => some (i, t.2.2)
      | none => none)
    | none => none
  cl := L.clIx
  stat := fun x m => (L.stats.find? fun t => t.1 == x && t.2.1 == m).map fun t => t.2.2
  cst := fun x => L.cst.lookup x
  gcd := fun x => L.gcd && x == "gcd"
  bd := L.bdOf
  fld := fun f => L.fld.contains f
  blt := fun x => L.blts.contains x
  told := fun x => if hasTab d = true ∧ L.told.contains x = true ∧ d.scope.names.lookup x = some .globalImplicit ∧ okName x = true then (match L.fnIx x with
    | some f => if shId L f 1 = true then (match L.dds[f]? with
      | some d' => (toldHs L d').map fun hs => (hs, tb, d.qual ++ ".<locals>." ++ "<lambda>", 0)
      | none => none) else none
    | none => none) else none
  cellOk := true
  newl := fun p => L.newl.contains p
  frz := fun p => L.frz.contains p
def Lw.cs (tb : Addr) (d : DD) : Cs := { L.ct tb d with exc := fun x => match ixOf (fun t : XI => t.name == x) 0 L.exs with
  | some c => (match L.exs[c]? with
    | some t => (match L.dds[t.f]? with
      | some di => if t.fls = [] then none else some (c, t.fls, di.ps.length)
      | none => none)
    | none => none)
  | none => none }
/-! an own class's __init__ that begins with super().__init__(..) -/
def Lw.isSp (d : DD) : Bool := d.own.isSome && (!L.isEx d && decide (d.scope.names.lookup ("__class__" : Str) = some .free))
/-- its class, the __init__ of the class above -/
def Lw.supOf (d : DD) : Option (Nat × Nat) := match d.own with
  | some C => (match L.clIx C with
    | some c => (match L.up c with
      | _ :: b :: _ => (match L.cls[b]? with
        | some t => some (c, t.2.2)
        | none => none)
      | _ => none)
    | none => none)
  | none => none
def Lw.bodySp (tb : Addr) (d : DD) : List Sm := match d.body with
  | .Expr (.Call (.Attribute (.Call (.Name sp _) [] [] _) ini ap) es [] cp) _ :: rest => if sp = "super" ∧ ini = "__init__" ∧ (ap.endLine == cp.line) = true ∧ notStars es = true ∧ es.length < 29 then (match L.supOf d with
    | some (c, g) => (match L.bdOf g (es.length + 1) [] with
      | some pm => .expr (.sup c g (cEs (cE 40 (L.cs tb d).toCt) es) pm) :: cSs 40 (L.cs tb d) rest
      | none => [.nope])
    | none => [.nope]) else [.nope]
  | _ => [.nope]
def Lw.bodyOf (tb : Addr) (d : DD) : List Sm := if L.isSp d = true then L.bodySp tb d else cSs 40 (L.cs tb d) d.body
def Lw.fns (tb : Addr) : List Fn := L.dds.map fun d => ⟨d.ps.length, d.N.length, L.bodyOf tb d⟩

/-! ### what K must hold -/
def tupVB (K : PySem.W.Frag) (a : Addr) (vs : List Value → Bool) : Bool := match K.lookup a with
  | some ⟨.type c, _, .seq its _, _⟩ => decide (c = "tuple") && (decide (its.size ≤ sizeLine) && vs its.toList)
  | _ => false
def repB (K : PySem.W.Frag) (G : Ga) : P → Value → Bool
  | .tup ps, u => (match u with
    | .ref a => (match K.lookup a with
      | some ⟨.type c, _, .seq its _, _⟩ => decide (c = "tuple") && (decide (its.size ≤ sizeLine) && go ps its.toList)
      | _ => false)
    | _ => false)
  | p, u => flatP p && He.relB (flatV G p) u
where go : List P → List Value → Bool
  | [], [] => true
  | p :: ps, u :: us => repB K G p u && go ps us
  | _, _ => false
def gloB (K : PySem.W.Frag) (x : Str) : Bool := (He.Fa.glo x).ok K
def freeB (K : PySem.W.Frag) (x : Str) : Bool := (He.Fa.free x).ok K
def cstB (K : PySem.W.Frag) (G : Ga) (q : Str × P) : Bool := match PySem.W.nsIn K mainGlobals q.1 with
  | some (some u) => repB K G q.2 u
  | _ => false
def namesB (K : PySem.W.Frag) : Bool := (L.dds.all fun d => d.own.isSome || gloB K d.name) && ((L.cls.all fun t => gloB K t.1) && ((L.exs.all fun t => gloB K t.name) && (L.blts.all fun x => freeB K x)))
def cstsB (K : PySem.W.Frag) : Bool := (L.cst.all fun q => cstB K (L.ga K) q) && (!L.gcd || (match PySem.W.nsIn K mainGlobals "gcd" with
  | some (some (.builtin i)) => decide (i = "math.gcd")
  | _ => false))
def sup1B (K : PySem.W.Frag) (d : DD) (C : Addr) : Bool := match K.lookup (d.ad K) with
  | some ⟨_, _, .func fd, _⟩ => (match fd.closure, fd.code, fd.defaults with
    | [(x, cc)], .ref cda, .none => decide (x = ("__class__" : Str)) && (PySem.W.codeIn K (.ref cda) d.qual && ((match K.lookup cda with
        | some ⟨_, _, .fields vs, _⟩ => (match (vs[2]? : Option Value) with
          | some (.str file _) => (L.prog.main.file : Str) == file
          | _ => false)
        | _ => false) && (match K.lookup cc with
        | some ⟨_, _, .cell (some (.ref D)), _⟩ => decide (D = C)
        | _ => false)))
    | _, _, _ => false)
  | _ => false
def spB (K : PySem.W.Frag) (d : DD) : Bool := match L.supOf d, d.own with
  | some (c, g), some C => (match L.dds[g]? with
    | some db => !L.isEx db && (sup1B L K d (He.ga K C) && ((PySem.W.clsIn K (He.ga K C)).isSome && (decide (PySem.W.typeIn K (.ref (db.ad K)) = some (.type "function")) && (PySem.W.fnIn K (db.ad K) &&
      (List.range L.cls.length).all fun i => !(L.up i).contains c || (decide (PySem.W.mroIn K (He.ga K (L.cn i)) (.ref (He.ga K C)) = some true) && He.eqO (PySem.W.ks_superIn K (He.ga K (L.cn i)) (He.ga K C) "__init__") (some (some (.ref (db.ad K)))))))))
    | none => false)
  | _, _ => false
def fnsB (K : PySem.W.Frag) : Bool := L.dds.all fun d => L.isEx d || (if L.isSp d = true then spB L K d else d.okB K (d.dfl.map (flatV (L.ga K))))
def allOps : List Operator := [.Add, .Sub, .Mult, .Div, .FloorDiv, .Mod, .Pow, .LShift, .RShift, .BitOr, .BitXor, .BitAnd, .MatMult]
def opsB (K : PySem.W.Frag) (C : Addr) (op : Operator) : Bool := PySem.W.selfFirst K C && ((match PySem.W.findIn K (.ref C) (PySem.dunderR op.info.2) with
    | some none => true
    | some (some (.ref _)) => true
    | _ => false) && (((PySem.W.findIn K (.type "int") (PySem.dunder op.info.2)).isSome && (PySem.W.findIn K (.type "int") (PySem.dunderR op.info.2)).isSome) && decide (PySem.W.subIn K (.type "int") (.ref C) = some false)))
def cls1B (K : PySem.W.Frag) (x : Str) : Bool :=
  nmB K (He.ga K x) x && ((He.Fa.cls x).ok K && (He.eqO (PySem.W.findIn K (.ref (He.ga K x)) "__class__") (some (some (.builtin "object.__class__"))) && (He.eqO (PySem.W.specialIn K (.builtin "object.__class__") "__get__") (some (some (.builtin "getset_descriptor.__get__"))) &&
    (decide (PySem.W.takesIn K (.builtin "object.__class__") = some true) && (decide (PySem.W.mroIn K (He.ga K x) (.type "object") = some true) &&
    (((PySem.W.clsIn K (He.ga K x)).isSome && PySem.W.typeIn K (.ref (He.ga K x)) == some (.type "type")) &&
    ((tyNames.all fun n => decide (PySem.W.kitOne K (.ref (He.ga K x)) (.type n) = some false) && decide (PySem.W.subIn K (.type n) (.ref (He.ga K x)) = some false)) &&
    He.eqO (PySem.W.findIn K (.ref (He.ga K x)) "__ne__") (some (some (.builtin "object.__ne__"))))))))))
def clsB (K : PySem.W.Frag) : Bool := (List.range L.cls.length).all fun i => cls1B K (L.cn i) && (L.fld.all fun f => He.eqO (PySem.W.findIn K (.ref (He.ga K (L.cn i))) f) (some none))
def opssB (K : PySem.W.Frag) : Bool := (List.range L.cls.length).all fun i => allOps.all fun op => ((L.or.meth i (PySem.dunder op.info.2) 1 []).isNone) || opsB K (He.ga K (L.cn i)) op
def subB (K : PySem.W.Frag) : Bool := (List.range L.cls.length).all fun d => (L.up d).contains d && (List.range L.cls.length).all fun c => decide (PySem.W.subIn K (.ref (He.ga K (L.cn d))) (.ref (He.ga K (L.cn c))) = some ((L.up d).contains c)) && (!((L.up d).contains c && (L.up c).contains d) || decide (c = d))
def mtB (K : PySem.W.Frag) : Bool := L.mt.all fun t => match L.dds[t.2.2]? with
  | some d => !L.isEx d && (He.eqO (PySem.W.findIn K (.ref (He.ga K (L.cn t.1))) t.2.1) (some (some (.ref (d.ad K)))) && (PySem.W.isFn K (.ref (d.ad K)) && PySem.W.keepIn K (.ref (d.ad K))))
  | none => false
def mkB (K : PySem.W.Frag) : Bool := L.cls.all fun t => match L.dds[t.2.2]? with
  | some d => !L.isEx d && (PySem.W.makesIn K (He.ga K t.1) && (He.eqO (PySem.W.findIn K (.ref (He.ga K t.1)) "__init__") (some (some (.ref (d.ad K)))) && (PySem.W.isFn K (.ref (d.ad K)) && PySem.W.keepIn K (.ref (He.ga K t.1)))))
  | none => false
def statB (K : PySem.W.Frag) : Bool := L.stats.all fun t => match L.dds[t.2.2]? with
  | some d => !L.isEx d && gloB K t.1 && (PySem.W.readsIn K (He.ga K t.1) (.type "type") && (He.eqO (PySem.W.specialIn K (.ref (He.ga K t.1)) "__getattribute__") (some (some (.builtin "type.__getattribute__"))) && ((match PySem.W.findCls K (.ref (He.ga K t.1)) (.type "type") t.2.1 with
      | some (.get (.builtin g) (.ref p) .none (.ref C)) => decide (g = "staticmethod.__get__") && (decide (p = statRec K (He.ga K t.1) t.2.1) && decide (C = He.ga K t.1))
      | _ => false) && ((match PySem.W.recIn K (statRec K (He.ga K t.1) t.2.1) "staticmethod" with
      | some (.ref g :: _) => decide (g = d.ad K)
      | _ => false) && PySem.W.keepIn K (.ref (d.ad K))))))
  | none => false
/-! exceptions -/
def oexB (K : PySem.W.Frag) (C : Addr) : Bool := (match K.lookup C with
  | some ⟨.type "type", _, .cls cd, sl⟩ => (match cd.mro, sl.toList with
    | .ref C' :: bm, [_, _, _, _, some (.builtin n), _] => decide (C' = C) && (decide (n = "ValueError.__new__") && (!cd.hasDel && (cd.hasDict && PySem.HandSPX.refsVE bm)))
    | _, _ => false)
  | _ => false) && (He.eqO (PySem.W.findIn K (.ref C) "__setattr__") (some (some (.builtin "object.__setattr__"))) && (decide (PySem.W.subIn K (.ref C) (.type "BaseException") = some true) && (decide (PySem.W.typeIn K (.ref C) = some (.type "type")) && PySem.W.keepIn K (.ref C))))
def exmB (K : PySem.W.Frag) : Bool := (List.range L.exs.length).all fun d => xfB K (He.ga K (L.xn d)) && ((L.fld.all fun f => He.eqO (PySem.W.findIn K (.ref (He.ga K (L.xn d))) f) (some none)) && (List.range L.exs.length).all fun c => decide (PySem.W.exmOne K (.ref (He.ga K (L.xn d))) (.ref (He.ga K (L.xn c))) = some ((L.xup d).contains c)))
def exTx (d : DD) : Option (List (Str × Nat)) := match d.body with
  | .Expr (.Call (.Attribute (.Call (.Name sp _) [] [] _) ini ap) [.Constant (.str _) _ _] [] cp) _ :: st :: r => if sp = "super" ∧ ini = "__init__" ∧ (ap.endLine == cp.line) = true then exFlds d.N d.scope "self" (st :: r) else none
  | _ => none
def xinB (K : PySem.W.Frag) (t : XI) : Bool := t.fls.isEmpty || (match L.dds[t.f]? with
  | some d => oexB K (He.ga K t.name) && (sup1B L K d (He.ga K t.name) && (He.eqO (PySem.W.findIn K (.ref (He.ga K t.name)) "__init__") (some (some (.ref (d.ad K)))) && (decide (PySem.W.typeIn K (.ref (d.ad K)) = some (.type "function")) && (He.eqO (PySem.W.ks_superIn K (He.ga K t.name) (He.ga K t.name) "__init__") (some (some (.builtin "ValueError.__init__"))) &&
      (decide (PySem.W.subIn K (.ref (He.ga K t.name)) (.type "ValueError") = some true) && (decide (PySem.W.mroIn K (He.ga K t.name) (.ref (He.ga K t.name)) = some true) && ((PySem.W.clsIn K (He.ga K t.name)).isSome && t.fls.all fun q => He.eqO (PySem.W.findIn K (.ref (He.ga K t.name)) q.1) (some none))))))))
  | none => false)
def exB (K : PySem.W.Frag) : Bool := namesB L K && (cstsB L K && (fnsB L K && (clsB L K && (opssB L K && (subB L K && (mtB L K && (mkB L K && (statB L K && (exmB L K && ((L.exs.all fun t => xinB L K t) && He.eqO (PySem.W.nsIn K cStatics "thirdparty.any") (some none)))))))))))
/-! ### what the text must be -/
def scB (d : DD) : Bool := decide (d.scope.kind = .function) && (!d.scope.isCoroutine && (!d.scope.isGenerator && (decide d.N.Nodup && (decide (d.N.take d.ps.length = d.ps) && ((d.ps.all fun x => decide (d.scope.names.lookup x = some .local) || decide (d.scope.names.lookup x = some .cell)) && d.scope.names.all fun y => !decide (y.2 = .free))))))
def spTx (d : DD) : Bool := NdefX.nscB d.N d.ps ["__class__"] d.scope && (decide (d.ps[0]? = some ("self" : Str)) && (decide (d.scope.names.lookup ("super" : Str) = some .globalImplicit) && (decide (d.scope.names.lookup ("__class__" : Str) = some .free) && (decide (d.scope.names.lookup ("self" : Str) = some .local) &&
  (decide (((d.params.posonlyargs ++ d.params.args).head?.map (·.arg)) = some ("self" : Str)) && d.params.defaults.isEmpty)))))
def xtB (t : XI) : Bool := t.fls.isEmpty || (match L.dds[t.f]? with
  | some d => shId L t.f d.ps.length && NdefX.nscB d.N d.ps ["__class__"] d.scope && (decide (d.ps[0]? = some ("self" : Str)) && (decide (exTx d = some t.fls) && (t.fls.all (fun q => decide (1 ≤ q.2 ∧ q.2 < d.ps.length)) && (decide (t.fls.length ≤ 800) && (decide (d.scope.names.lookup ("super" : Str) = some .globalImplicit) && (decide (d.scope.names.lookup ("__class__" : Str) = some .free) && (decide (d.scope.names.lookup ("self" : Str) = some .local) &&
      (decide (((d.params.posonlyargs ++ d.params.args).head?.map (·.arg)) = some ("self" : Str)) && d.params.defaults.isEmpty))))))))
  | none => false)
def Lw.txB : Bool := decide (0 < L.cls.length) && ((L.told.isEmpty || decide (0 < L.exs.length)) && ((L.dds.all fun d => L.isEx d || (if L.isSp d = true then spTx d else scB d)) && ((L.exs.all fun t => xtB L t) && (!(L.prog.main.scope.names.lookup ("super" : Str)).isSome && (L.blts.contains "super" && ((L.shapes.all fun s => match L.dds[s.1]? with
    | some d => decide (s.2.2.2.length = d.ps.length) && (isStr s.2.2.2 || sxOk (s.2.1 + s.2.2.1.length) d.dfl.length s.2.2.2)
    | none => false) && (L.fld.all fun f => !(f == ("__init__" : Str)))))))))
end
/-- the shapes bind -/
def Lw.BdAll (L : Lw) : Prop := ∀ s ∈ L.shapes, ∀ d, L.dds[s.1]? = some d → BdX d.params d.ps d.dfl.length s.2.1 s.2.2.1 s.2.2.2
end FD

set_option Elab.async false
set_option linter.all false
set_option autoImplicit false
set_option maxRecDepth 100000
set_option maxHeartbeats 2000000
/-! FFd: what the Bool tells. -/
namespace FD
open PySem PySem.Spec PyProof.Rows L2
theorem clip_lt {n c : Nat} (h : 0 < n) : clip n c < n := by
  unfold clip
  split
  · assumption
  · exact h
theorem clip_of {n c : Nat} (h : c < n) : clip n c = c := if_pos h
theorem range_all {n c : Nat} {f : Nat → Bool} (h : (List.range n).all f = true) (hc : c < n) : f c = true := List.all_eq_true.mp h c (List.mem_range.mpr hc)
theorem ixOf_some {α : Type} {p : α → Bool} : ∀ {l : List α} {i j : Nat}, ixOf p i l = some j → i ≤ j ∧ ∃ x, l[j - i]? = some x ∧ p x = true
  | [], _, _, h => by cases h
  | x :: r, i, j, h => by
    unfold ixOf at h
    split at h
    · rename_i hp
      cases h
      exact ⟨Nat.le_refl _, x, by simp, hp⟩
    · obtain ⟨h1, y, h2, h3⟩ := ixOf_some h
      refine ⟨by omega, y, ?_, h3⟩
      have e : j - i = (j - (i + 1)) + 1 := by omega
      rw [e, List.getElem?_cons_succ]
      exact h2
theorem ixOf0 {α : Type} {p : α → Bool} {l : List α} {j : Nat} (h : ixOf p 0 l = some j) : ∃ x, l[j]? = some x ∧ p x = true := by
  obtain ⟨_, x, h1, h2⟩ := ixOf_some h
  exact ⟨x, by simpa using h1, h2⟩
theorem lookup_memS {α β : Type} [BEq α] [LawfulBEq α] {x : α} {y : β} : ∀ {l : List (α × β)}, l.lookup x = some y → (x, y) ∈ l
  | [], h => by cases h
  | (b, u) :: r, h => by
    rw [List.lookup_cons] at h
    split at h
    · rename_i q
      cases h
      rw [eq_of_beq q]
      exact List.mem_cons_self
    · exact List.mem_cons_of_mem _ (lookup_memS h)
theorem eqO_ok {a b : Option (Option Value)} (h : He.eqO a b = true) : a = b := of_decide_eq_true h
section
variable {L : Lw} {K : PySem.W.Frag} {h : Heap} {mg : Str → Option Value}
/-- constants -/
theorem repB_ok {G : Ga} (hK : G.K = K) : ∀ (p : P) (u : Value), repB K G p u = true → ∃ v, RelV v u ∧ ∀ (H : Hp) (ow : Addr → Prop), rep G H ow p v
  | .tup ps, u, h => by
    unfold repB at h
    split at h
    · rename_i a
      split at h
      · rename_i c od its n osl lk
        obtain ⟨h1, h2⟩ := He.ba h
        obtain ⟨h2, h3⟩ := He.ba h2
        obtain ⟨vs, r1, r2⟩ := go ps its.toList h3
        refine ⟨.ref a, rfl, fun H ow => ⟨a, vs, rfl, .inr ?_, r2 H ow⟩⟩
        exact .inr ⟨_, its, n, by rw [hK]; exact lk, congrArg Value.type (of_decide_eq_true h1), rfl, of_decide_eq_true h2, r1⟩
      · cases h
    · cases h
  | .non, u, h => by obtain ⟨h1, h2⟩ := He.ba (show (flatP P.non && He.relB (flatV G .non) u) = true from h); exact ⟨_, He.relB_ok h2, fun H ow => rep_flat h1⟩
  | .bl b, u, h => by obtain ⟨h1, h2⟩ := He.ba (show (flatP (P.bl b) && He.relB (flatV G (.bl b)) u) = true from h); exact ⟨_, He.relB_ok h2, fun H ow => rep_flat h1⟩
  | .int b, u, h => by obtain ⟨h1, h2⟩ := He.ba (show (flatP (P.int b) && He.relB (flatV G (.int b)) u) = true from h); exact ⟨_, He.relB_ok h2, fun H ow => rep_flat h1⟩
  | .str b, u, h => by obtain ⟨h1, h2⟩ := He.ba (show (flatP (P.str b) && He.relB (flatV G (.str b)) u) = true from h); exact ⟨_, He.relB_ok h2, fun H ow => rep_flat h1⟩
  | .ty b, u, h => by obtain ⟨h1, h2⟩ := He.ba (show (flatP (P.ty b) && He.relB (flatV G (.ty b)) u) = true from h); exact ⟨_, He.relB_ok h2, fun H ow => rep_flat h1⟩
  | .glb b, u, h => by obtain ⟨h1, h2⟩ := He.ba (show (flatP (P.glb b) && He.relB (flatV G (.glb b)) u) = true from h); exact ⟨_, He.relB_ok h2, fun H ow => rep_flat h1⟩
  | .lst b, u, h => by obtain ⟨h1, h2⟩ := He.ba (show (flatP (P.lst b) && He.relB (flatV G (.lst b)) u) = true from h); cases h1
  | .dct b, u, h => by obtain ⟨h1, h2⟩ := He.ba (show (flatP (P.dct b) && He.relB (flatV G (.dct b)) u) = true from h); cases h1
  | .ins c b, u, h => by obtain ⟨h1, h2⟩ := He.ba (show (flatP (P.ins c b) && He.relB (flatV G (.ins c b)) u) = true from h); cases h1
where go : ∀ (ps : List P) (us : List Value), repB.go K G ps us = true → ∃ vs, Vals vs us ∧ ∀ (H : Hp) (ow : Addr → Prop), rep.reps G H ow ps vs
  | [], [], _ => ⟨[], .nil, fun _ _ => rfl⟩
  | [], _ :: _, h => by cases h
  | _ :: _, [], h => by cases h
  | p :: ps, u :: us, h => by
    obtain ⟨h1, h2⟩ := He.ba (show (repB K G p u && repB.go K G ps us) = true from h)
    obtain ⟨v, r1, r2⟩ := repB_ok hK p u h1
    obtain ⟨vs, r3, r4⟩ := go ps us h2
    exact ⟨v :: vs, .cons r1 r3, fun H ow => ⟨v, vs, rfl, r2 H ow, r4 H ow⟩⟩
/-- all of it -/
structure Fx (L : Lw) (K : PySem.W.Frag) : Prop where
  names : namesB L K = true
  csts : cstsB L K = true
  fns : fnsB L K = true
  cls : clsB L K = true
  opss : opssB L K = true
  sub : subB L K = true
  mt : mtB L K = true
  mkk : mkB L K = true
  stat : statB L K = true
  exm : exmB L K = true
  xin : (L.exs.all fun t => xinB L K t) = true
  st : PySem.W.nsIn K cStatics "thirdparty.any" = some none
theorem fx_of (e : exB L K = true) : Fx L K := by
  obtain ⟨h1, e⟩ := He.ba e
  obtain ⟨h2, e⟩ := He.ba e
  obtain ⟨h3, e⟩ := He.ba e
  obtain ⟨h4, e⟩ := He.ba e
  obtain ⟨h5, e⟩ := He.ba e
  obtain ⟨h6, e⟩ := He.ba e
  obtain ⟨h7, e⟩ := He.ba e
  obtain ⟨h8, e⟩ := He.ba e
  obtain ⟨h9, e⟩ := He.ba e
  obtain ⟨h10, e⟩ := He.ba e
  obtain ⟨h11, e⟩ := He.ba e
  exact ⟨h1, h2, h3, h4, h5, h6, h7, h8, h9, h10, h11, eqO_ok e⟩
structure Tx (L : Lw) : Prop where
  nc : 0 < L.cls.length
  nx : L.told = [] ∨ 0 < L.exs.length
  sc : (L.dds.all fun d => L.isEx d || (if L.isSp d = true then spTx d else scB d)) = true
  xt : (L.exs.all fun t => xtB L t) = true
  top : (L.prog.main.scope.names.lookup ("super" : Str)).isSome = false
  sup : L.blts.contains "super" = true
  sh : (L.shapes.all fun s => match L.dds[s.1]? with
    | some d => decide (s.2.2.2.length = d.ps.length) && (isStr s.2.2.2 || sxOk (s.2.1 + s.2.2.1.length) d.dfl.length s.2.2.2)
    | none => false) = true
theorem tx_of (e : L.txB = true) : Tx L := by
  obtain ⟨h1, e⟩ := He.ba e
  obtain ⟨h2, e⟩ := He.ba e
  obtain ⟨h3, e⟩ := He.ba e
  obtain ⟨h4, e⟩ := He.ba e
  obtain ⟨h5, e⟩ := He.ba e
  obtain ⟨h6, e⟩ := He.ba e
  obtain ⟨h7, e⟩ := He.ba e
  exact ⟨of_decide_eq_true h1, (Bool.or_eq_true_iff.mp h2).elim (fun z => .inl (List.isEmpty_iff.mp z)) fun z => .inr (of_decide_eq_true z), h3, h4, by simpa using h5, h6, h7⟩
variable (F : Fx L K) (T : Tx L)
include F in
theorem Fx.cls1 {c : Nat} (hc : c < L.cls.length) : cls1B K (L.cn c) = true ∧ ∀ f, L.fld.contains f = true → PySem.W.findIn K (.ref (He.ga K (L.cn c))) f = some none := by
  obtain ⟨h1, h2⟩ := He.ba (range_all F.cls hc)
  exact ⟨h1, fun f hf => eqO_ok (List.all_eq_true.mp h2 f (List.contains_iff_mem.mp hf))⟩
include F T in
theorem Fx.nmk (c : Nat) : NmOk K ((L.ga K).ca c) (L.or.cnm c) := nmB_ok (He.ba (F.cls1 (clip_lt T.nc : clip L.cls.length c < _)).1).1
include F T in
theorem Fx.clsOk : ClsOk K (L.ga K) L.or := by
  have one := fun c => (He.ba (F.cls1 (clip_lt T.nc : clip L.cls.length c < _)).1).2
  have sub : ∀ d, (L.up (clip L.cls.length d)).contains (clip L.cls.length d) = true ∧ ∀ c, PySem.W.subIn K (.ref (He.ga K (L.cn (clip L.cls.length d)))) (.ref (He.ga K (L.cn (clip L.cls.length c)))) = some ((L.up (clip L.cls.length d)).contains (clip L.cls.length c)) ∧
      (L.or.isSub d c = true → L.or.isSub c d = true → clip L.cls.length c = clip L.cls.length d) := fun d => by
    obtain ⟨h1, h2⟩ := He.ba (range_all F.sub (clip_lt T.nc : clip L.cls.length d < _))
    refine ⟨h1, fun c => ?_⟩
    obtain ⟨h3, h4⟩ := He.ba (range_all h2 (clip_lt T.nc : clip L.cls.length c < _))
    refine ⟨of_decide_eq_true h3, fun a b => ?_⟩
    have a : (L.up (clip L.cls.length d)).contains (clip L.cls.length c) = true := a
    have b : (L.up (clip L.cls.length c)).contains (clip L.cls.length d) = true := b
    rw [a, b] at h4
    exact of_decide_eq_true (by simpa using h4)
  refine ⟨fun c => ?_, fun d c => ((sub d).2 c).1, fun c => ?_, fun c => (sub c).1, fun c n hn => ?_, fun c n hn => ?_, fun c => ?_, fun c d h1 h2 => ?_⟩
  · obtain ⟨a1, a⟩ := He.ba (one c)
    obtain ⟨a2, a⟩ := He.ba a
    obtain ⟨a3, a⟩ := He.ba a
    obtain ⟨a4, a⟩ := He.ba a
    obtain ⟨a5, a⟩ := He.ba a
    exact ⟨He.cls_ok a1, eqO_ok a2, eqO_ok a3, of_decide_eq_true a4, of_decide_eq_true a5⟩
  · obtain ⟨a1, a⟩ := He.ba (one c)
    obtain ⟨a2, a⟩ := He.ba a
    obtain ⟨a3, a⟩ := He.ba a
    obtain ⟨a4, a⟩ := He.ba a
    obtain ⟨a5, a⟩ := He.ba a
    exact (He.ba a).1
  · obtain ⟨a1, a⟩ := He.ba (one c)
    obtain ⟨a2, a⟩ := He.ba a
    obtain ⟨a3, a⟩ := He.ba a
    obtain ⟨a4, a⟩ := He.ba a
    obtain ⟨a5, a⟩ := He.ba a
    obtain ⟨a6, a⟩ := He.ba a
    exact of_decide_eq_true (He.ba (List.all_eq_true.mp (He.ba a).1 n hn)).1
  · obtain ⟨a1, a⟩ := He.ba (one c)
    obtain ⟨a2, a⟩ := He.ba a
    obtain ⟨a3, a⟩ := He.ba a
    obtain ⟨a4, a⟩ := He.ba a
    obtain ⟨a5, a⟩ := He.ba a
    obtain ⟨a6, a⟩ := He.ba a
    exact of_decide_eq_true (He.ba (List.all_eq_true.mp (He.ba a).1 n hn)).2
  · obtain ⟨a1, a⟩ := He.ba (one c)
    obtain ⟨a2, a⟩ := He.ba a
    obtain ⟨a3, a⟩ := He.ba a
    obtain ⟨a4, a⟩ := He.ba a
    obtain ⟨a5, a⟩ := He.ba a
    obtain ⟨a6, a⟩ := He.ba a
    exact eqO_ok (He.ba a).2
  · show He.ga K (L.cn (clip L.cls.length c)) = He.ga K (L.cn (clip L.cls.length d))
    rw [((sub d).2 c).2 h2 h1]
theorem clip_clip {n c : Nat} (h : 0 < n) : clip n (clip n c) = clip n c := clip_of (clip_lt h)
theorem op_mem (op : Operator) : op ∈ allOps := by cases op <;> decide
include F T in
theorem Fx.opsOk {r : Nat → List W → Store → R W} : OpsOk K (L.ga K) { L.or with run := r } := by
  intro c op f pm h
  have h : L.or.meth c (PySem.dunder op.info.2) 1 [] = some (f, pm) := h
  have hc : clip L.cls.length c < L.cls.length := clip_lt T.nc
  have e : L.or.meth (clip L.cls.length c) (PySem.dunder op.info.2) 1 [] = L.or.meth c (PySem.dunder op.info.2) 1 [] := by
    show (match L.mt.find? fun t => t.1 == clip L.cls.length (clip L.cls.length c) && t.2.1 == _ with | some t => _ | none => none) = _
    rw [clip_clip T.nc]
    rfl
  have z := List.all_eq_true.mp (range_all F.opss hc) op (op_mem op)
  rw [e, h] at z
  have z : opsB K (He.ga K (L.cn (clip L.cls.length c))) op = true := by simpa using z
  obtain ⟨z1, z⟩ := He.ba z
  obtain ⟨z2, z⟩ := He.ba z
  obtain ⟨z3, z4⟩ := He.ba z
  obtain ⟨z5, z6⟩ := He.ba z3
  refine ⟨z1, ?_, ?_, of_decide_eq_true z4⟩
  · split at z2
    · rename_i q; exact ⟨_, q, .inl rfl⟩
    · rename_i g q; exact ⟨_, q, .inr ⟨g, rfl⟩⟩
    · cases z2
  · obtain ⟨a, ha⟩ := Option.isSome_iff_exists.mp z5
    obtain ⟨b, hb⟩ := Option.isSome_iff_exists.mp z6
    exact ⟨a, b, ha, hb⟩
/-! ### defs -/
theorem dd_mem {f : Nat} {d : DD} (hd : L.dds[f]? = some d) : d ∈ L.dds := List.mem_of_getElem? hd
include F in
theorem Fx.funD {f : Nat} {d : DD} (fn : ∀ d ∈ L.dds, fnZ K (d.ad K) = d.val) (hd : L.dds[f]? = some d) (hx : L.isEx d = false) (hp : L.isSp d = false) : FunD K d.name d.qual d.params d.body d.scope (d.dfl.map (flatV (L.ga K))) [] (d.ad K) (fdAt K (d.ad K)) := by
  have m := dd_mem hd
  have z := List.all_eq_true.mp F.fns d m
  rw [hx, hp] at z
  exact DD.funD (fn d m) (by simpa using z)
include T in
theorem Tx.scope {f : Nat} {d : DD} (hd : L.dds[f]? = some d) (hx : L.isEx d = false) (hp : L.isSp d = false) : FnScope d.N d.ps d.scope := by
  have z := List.all_eq_true.mp T.sc d (dd_mem hd)
  rw [hx, hp] at z
  have z : scB d = true := by simpa using z
  obtain ⟨h1, z⟩ := He.ba z
  obtain ⟨h2, z⟩ := He.ba z
  obtain ⟨h3, z⟩ := He.ba z
  obtain ⟨h4, z⟩ := He.ba z
  obtain ⟨h5, z⟩ := He.ba z
  obtain ⟨h6, h7⟩ := He.ba z
  refine ⟨of_decide_eq_true h1, by simpa using h2, by simpa using h3, of_decide_eq_true h4, of_decide_eq_true h5, fun x hx => ?_, fun y hy => by simpa using List.all_eq_true.mp h7 y hy⟩
  have q := List.all_eq_true.mp h6 x hx
  rcases Bool.or_eq_true_iff.mp q with q | q
  · exact .inl (of_decide_eq_true q)
  · exact .inr (of_decide_eq_true q)
theorem fi_at {f : Nat} {d : DD} (hd : L.dds[f]? = some d) : L.fi K f = ⟨d.ad K, fdAt K (d.ad K), d.ps⟩ := by
  unfold Lw.fi
  rw [hd]
/-- an own __init__ that begins with super().__init__(..) -/
structure SpD (L : Lw) (K : PySem.W.Frag) (d : DD) (c g : Nat) (C : Str) (db : DD) (kV doc pm : Value) (an : Option Addr) (cda : Addr) (ct : Value) (cc : Addr) (oc : Value) (od : Option Addr) (osl : Array (Option Value)) : Prop where
  sup : L.supOf d = some (c, g)
  own : d.own = some C
  base : L.dds[g]? = some db
  dbx : L.isEx db = false
  fd : fdAt K (d.ad K) = PySem.W.ksFn d.name d.qual d.params d.body d.scope .none kV doc pm an (.ref cda) ct cc
  lk : K.lookup (d.ad K) = some ⟨oc, od, .func (PySem.W.ksFn d.name d.qual d.params d.body d.scope .none kV doc pm an (.ref cda) ct cc), osl⟩
  cd : PySem.W.codeIn K (.ref cda) d.qual = true
  file : ∃ (ccl : Value) (cdd : Option Addr) (vs : Array Value) (ccs : Array (Option Value)) (file : Str) (tf : Tok), K.lookup cda = some ⟨ccl, cdd, .fields vs, ccs⟩ ∧ vs[2]? = some (.str file tf) ∧ ((L.prog.main.file : Str) == file) = true
  cell : ∃ (cl : Value) (cld : Option Addr) (csl : Array (Option Value)), K.lookup cc = some ⟨cl, cld, .cell (some (.ref (He.ga K C))), csl⟩
  cls : (PySem.W.clsIn K (He.ga K C)).isSome = true
  ty : PySem.W.typeIn K (.ref (db.ad K)) = some (.type "function")
  fnin : PySem.W.fnIn K (db.ad K) = true
  above : ∀ i, i < L.cls.length → (L.up i).contains c = true → PySem.W.mroIn K (He.ga K (L.cn i)) (.ref (He.ga K C)) = some true ∧ PySem.W.ks_superIn K (He.ga K (L.cn i)) (He.ga K C) "__init__" = some (some (.ref (db.ad K)))
include F in
theorem Fx.spD {f : Nat} {d : DD} (fn : ∀ d ∈ L.dds, fnZ K (d.ad K) = d.val) (hd : L.dds[f]? = some d) (hx : L.isEx d = false) (hp : L.isSp d = true) : ∃ c g C db kV doc pm an cda ct cc oc od osl, SpD L K d c g C db kV doc pm an cda ct cc oc od osl := by
  have z := List.all_eq_true.mp F.fns d (dd_mem hd)
  rw [hx, hp] at z
  have z : spB L K d = true := by simpa using z
  unfold spB at z
  split at z
  · rename_i c g C hs ho
    split at z
    · rename_i db hdb
      obtain ⟨z0, z⟩ := He.ba z
      obtain ⟨z2, z⟩ := He.ba z
      obtain ⟨z8, z⟩ := He.ba z
      obtain ⟨z4, z⟩ := He.ba z
      obtain ⟨z5, z6⟩ := He.ba z
      unfold sup1B at z2
      split at z2
      · rename_i oc od fd osl lk
        split at z2
        · rename_i x' cc cda e1 e2 e3
          obtain ⟨s1, s⟩ := He.ba z2
          obtain ⟨s2, s⟩ := He.ba s
          obtain ⟨s3, s4⟩ := He.ba s
          have s1 := of_decide_eq_true s1
          subst s1
          have hfn := fn d (dd_mem hd)
          unfold fnZ at hfn
          rw [lk] at hfn
          obtain ⟨n1, n2, n3, n4, n5, n6, n7, n8, n9, n10, n11, n12, n13, n14, n15⟩ := fd
          have hfn : (some (n1, n2, n3, n4, n5, n6, n15) : FnZ) = some (d.name, d.qual, d.params, .stmts d.body, d.scope, mainGlobals, builtinsNs) := hfn
          simp only [Option.some.injEq, Prod.mk.injEq] at hfn
          obtain ⟨f1, f2, f3, f4, f5, f6, f7⟩ := hfn
          dsimp only at e1 e2 e3
          subst f1 f2 f3 f4 f5 f6 f7 e1 e2 e3
          refine ⟨c, g, C, db, _, _, _, _, cda, _, cc, oc, od, osl, hs, ho, hdb, by simpa using z0, ?_, lk, s2, ?_, ?_, z8, of_decide_eq_true z4, z5, fun i hi hc => ?_⟩
          · unfold fdAt
            rw [lk]
          · split at s3
            · rename_i ccl cdd vs ccs lc
              split at s3
              · rename_i file tf hv
                exact ⟨ccl, cdd, vs, ccs, file, tf, lc, hv, s3⟩
              · cases s3
            · cases s3
          · split at s4
            · rename_i cl cld D csl lcc
              have s4 := of_decide_eq_true s4
              subst s4
              exact ⟨cl, cld, csl, lcc⟩
            · cases s4
          · have y := range_all z6 hi
            rw [hc] at y
            have y : (decide (PySem.W.mroIn K (He.ga K (L.cn i)) (.ref (He.ga K C)) = some true) && He.eqO (PySem.W.ks_superIn K (He.ga K (L.cn i)) (He.ga K C) "__init__") (some (some (.ref (db.ad K))))) = true := by simpa using y
            obtain ⟨y1, y2⟩ := He.ba y
            exact ⟨of_decide_eq_true y1, eqO_ok y2⟩
        · cases z2
      · cases z2
    · cases z
  · cases z
include T in
theorem Tx.sp {f : Nat} {d : DD} (hd : L.dds[f]? = some d) (hx : L.isEx d = false) (hp : L.isSp d = true) : NdefX.NScope d.N d.ps ["__class__"] d.scope ∧ d.ps[0]? = some ("self" : Str) ∧ d.scope.names.lookup ("super" : Str) = some .globalImplicit ∧ d.scope.names.lookup ("__class__" : Str) = some .free ∧ d.scope.names.lookup ("self" : Str) = some .local ∧
    (∃ ar : Arg, (d.params.posonlyargs ++ d.params.args).head? = some ar ∧ ar.arg = "self") ∧ d.dfl = [] := by
  have z := List.all_eq_true.mp T.sc d (dd_mem hd)
  rw [hx, hp] at z
  have z : spTx d = true := by simpa using z
  obtain ⟨z1, z⟩ := He.ba z
  obtain ⟨z2, z⟩ := He.ba z
  obtain ⟨z3, z⟩ := He.ba z
  obtain ⟨z4, z⟩ := He.ba z
  obtain ⟨z5, z⟩ := He.ba z
  obtain ⟨z6, z7⟩ := He.ba z
  refine ⟨NdefX.nscope_by z1, of_decide_eq_true z2, of_decide_eq_true z3, of_decide_eq_true z4, of_decide_eq_true z5, ?_, ?_⟩
  · have q := of_decide_eq_true z6
    cases hh : (d.params.posonlyargs ++ d.params.args).head? with
    | none => rw [hh] at q; cases q
    | some ar => rw [hh] at q; exact ⟨ar, rfl, Option.some.inj q⟩
  · unfold DD.dfl
    rw [List.isEmpty_iff.mp z7]
    rfl
include F in
theorem Fx.fdS {f : Nat} {d : DD} (fn : ∀ d ∈ L.dds, fnZ K (d.ad K) = d.val) (hd : L.dds[f]? = some d) (hx : L.isEx d = false) (h0 : d.dfl = []) : FdS K d := by
  cases hp : L.isSp d with
  | true =>
    obtain ⟨c, g, C, db, kV, doc, pm, an, cda, ct, cc, oc, od, osl, S⟩ := F.spD fn hd hx hp
    exact ⟨_, kV, doc, pm, an, .ref cda, ct, S.fd⟩
  | false =>
    obtain ⟨oc, od, dV, kV, doc, pmo, an, cdv, ct, osl, ef, lk, hcd, hD, hK⟩ := (F.funD fn hd hx hp).ex
    rw [h0] at hD
    rcases hD with ⟨_, rfl⟩ | ⟨z, _⟩
    · exact ⟨[], kV, doc, pmo, an, cdv, ct, ef⟩
    · exact absurd rfl z
include F T in
theorem Fx.bdk {P0 : Program} {w : World} {base : Heap} (fn : ∀ d ∈ L.dds, fnZ K (d.ad K) = d.val) (B : L.BdAll) {f np : Nat} {ks : List Str} {pm : List Src} {d : DD} (hd : L.dds[f]? = some d) (hx : L.isEx d = false) (h : L.bdOf f np ks = some pm) : BdOk P0 w K mg base (L.ga K) (L.fi K f) np ks pm := by
  unfold Lw.bdOf at h
  split at h
  · rename_i s d' hs hd'
    rw [hd] at hd'
    cases hd'
    rw [hx] at h
    cases h
    have m := List.mem_of_find?_eq_some hs
    have e := List.find?_some hs
    simp only [Bool.and_eq_true, beq_iff_eq] at e
    obtain ⟨⟨e1, e2⟩, e3⟩ := e
    have z := List.all_eq_true.mp T.sh s m
    rw [e1, hd] at z
    obtain ⟨z1, z2⟩ := He.ba z
    have S := B s m d (by rw [e1]; exact hd)
    rw [fi_at hd]
    subst e2 e3
    unfold BdX at S
    split at S
    · obtain ⟨h0, hk, n, hpm, hn1, hn2, hn3, hS⟩ := S
      have h0 : d.dfl = [] := List.length_eq_zero_iff.mp h0
      rw [hk, hpm, h0]
      exact bd_star (F.fdS fn hd hx h0) hS hn1 hn2 hn3
    · rename_i hns
      have z2 : sxOk (s.2.1 + s.2.2.1.length) d.dfl.length s.2.2.2 = true := (Bool.or_eq_true_iff.mp z2).resolve_left hns
      cases hp : L.isSp d with
      | false => exact bd_of (F.funD fn hd hx hp) S (of_decide_eq_true z1) z2
      | true =>
        have h0 := (T.sp hd hx hp).2.2.2.2.2.2
        rw [h0] at S z2 ⊢
        exact bd_s (F.fdS fn hd hx h0) S (of_decide_eq_true z1) z2
  · cases h
include F in
theorem Fx.glo (X : K.In h) (Gn : h.Ns mainGlobals mg) {f : Nat} {d : DD} (hd : L.dds[f]? = some d) (ho : d.own = none) : mg d.name = some (.ref (d.ad K)) := by
  have z := List.all_eq_true.mp (He.ba F.names).1 d (dd_mem hd)
  rw [ho] at z
  have e : d.ad K = He.ga K d.name := by unfold DD.ad; rw [ho]
  rw [e]
  exact He.glo_ok X Gn (show gloB K d.name = true by simpa using z)
include F in
theorem Fx.gcl (X : K.In h) (Gn : h.Ns mainGlobals mg) {c : Nat} {t : Str × List Nat × Nat} (ht : L.cls[c]? = some t) : mg t.1 = some (.ref ((L.ga K).ca c)) := by
  have z := List.all_eq_true.mp (He.ba (He.ba F.names).2).1 t (List.mem_of_getElem? ht)
  have e : (L.ga K).ca c = He.ga K t.1 := by
    have hc := (List.getElem?_eq_some_iff.mp ht).1
    show He.ga K (L.cn (clip L.cls.length c)) = _
    rw [clip_of hc]
    unfold Lw.cn
    rw [ht]
  rw [e]
  exact He.glo_ok X Gn z
include F in
theorem Fx.gxa (X : K.In h) (Gn : h.Ns mainGlobals mg) {c : Nat} {t : XI} (ht : L.exs[c]? = some t) : (L.ga K).xa c = He.ga K t.name ∧ mg t.name = some (.ref ((L.ga K).xa c)) := by
  have z := List.all_eq_true.mp (He.ba (He.ba (He.ba F.names).2).2).1 t (List.mem_of_getElem? ht)
  have e : (L.ga K).xa c = He.ga K t.name := by
    have hc := (List.getElem?_eq_some_iff.mp ht).1
    show He.ga K (L.xn (clip L.exs.length c)) = _
    rw [clip_of hc]
    unfold Lw.xn
    rw [ht]
  refine ⟨e, ?_⟩
  rw [e]
  exact He.glo_ok X Gn z
include F in
theorem Fx.gblt (X : K.In h) (Gn : h.Ns mainGlobals mg) {x : Str} (hx : L.blts.contains x = true) : mg x = none :=
  He.free_ok X Gn (List.all_eq_true.mp (He.ba (He.ba (He.ba F.names).2).2).2 x (List.contains_iff_mem.mp hx))
include F in
theorem Fx.gcst (X : K.In h) (Gn : h.Ns mainGlobals mg) {x : Str} {p : P} (hx : L.cst.lookup x = some p) : ∃ u v, mg x = some u ∧ RelV v u ∧ ∀ H ow, rep (L.ga K) H ow p v := by
  have z := List.all_eq_true.mp (He.ba F.csts).1 (x, p) (lookup_memS hx)
  unfold cstB at z
  split at z
  · rename_i u e
    obtain ⟨v, r1, r2⟩ := repB_ok (G := L.ga K) rfl p u z
    exact ⟨u, v, PySem.W.mg_of X Gn e, r1, r2⟩
  · cases z
end
end FD

set_option Elab.async false
set_option linter.all false
set_option autoImplicit false
set_option maxRecDepth 100000
set_option maxHeartbeats 2000000
/-! FFe: every def keeps its promise. -/
namespace FD
open PySem PySem.Spec PyProof.Rows L2
section
variable {L : Lw} {K : PySem.W.Frag} {h : Heap} {mg : Str → Option Value} {P0 : Program} {w : World} {base : Heap} {r : Nat → List W → Store → R W} {k : Nat}
theorem mt_find {c : Nat} {m : Str} {t : Nat × Str × Nat} (h : (L.mt.find? fun t => t.1 == clip L.cls.length c && t.2.1 == m) = some t) : t ∈ L.mt ∧ t.1 = clip L.cls.length c ∧ t.2.1 = m := by
  have e := List.find?_some h
  simp only [Bool.and_eq_true, beq_iff_eq] at e
  exact ⟨List.mem_of_find?_eq_some h, e.1, e.2⟩
theorem isFn_meth {C f : Addr} {m : Str} (h1 : PySem.W.findIn K (.ref C) m = some (some (.ref f))) (h2 : PySem.W.isFn K (.ref f) = true) (h3 : PySem.W.keepIn K (.ref f) = true) : Meth K C m f := ⟨h1, h2, h3⟩
/-- what all callers know -/
structure Kn (L : Lw) (K : PySem.W.Frag) (mg : Str → Option Value) (P0 : Program) (w : World) (base : Heap) (r : Nat → List W → Store → R W) (k : Nat) : Prop where
  F : Fx L K
  T : Tx L
  B : L.BdAll
  fn : ∀ d ∈ L.dds, fnZ K (d.ad K) = d.val
  X : K.In base
  Gn : base.Ns mainGlobals mg
  P : ∀ (f : Nat) (d : DD), L.dds[f]? = some d → L.isEx d = false → FnP P0 w K mg base (L.ga K) (L.fi K f) (r f) k
theorem Kn.meths (kn : Kn L K mg P0 w base r k) {X : Cx} (eP : X.prog = P0) (ew : X.w = w) (eK : X.K = K) (em : X.mg = mg) (eb : X.base = base) : MethsOk X (L.ga K) { L.or with run := r } (L.fi K) k := by
  subst eP ew em eb
  intro c m n ks f pm h
  rw [eK]
  have h : (match L.mt.find? fun t => t.1 == clip L.cls.length c && t.2.1 == m with | some t => (L.bdOf t.2.2 (n + 1) ks).map fun pm => (t.2.2, pm) | none => none) = some (f, pm) := h
  split at h
  · rename_i t ht
    obtain ⟨h1, h2, h3⟩ := mt_find ht
    cases hb : L.bdOf t.2.2 (n + 1) ks with
    | none => rw [hb] at h; cases h
    | some pm' =>
      rw [hb] at h
      cases h
      have z := List.all_eq_true.mp kn.F.mt t h1
      split at z
      · rename_i d hd
        obtain ⟨z0, z⟩ := He.ba z
        obtain ⟨z1, z⟩ := He.ba z
        obtain ⟨z2, z3⟩ := He.ba z
        have hx : L.isEx d = false := by simpa using z0
        refine ⟨?_, by rw [← eK] at *; exact kn.P _ d hd hx, kn.F.bdk kn.T kn.fn kn.B hd hx hb⟩
        rw [fi_at hd]
        refine isFn_meth ?_ z2 z3
        have e := eqO_ok z1
        rw [h2, h3] at e
        exact e
      · cases z
  · cases h
theorem Kn.noSp {d : DD} (h : d.own = none) : L.isSp d = false := by
  unfold Lw.isSp
  rw [h]
  rfl
theorem find_lt {N : List Str} {x : Str} {i : Nat} (h : N.findIdx? (· == x) = some i) : i < N.length := (List.getElem?_eq_some_iff.mp (find_ok h)).1
/-! ### defs that are told lambdas -/
section
variable {d : DD} {Y : Cx} {x : Addr} {oi : Option Nat} {cls : Value} {dd : Option Addr}
theorem xIx_ok {L : Lw} {y : Str} {c : Nat} (h : xIx L y = some c) : ∃ t, L.exs[c]? = some t ∧ t.name = y := by
  obtain ⟨t, h1, h2⟩ := ixOf0 h
  exact ⟨t, h1, eq_of_beq h2⟩
theorem exf_ok (F : Fx L K) (T : Tx L) (nx : 0 < L.exs.length) (c : Nat) : XfC K ((L.ga K).xa c) ∧ ∀ f, L.fld.contains f = true → PySem.W.findIn K (.ref ((L.ga K).xa c)) f = some none := by
  obtain ⟨h1, h2⟩ := He.ba (range_all F.exm (clip_lt nx : clip L.exs.length c < _))
  exact ⟨xfB_ok h1, fun f hf => eqO_ok (List.all_eq_true.mp (He.ba h2).1 f (List.contains_iff_mem.mp hf))⟩
theorem exs_ok (F : Fx L K) (T : Tx L) (nx : 0 < L.exs.length) (c d : Nat) : PySem.W.exmOne K (.ref ((L.ga K).xa c)) (.ref ((L.ga K).xa d)) = some (L.or.exSub c d) := by
  obtain ⟨h1, h2⟩ := He.ba (range_all F.exm (clip_lt nx : clip L.exs.length c < _))
  exact of_decide_eq_true (range_all (He.ba h2).2 (clip_lt nx : clip L.exs.length d < _))
theorem hi_ok (F : Fx L K) (T : Tx L) (nx : 0 < L.exs.length) {X : Cx} (hK : X.K = K) {o : Obj} {pn : List (Addr × Obj)} {nm : Option Str} (hz : Zc cls dd o) (hf : ∃ vs, o.data = .fields vs) (hg : X.A.guards = some []) (hu : X.A.units + 64 < cLine) (hm : X.mg "repr" = none)
    (hn : ∀ n, nm = some n → ∃ i, oi = some i ∧ X.N[i]? = some n ∧ X.env.scope.names.lookup n = some .local ∧ okName n = true ∧ X.env.scope.names.lookup ("repr" : Str) = some .globalImplicit)
    {e : PySem.Expr} {hi : HI} (h : cHI L nm e = some hi) : PE (X.suite x ((x, o) :: pn)) e (tHI (L.ga K) x oi cls dd hi) := by
  have fldc : ∀ {n f : Str} {np pos : Pos}, nm = some n → L.fld.contains f = true → PE (X.suite x ((x, o) :: pn)) (.Attribute (.Name n np) f pos) (tHI (L.ga K) x oi cls dd (.fld f)) := fun {n f np pos} h1 h2 => by
    obtain ⟨i, e1, e2, e3, e4, _⟩ := hn n h1
    subst e1
    obtain ⟨d1, d2⟩ := okName_of e4
    refine hi_fld (fun c => by rw [hK]; exact (exf_ok F T nx c).1) (fun c => by rw [hK]; exact (exf_ok F T nx c).2 f h2) hz hf e2 (.inl e3) d1 d2 fun env m => ?_
    unfold attributeBase
    rfl
  unfold cHI at h
  split at h
  · cases h; exact hi_cst pe_non
  · cases h; exact hi_cst pe_bl
  · cases h; exact hi_cst pe_int
  · cases h; exact hi_cst pe_str
  · split at h
    · rename_i c
      cases h
      exact fldc c.1 c.2
    · cases h
  · split at h
    · rename_i c
      cases h
      obtain ⟨c1, c2, c3⟩ := c
      subst c1
      obtain ⟨i, e1, e2, e3, e4, e5⟩ := hn _ c2
      exact hi_rpr (Y := X.suite x ((x, o) :: pn)) (by exact hK) hg hu e5 hm rfl (fldc c2 c3)
    · cases h
  · cases h
theorem his_ok (F : Fx L K) (T : Tx L) (nx : 0 < L.exs.length) {X : Cx} (hK : X.K = K) {o : Obj} {pn : List (Addr × Obj)} {nm : Option Str} (hz : Zc cls dd o) (hf : ∃ vs, o.data = .fields vs) (hg : X.A.guards = some []) (hu : X.A.units + 64 < cLine) (hm : X.mg "repr" = none)
    (hn : ∀ n, nm = some n → ∃ i, oi = some i ∧ X.N[i]? = some n ∧ X.env.scope.names.lookup n = some .local ∧ okName n = true ∧ X.env.scope.names.lookup ("repr" : Str) = some .globalImplicit) :
    ∀ {es : List PySem.Expr} {hs : List HI}, cHIs L nm es = some hs → PA (X.suite x ((x, o) :: pn)) es (tHIs (L.ga K) x oi cls dd hs)
  | [], hs, h => by cases h; exact his_nil
  | e :: es, hs, h => by
    have h : (match cHI L nm e, cHIs L nm es with | some h, some hs => if notStar e = true then some (h :: hs) else none | _, _ => none) = some hs := h
    cases h1 : cHI L nm e with
    | none => rw [h1] at h; cases h
    | some a =>
      cases h2 : cHIs L nm es with
      | none => rw [h1, h2] at h; cases h
      | some as =>
        rw [h1, h2] at h
        dsimp only at h
        split at h
        · rename_i hs
          cases h
          exact his_cons hs (hi_ok F T nx hK hz hf hg hu hm hn h1) (his_ok F T nx hK hz hf hg hu hm hn h2)
        · cases h
theorem suit_ok (F : Fx L K) (T : Tx L) (nx : 0 < L.exs.length) {X : Cx} (hK : X.K = K) {nm : Option Str} (hg : X.A.guards = some []) (hu : X.A.units + 64 < cLine) (hm : X.mg "repr" = none)
    (hn : ∀ n, nm = some n → ∃ i, oi = some i ∧ X.N[i]? = some n ∧ X.env.scope.names.lookup n = some .local ∧ okName n = true ∧ X.env.scope.names.lookup ("repr" : Str) = some .globalImplicit)
    {e : PySem.Expr} {hr : HR} {pos : Pos} (h : cHR L nm e = some hr) : SuitOk X [.Return (some e) pos] (tSuit (L.ga K) oi hr) := by
  unfold cHR at h
  split at h
  · rename_i es j p1
    cases q : cHIs L nm es with
    | none => rw [q] at h; cases h
    | some hs =>
      rw [q] at h
      cases h
      exact suit_tup fun x o cls d pn hz hf => his_ok F T nx hK hz hf hg hu hm hn q
  · cases q : cHI L nm e with
    | none => rw [q] at h; cases h
    | some hi =>
      rw [q] at h
      cases h
      exact suit_one fun x o cls d pn hz hf => hi_ok F T nx hK hz hf hg hu hm hn q
theorem clas_ok (F : Fx L K) (T : Tx L) (nx : 0 < L.exs.length) {X : Cx} (hK : X.K = K) (hN : X.N = d.N) (nd : d.N.Nodup) (hs : X.env.scope = d.scope) (hg : X.A.guards = some []) (hu : X.A.units + 64 < cLine) (hm : X.mg "repr" = none)
    (hx : ∀ (c : Nat) (t : XI), L.exs[c]? = some t → X.mg t.name = some (.ref ((L.ga K).xa c))) : ∀ {hds : List ExceptHandler} {l : Hsx}, cHs L d hds = some l → ClasOk X hds (clasH (L.ga K) l) ∧ ∀ t ∈ l, ∀ i, t.2.1 = some i → i < d.N.length
  | [], l, h => by cases h; exact ⟨.nil, fun t ht => by cases ht⟩
  | hd :: hds, l, h => by
    have h : (match cH L d hd, cHs L d hds with | some x, some xs => some (x :: xs) | _, _ => none) = some l := h
    cases h1 : cH L d hd with
    | none => rw [h1] at h; cases h
    | some a =>
      cases h2 : cHs L d hds with
      | none => rw [h1, h2] at h; cases h
      | some as =>
        rw [h1, h2] at h
        cases h
        obtain ⟨r1, r2⟩ := clas_ok F T nx hK hN nd hs hg hu hm hx h2
        unfold cH at h1
        split at h1
        · rename_i y py nm e pos p2
          split at h1
          · rename_i cy
            obtain ⟨cy1, cy2⟩ := cy
            split at h1
            · rename_i c hr hc hh
              obtain ⟨t, ht, hty⟩ := xIx_ok hc
              have nmy : Names X y (.ref ((L.ga K).xa c)) := ⟨by show X.env.scope.names.lookup y = _; rw [hs]; exact cy1, (okName_of cy2).1, .inl (by rw [← hty]; exact hx c t ht)⟩
              split at h1
              · cases h1
                refine ⟨.bare nmy (suit_ok F T nx hK hg hu hm (fun n z => by cases z) hh) r1, fun t ht i hi => ?_⟩
                rcases List.mem_cons.mp ht with q | q
                · subst q; cases hi
                · exact r2 t q i hi
              · rename_i n
                split at h1
                · rename_i cn
                  obtain ⟨cn1, cn2, cn3⟩ := cn
                  split at h1
                  · rename_i i hi
                    cases h1
                    have hiX : X.N[i]? = some n := by rw [hN]; exact find_ok hi
                    refine ⟨.named (by rw [hN]; exact nd) hiX (by show X.env.scope.names.lookup n = _; rw [hs]; exact cn1) nmy (suit_ok F T nx hK hg hu hm (fun n' z => ?_) hh) r1, fun t ht j hj => ?_⟩
                    · cases z
                      exact ⟨i, rfl, hiX, by rw [hs]; exact cn1, cn2, by rw [hs]; exact cn3⟩
                    · rcases List.mem_cons.mp ht with q | q
                      · subst q; cases hj; exact find_lt hi
                      · exact r2 t q j hj
                  · cases h1
                · cases h1
            · cases h1
          · cases h1
        · cases h1
end
end
end FD

set_option Elab.async false
set_option linter.all false
set_option autoImplicit false
set_option maxRecDepth 100000
set_option maxHeartbeats 2000000
/-! FFf: the facts of a body; every def keeps its promise. -/
namespace FD
open PySem PySem.Spec PyProof.Rows L2 LamX
section
variable {L : Lw} {K : PySem.W.Frag} {mg : Str → Option Value} {P0 : Program} {w : World} {base : Heap} {r : Nat → List W → Store → R W} {k : Nat}
theorem cHs_lt {d : DD} : ∀ {hds : List ExceptHandler} {l : Hsx}, cHs L d hds = some l → ∀ t ∈ l, ∀ i, t.2.1 = some i → i < d.N.length
  | [], l, h => by cases h; exact fun t ht => by cases ht
  | hd :: hds, l, h => by
    have h : (match cH L d hd, cHs L d hds with | some x, some xs => some (x :: xs) | _, _ => none) = some l := h
    cases h1 : cH L d hd with
    | none => rw [h1] at h; cases h
    | some a =>
      cases h2 : cHs L d hds with
      | none => rw [h1, h2] at h; cases h
      | some as =>
        rw [h1, h2] at h
        cases h
        intro t ht i hi
        rcases List.mem_cons.mp ht with q | q
        · subst q
          unfold cH at h1
          split at h1
          · split at h1
            · split at h1
              · split at h1
                · cases h1; cases hi
                · split at h1
                  · split at h1
                    · rename_i j hj
                      cases h1; cases hi
                      exact find_lt hj
                    · cases h1
                  · cases h1
              · cases h1
            · cases h1
          · cases h1
        · exact cHs_lt h2 t q i hi
theorem Kn.fnAt (kn : Kn L K mg P0 w base r k) {x : Str} {f : Nat} (h : L.fnIx x = some f) : ∃ d, L.dds[f]? = some d ∧ d.own = none ∧ d.name = x ∧ L.isEx d = false ∧ mg x = some (.ref (d.ad K)) := by
  obtain ⟨d, h1, h2⟩ := ixOf0 h
  simp only [Bool.and_eq_true, Option.isNone_iff_eq_none, beq_iff_eq] at h2
  obtain ⟨h3, h4⟩ := h2
  refine ⟨d, h1, h3, h4, by unfold Lw.isEx; rw [h3], ?_⟩
  rw [← h4]
  exact kn.F.glo kn.X kn.Gn h1 h3
theorem sxIds_plain (n : Nat) : isStr (sxIds n) = false := by
  unfold isStr sxIds
  rw [List.any_map]
  exact List.any_eq_false.mpr fun x _ => by simp
theorem Kn.bindId (kn : Kn L K mg P0 w base r k) {f : Nat} {d : DD} {cl : List (Str × Addr)} {dV kV doc pmo cdv ct : Value} {an : Option Addr} (hd : L.dds[f]? = some d) (h : shId L f d.ps.length = true) (h0 : d.dfl.length = 0) (hdV : dV = .none) :
    Binds K ⟨d.name, d.qual, d.params, .stmts d.body, d.scope, mainGlobals, cl, dV, kV, doc, pmo, an, cdv, ct, builtinsNs⟩ d.ps [] := by
  unfold shId at h
  obtain ⟨s, hs, e⟩ := List.any_eq_true.mp h
  obtain ⟨e1, e⟩ := He.ba e
  obtain ⟨e2, e⟩ := He.ba e
  obtain ⟨e3, e4⟩ := He.ba e
  have e1 := eq_of_beq e1
  have e2 := eq_of_beq e2
  have e3 := eq_of_beq e3
  have e4 := of_decide_eq_true e4
  have S := kn.B s hs d (by rw [e1]; exact hd)
  rw [h0, e2, e3, e4] at S
  unfold BdX at S
  rw [sxIds_plain] at S
  have S : BdS d.params d.ps 0 d.ps.length [] (sxIds d.ps.length) := S
  exact binds_of S rfl (fun us hl => by rw [← hl]; exact sxU_all us) hdV
theorem Kn.told (kn : Kn L K mg P0 w base r k) (nx : 0 < L.exs.length) {X : Cx} {ct : Ct} (eP : X.prog = P0) (ew : X.w = w) (eK : X.K = K) (em : X.mg = mg) (eb : X.base = base) (hg : X.A.guards = some []) (hu : X.A.units + 200 < cLine) {x : Str} {f : Nat} {d : DD} {hs : Hsx} (hf : L.fnIx x = some f) (hd : L.dds[f]? = some d) (h : toldHs L d = some hs) (hsh : shId L f 1 = true) :
    TolD ct X (L.ga K) { L.or with run := r } x hs := by
  obtain ⟨d', h1, h2, h3, h4, h5⟩ := kn.fnAt hf
  rw [hd] at h1
  cases h1
  unfold toldHs at h
  split at h
  · rename_i a p1 p2 p3 h₀ hds p4 nj np p5 hb
    split at h
    · rename_i c
      obtain ⟨c1, c2, c3, c4, c5, c6, c7⟩ := c
      have hp : L.isSp d = false := Kn.noSp h2
      have FD := kn.F.funD kn.fn hd c6 hp
      obtain ⟨oc, od, dV, kV, doc, pm, an, cdv, cty, osl, ef, lk, hcd, hD, hK'⟩ := FD.ex
      have S := kn.T.scope hd c6 hp
      have hq : d.qual = x := by unfold DD.qual; rw [h2]; exact h3
      obtain ⟨d1, d2⟩ := okName_of c4
      have hN0 : d.N[0]? = some a := by
        have q := S.pre
        rw [c1] at q
        have e1 : (d.N.take [a].length)[0]? = d.N[0]? := List.getElem?_take_of_lt Nat.zero_lt_one
        rw [← e1, q]; rfl
      have hdV : dV = .none := by
        rw [c5] at hD
        rcases hD with ⟨_, z⟩ | ⟨z, _⟩
        · exact z
        · exact absurd rfl z
      have bnd : Binds K (PySem.W.fnOf d.name d.qual d.params d.body d.scope dV kV doc pm an cdv cty) d.ps [] :=
        kn.bindId hd (by rw [c1]; exact hsh) (by rw [c5]; rfl) hdV
      rw [c1] at bnd
      refine ⟨h₀, hds, a, d.ad K, nj, d.params, d.scope, dV, kV, doc, pm, cdv, cty, oc, an, od, osl, d.N, p1, p2, p3, p4, p5, np, by rw [em]; exact h5, by rw [eK]; exact FD.kp, ?_, by rw [eK, ← hq]; exact hcd, ?_, by rw [← c1]; exact S, hN0, ?_, fun s H => ?_, ?_, d1, d2⟩
      · rw [eK, lk, ef, hb, hq, h3]
      · rw [eK]
        rw [hb, hq, h3] at bnd
        exact bnd
      · rcases c3 with c3 | c3
        · exact .inl c3
        · exact .inr (.inl c3)
      · have hu' : (X.A.deeper (envOfC x d.scope s.heap.objs.size (d.ad K) cdv)).units + 64 < cLine := by show X.A.units + 3 + 64 < cLine; omega
        exact (clas_ok kn.F kn.T nx (X := (cxOf C8.CX0 X.prog X.w X.K X.mg X.base d.N x d.scope (d.ad K) cdv X.A X.stack s H C8.E0).nox) eK rfl S.nd rfl hg hu' (by show X.mg "repr" = none; rw [em]; exact kn.F.gblt kn.X kn.Gn c7) (fun c t ht => by show X.mg t.name = _; rw [em]; exact (kn.F.gxa kn.X kn.Gn ht).2) h).1
      · exact cHs_lt h
    · cases h
  · cases h
/-- an own exception that is raised -/
theorem Kn.exk (kn : Kn L K mg P0 w base r k) (j : Nat) (hP : P0 = L.prog) {x : Str} {c : Nat} {fls : List (Str × Nat)} {np : Nat} {tb : Addr} {d0 : DD} (h : (L.cs tb d0).exc x = some (c, fls, np)) : ∃ (fI : Addr) (fd : FuncData) (ps : List Str), OexC K ((L.ga K).xa c) ∧ PySem.W.findIn K (.ref ((L.ga K).xa c)) "__init__" = some (some (.ref fI)) ∧ PySem.W.typeIn K (.ref fI) = some (.type "function") ∧
    FnOk P0 w K mg base (L2.CX P0 w) (j + 1) fI fd ps (spEx ((L.ga K).xa c) fls ps.length) ∧ Binds K fd ps [] ∧ np = ps.length ∧ (∀ q ∈ fls, 1 ≤ q.2) ∧ fls ≠ [] ∧ mg x = some (.ref ((L.ga K).xa c)) := by
  have h : (match ixOf (fun t : XI => t.name == x) 0 L.exs with
    | some c => (match L.exs[c]? with
      | some t => (match L.dds[t.f]? with
        | some di => if t.fls = [] then none else some (c, t.fls, di.ps.length)
        | none => none)
      | none => none)
    | none => none) = some (c, fls, np) := h
  split at h
  · rename_i c' hc
    obtain ⟨t', ht', hx⟩ := ixOf0 hc
    split at h
    · rename_i t ht
      rw [ht'] at ht
      cases ht
      split at h
      · rename_i di hdi
        split at h
        · cases h
        · rename_i hne
          cases h
          obtain ⟨ex, em⟩ := kn.F.gxa kn.X kn.Gn ht'
          have m := List.mem_of_getElem? ht'
          have hE : t'.fls.isEmpty = false := by
            cases q : t'.fls with
            | nil => exact absurd q hne
            | cons _ _ => rfl
          have z := List.all_eq_true.mp kn.F.xin t' m
          unfold xinB at z
          rw [hE, hdi] at z
          have z := (Bool.or_eq_true_iff.mp z).resolve_left (by decide)
          obtain ⟨z1, z⟩ := He.ba z
          obtain ⟨z2, z⟩ := He.ba z
          obtain ⟨z3, z⟩ := He.ba z
          obtain ⟨z4, z⟩ := He.ba z
          obtain ⟨z5, z⟩ := He.ba z
          obtain ⟨z6, z⟩ := He.ba z
          obtain ⟨z7, z⟩ := He.ba z
          obtain ⟨z8, z9⟩ := He.ba z
          have y := List.all_eq_true.mp kn.T.xt t' m
          unfold xtB at y
          rw [hE, hdi] at y
          have y := (Bool.or_eq_true_iff.mp y).resolve_left (by decide)
          obtain ⟨y0, y⟩ := He.ba y
          obtain ⟨y0a, y0b⟩ := He.ba y0
          obtain ⟨y1, y⟩ := He.ba y
          obtain ⟨y2, y⟩ := He.ba y
          obtain ⟨y3, y⟩ := He.ba y
          obtain ⟨y4, y⟩ := He.ba y
          obtain ⟨y5, y⟩ := He.ba y
          obtain ⟨y6, y⟩ := He.ba y
          obtain ⟨y7, y⟩ := He.ba y
          obtain ⟨y8, y⟩ := He.ba y
          -- the class
          have oex : OexC K (He.ga K t'.name) := by
            obtain ⟨a1, a⟩ := He.ba z1
            obtain ⟨a2, a⟩ := He.ba a
            obtain ⟨a3, a⟩ := He.ba a
            obtain ⟨a4, a5⟩ := He.ba a
            refine ⟨?_, eqO_ok a2, of_decide_eq_true a3, of_decide_eq_true a4, a5⟩
            split at a1
            · rename_i od cd sl lk
              split at a1
              · rename_i C' bm k0 k1 k2 k3 n k5 hm hsl
                obtain ⟨b1, b⟩ := He.ba a1
                obtain ⟨b2, b⟩ := He.ba b
                obtain ⟨b3, b⟩ := He.ba b
                obtain ⟨b4, b5⟩ := He.ba b
                obtain ⟨nm, bs, mro, ns, qn, hd, sn, sub, ab, col, del⟩ := cd
                have b1 := of_decide_eq_true b1
                have b2 := of_decide_eq_true b2
                dsimp only at hm b3 b4
                have b3 : del = false := by simpa using b3
                subst hm b3 b1 b2 b4
                have hsl2 : sl = #[k0, k1, k2, k3, some (.builtin "ValueError.__new__"), k5] := by
                  obtain ⟨l⟩ := sl
                  simp only at hsl
                  rw [hsl]
                subst hsl2
                exact ⟨nm, qn, ns, bs, bm, sn, sub, ab, col, od, k0, k1, k2, k3, k5, lk, b5⟩
              · cases a1
            · cases a1
          -- the def
          unfold sup1B at z2
          split at z2
          · rename_i oc od fd osl lk
            split at z2
            · rename_i x' cc cda e1 e2 e3
              obtain ⟨s1, s⟩ := He.ba z2
              obtain ⟨s2, s⟩ := He.ba s
              obtain ⟨s3, s4⟩ := He.ba s
              have s1 := of_decide_eq_true s1
              subst s1
              have hfn := kn.fn di (dd_mem hdi)
              unfold fnZ at hfn
              rw [lk] at hfn
              obtain ⟨n1, n2, n3, n4, n5, n6, n7, n8, n9, n10, n11, n12, n13, n14, n15⟩ := fd
              have hfn : (some (n1, n2, n3, n4, n5, n6, n15) : FnZ) = some (di.name, di.qual, di.params, .stmts di.body, di.scope, mainGlobals, builtinsNs) := hfn
              simp only [Option.some.injEq, Prod.mk.injEq] at hfn
              obtain ⟨f1, f2, f3, f4, f5, f6, f7⟩ := hfn
              dsimp only at e1 e2 e3
              subst f1 f2 f3 f4 f5 f6 f7 e1 e2 e3
              have tx := of_decide_eq_true y2
              unfold exTx at tx
              split at tx
              · rename_i sp p0 p1 ini ap m jj mp cp pos st rr hbody
                split at tx
                · rename_i hc3
                  obtain ⟨c1, c2, c3⟩ := hc3
                  subst c1 c2
                  have hhead : ∃ ar : Arg, (di.params.posonlyargs ++ di.params.args).head? = some ar ∧ ar.arg = "self" := by
                    have q := of_decide_eq_true y8
                    cases hh : (di.params.posonlyargs ++ di.params.args).head? with
                    | none => rw [hh] at q; cases q
                    | some ar => rw [hh] at q; exact ⟨ar, rfl, Option.some.inj q⟩
                  obtain ⟨ar, ha1, ha2⟩ := hhead
                  have TX : ExTx di.N di.ps di.scope di.body "self" t'.fls := ⟨NdefX.nscope_by y0b, of_decide_eq_true y1, ⟨p0, p1, ap, cp, pos, mp, m, jj, st, rr, hbody, c3, tx⟩, fun q hq => (of_decide_eq_true (List.all_eq_true.mp y3 q hq)).2, of_decide_eq_true y4⟩
                  have SU : SupOk P0 K mg (di.ad K) cc cda (He.ga K t'.name) di.scope "self" := by
                    refine ⟨⟨oc, od, _, osl, ar, lk, ha1, ha2⟩, ?_, ?_, z8, by rw [hP]; exact kn.T.top, of_decide_eq_true y5, of_decide_eq_true y6, of_decide_eq_true y7, kn.F.gblt kn.X kn.Gn kn.T.sup, kn.F.st⟩
                    · split at s3
                      · rename_i ccl cdd vs ccs lc
                        split at s3
                        · rename_i file tf hv
                          exact ⟨ccl, cdd, vs, ccs, file, tf, lc, hv, by rw [hP]; exact s3⟩
                        · cases s3
                      · cases s3
                    · split at s4
                      · rename_i cl cld D csl lcc
                        have s4 := of_decide_eq_true s4
                        subst s4
                        exact ⟨cl, cld, csl, lcc⟩
                      · cases s4
                  have FO := fn_ex (CX := L2.CX P0 w) (P := P0) (w := w) (mg := mg) (base := base) (k := j) lk s2 TX SU oex (fun q hq => eqO_ok (List.all_eq_true.mp z9 q hq)) (of_decide_eq_true z7) (eqO_ok z5) (of_decide_eq_true z6)
                  refine ⟨di.ad K, _, di.ps, by rw [ex]; exact oex, by rw [ex]; exact eqO_ok z3, of_decide_eq_true z4, by rw [ex]; exact FO, ?_, rfl, fun q hq => (of_decide_eq_true (List.all_eq_true.mp y3 q hq)).1, hne, by have e := eq_of_beq hx; rw [← e]; exact em⟩
                  exact kn.bindId hdi y0a (by show di.dfl.length = 0; unfold DD.dfl; rw [List.length_map, List.isEmpty_iff.mp y]; rfl) rfl
                · cases tx
              · cases tx
            · cases z2
          · cases z2
      · cases h
    · cases h
  · cases h
end
end FD

set_option Elab.async false
set_option linter.all false
set_option autoImplicit false
set_option maxRecDepth 100000
set_option maxHeartbeats 2000000
/-! FFg: the facts of a body; every def keeps its promise, level by level. -/
namespace FD
open PySem PySem.Spec PyProof.Rows L2 LamX
section
variable {L : Lw} {K : PySem.W.Frag} {mg : Str → Option Value} {w : World} {base : Heap} {r : Nat → List W → Store → R W} {k : Nat} {tb : Addr}
theorem Kn.ct0 {P0 : Program} (kn : Kn L K mg P0 w base r k) {d : DD} {X : Cx} {Wx : WX} (eP : X.prog = P0) (ew : X.w = w) (eK : X.K = K) (em : X.mg = mg) (eb : X.base = base) (hN : X.N = d.N) (hs : X.env.scope = d.scope) (nd : d.N.Nodup) (hc : X.calm = true) (hr : Room (k + 10) X.A) (hg : X.A.guards = some []) (tk : Takes X Wx) :
    CtOk0 (L.ct tb d) X (L.ga K) { L.or with run := r } (L.fi K) k Wx where
  N := hN
  nd := nd
  nm := by rw [hs]; rfl
  kind := by rw [hs]; rfl
  hK := eK
  calm := hc
  gd := hg
  room := hr.mono (by omega)
  tk := tk
  C := by
    subst eK
    have c := kn.F.clsOk kn.T
    exact ⟨c.ins, c.sub, c.kit, c.refl, c.bty, c.tys, c.ne, c.anti⟩
  nmk := fun c => by
    subst eK
    exact kn.F.nmk kn.T c
  M := kn.meths eP ew eK em eb
  ops := by
    subst eK
    exact kn.F.opsOk kn.T
  cl := fun c => by
    subst eK
    exact ((kn.F.clsOk kn.T).ins c).1
  noat := fun f hf c => by
    subst eK
    exact (kn.F.cls1 (clip_lt kn.T.nc)).2 f hf
  fnk := fun x f hf => by
    subst eP ew em eb
    rw [eK]
    obtain ⟨d', h1, h2, h3, h4, h5⟩ := kn.fnAt hf
    have e := fi_at (K := K) h1
    refine ⟨by rw [e]; exact h5, by rw [e]; exact (kn.F.funD kn.fn h1 h4 (Kn.noSp h2)).kp, kn.P f d' h1 h4⟩
  bdk := fun f np ks pm h => by
    subst eP ew em eb
    rw [eK]
    have h : L.bdOf f np ks = some pm := h
    cases q : L.dds[f]? with
    | none =>
      unfold Lw.bdOf at h
      rw [q] at h
      split at h
      · rename_i e; cases e
      · cases h
    | some d' =>
      cases q2 : L.isEx d' with
      | false => exact kn.F.bdk kn.T kn.fn kn.B q q2 h
      | true =>
        unfold Lw.bdOf at h
        rw [q] at h
        split at h
        · rename_i e
          cases e
          rw [q2] at h
          cases h
        · cases h
  mkk := fun x c f h => by
    subst eP ew em eb
    rw [eK]
    have h : (match L.clIx x with
    | some i => (match L.cls[i]? with
      | some t => some (i, t.2.2)
      | none => none)
    | none => none) = some (c, f) := h
    split at h
    · rename_i i hi
      split at h
      · rename_i t ht
        cases h
        obtain ⟨t', ht', hx'⟩ := ixOf0 hi
        rw [ht] at ht'
        cases ht'
        have z := List.all_eq_true.mp kn.F.mkk t (List.mem_of_getElem? ht)
        split at z
        · rename_i d' hd'
          obtain ⟨z0, z⟩ := He.ba z
          obtain ⟨z1, z⟩ := He.ba z
          obtain ⟨z2, z⟩ := He.ba z
          obtain ⟨z3, z4⟩ := He.ba z
          have hx2 : L.isEx d' = false := by simpa using z0
          have e : (L.ga K).ca c = He.ga K t.1 := by
            have hc := (List.getElem?_eq_some_iff.mp ht).1
            show He.ga K (L.cn (clip L.cls.length c)) = _
            rw [clip_of hc]
            unfold Lw.cn
            rw [ht]
          refine ⟨?_, ?_, kn.P _ d' hd' hx2⟩
          · rw [← eq_of_beq hx']; exact kn.F.gcl kn.X kn.Gn ht
          · rw [fi_at hd', e]
            exact ⟨z1, eqO_ok z2, z3, z4⟩
        · cases z
      · cases h
    · cases h
  clk := fun x c h => by
    subst em
    obtain ⟨t, ht, hx'⟩ := ixOf0 (show L.clIx x = some c from h)
    rw [← eq_of_beq hx']
    exact kn.F.gcl kn.X kn.Gn ht
  statk := fun x m f h => by
    subst eP ew em eb
    rw [eK]
    have h : ((L.stats.find? fun t => t.1 == x && t.2.1 == m).map fun t => t.2.2) = some f := h
    cases q : L.stats.find? fun t => t.1 == x && t.2.1 == m with
    | none => rw [q] at h; cases h
    | some t =>
      rw [q] at h
      cases h
      have e := List.find?_some q
      simp only [Bool.and_eq_true, beq_iff_eq] at e
      obtain ⟨e1, e2⟩ := e
      have z := List.all_eq_true.mp kn.F.stat t (List.mem_of_find?_eq_some q)
      split at z
      · rename_i d' hd'
        obtain ⟨z0, z⟩ := He.ba z
        obtain ⟨z00, z01⟩ := He.ba z0
        obtain ⟨z1, z⟩ := He.ba z
        obtain ⟨z2, z⟩ := He.ba z
        obtain ⟨z3, z⟩ := He.ba z
        obtain ⟨z4, z5⟩ := He.ba z
        have hx2 : L.isEx d' = false := by simpa using z00
        subst e1 e2
        refine ⟨He.ga K t.1, .type "type", statRec K (He.ga K t.1) t.2.1, He.glo_ok kn.X kn.Gn z01, ⟨⟨z1, eqO_ok z2⟩, ?_, ?_, ?_⟩, kn.P _ d' hd' hx2⟩
        · split at z3
          · rename_i g p C hfc
            obtain ⟨y1, y⟩ := He.ba z3
            obtain ⟨y2, y3⟩ := He.ba y
            show PySem.W.findCls K (.ref (He.ga K t.1)) (.type "type") t.2.1 = _
            rw [hfc, of_decide_eq_true y1, of_decide_eq_true y2, of_decide_eq_true y3]
          · cases z3
        · split at z4
          · rename_i g rest hrec
            rw [fi_at hd', ← of_decide_eq_true z4]
            exact ⟨rest, hrec⟩
          · cases z4
        · rw [fi_at hd']; exact z5
      · cases z
  cstk := fun x p h => em ▸ kn.F.gcst kn.X kn.Gn h
  gcdk := fun x h => by
    subst em
    obtain ⟨h1, h2⟩ := He.ba (show (L.gcd && x == "gcd") = true from h)
    have z := (He.ba kn.F.csts).2
    rw [h1] at z
    have z := (Bool.or_eq_true_iff.mp z).resolve_left (by decide)
    split at z
    · rename_i i e
      rw [of_decide_eq_true z] at e
      rw [eq_of_beq h2]
      exact PySem.W.mg_of kn.X kn.Gn e
    · cases z
  bltk := fun x h => em ▸ kn.F.gblt kn.X kn.Gn h
/-- room for all -/
theorem Kn.cs (kn : Kn L K mg L.prog w base r (k + 1)) {f : Nat} {d : DD} (hd : L.dds[f]? = some d) (hx : L.isEx d = false) (hp : L.isSp d = false) {cdv : Value} {A : Around} {outer : List PySem.Env} {s : Shared} {H : Hp} {E : XK} (hr : Room (k + 11) (A.deeper (envOfC d.qual d.scope s.heap.objs.size (d.ad K) cdv))) (hg : A.guards = some [])
    (hT : hasTab d = true → ∃ c, cdv = .ref c ∧ TabB base mg c tb) :
    CsOk (L.cs tb d) (cxOf (L2.CX L.prog w) L.prog w K mg base d.N d.qual d.scope (d.ad K) cdv A outer s H E) (L.ga K) { L.or with run := r } (L.fi K) (k + 1) (fun cls d _ H => E cls d H) where
  toCtOk0 := kn.ct0 (tb := tb) rfl rfl rfl rfl rfl rfl rfl (kn.T.scope hd hx hp).nd rfl hr hg takes_cx
  told := by
    have c0 := kn.ct0 (tb := tb) (d := d) (X := cxOf (L2.CX L.prog w) L.prog w K mg base d.N d.qual d.scope (d.ad K) cdv A outer s H E) (Wx := fun cls d _ H => E cls d H) rfl rfl rfl rfl rfl rfl rfl (kn.T.scope hd hx hp).nd rfl hr hg takes_cx
    by_cases ht : hasTab d = true ∧ L.told ≠ []
    · obtain ⟨ht, hne⟩ := ht
      have nx : 0 < L.exs.length := kn.T.nx.resolve_left hne
      obtain ⟨cc, ec, TB⟩ := hT ht
      refine told_of (cc := cc) (P := tb) c0 hr (exs_ok kn.F kn.T nx) TB (by rw [ec]; rfl) fun x hs tb' q kc h => ?_
      have h : (if hasTab d = true ∧ L.told.contains x = true ∧ d.scope.names.lookup x = some .globalImplicit ∧ okName x = true then (match L.fnIx x with
        | some f => if shId L f 1 = true then (match L.dds[f]? with
          | some d' => (toldHs L d').map fun hs => (hs, tb, d.qual ++ ".<locals>." ++ "<lambda>", 0)
          | none => none) else none
        | none => none) else none) = some (hs, tb', q, kc) := h
      split at h
      · rename_i c
        obtain ⟨c1, c2, c3, c4⟩ := c
        split at h
        · rename_i f' hf'
          split at h
          · rename_i hsh
            split at h
            · rename_i d' hd'
              cases hh : toldHs L d' with
              | none => rw [hh] at h; cases h
              | some hs' =>
                rw [hh] at h
                cases h
                refine ⟨rfl, rfl, c3, (okName_of c4).1, kn.told nx rfl rfl rfl rfl rfl hg ?_ hf' hd' hh hsh⟩
                have := hr.un
                show (A.deeper _).units + 200 < cLine
                omega
            · cases h
          · cases h
        · cases h
      · cases h
    · intro x hs tb' q kc h
      have h : (if hasTab d = true ∧ L.told.contains x = true ∧ d.scope.names.lookup x = some .globalImplicit ∧ okName x = true then _ else none) = some (hs, tb', q, kc) := h
      rw [if_neg fun z => ht ⟨z.1, fun e => by
        have y := z.2.1
        rw [e] at y
        cases y⟩] at h
      cases h
  blk := by
    show (if d.scope.kind.isAnnotationScope then ScopeKind.function else d.scope.kind) = .function
    rw [(kn.T.scope hd hx hp).kind]
    rfl
  pass := passes_of rfl
  fnl := fun x _ => .inl rfl
  exk := fun x c fls np h => kn.exk k rfl h
/-- .. and of one that begins with super().__init__(..) -/
theorem Kn.csp (kn : Kn L K mg L.prog w base r (k + 1)) {f : Nat} {d : DD} (hd : L.dds[f]? = some d) (hx : L.isEx d = false) (hp : L.isSp d = true) {F : NdefX.NF} (hF : F.scope = d.scope) {A : Around} {outer : List PySem.Env} {s : Shared} {H : Hp} {E : XK} (hr : Room (k + 11) (A.deeper (NdefX.envF F (d.ad K) s.heap.objs.size))) (hg : A.guards = some []) :
    CsOk (L.cs tb d) (NdefX.ncx (L2.CX L.prog w) L.prog w K mg base d.N F (d.ad K) A outer s H E) (L.ga K) { L.or with run := r } (L.fi K) (k + 1) (fun cls d _ H => E cls d H) where
  toCtOk0 := kn.ct0 (tb := tb) rfl rfl rfl rfl rfl rfl hF (kn.T.sp hd hx hp).1.nd rfl hr hg takes_ncx
  told := by
    intro x hs tb' q kc h
    have ht : ¬ hasTab d = true := fun z => by
      have z1 := (He.ba z).1
      have z2 := (He.ba hp).1
      rw [Option.isNone_iff_eq_none.mp z1] at z2
      cases z2
    have h : (if hasTab d = true ∧ L.told.contains x = true ∧ d.scope.names.lookup x = some .globalImplicit ∧ okName x = true then _ else none) = some (hs, tb', q, kc) := h
    rw [if_neg fun z => ht z.1] at h
    cases h
  blk := by
    show (if F.scope.kind.isAnnotationScope then ScopeKind.function else F.scope.kind) = .function
    rw [hF, (kn.T.sp hd hx hp).1.kind]
    rfl
  pass := passes_of rfl
  fnl := fun x h => .inr (by
    show F.scope.names.lookup x = _
    rw [hF]
    have h : (match d.scope.names.lookup x with
      | some .local => true
      | some .cell => true
      | _ => false) = true := h
    split at h
    · assumption
    · rename_i e
      exact absurd rfl ((kn.T.sp hd hx hp).1.nocell _ (PySem.mem_of_lookup e))
    · cases h)
  exk := fun x c fls np h => kn.exk k rfl h
/-- a def whose code says nothing -/
theorem bad_fnP {P0 : Program} {G : Ga} {d : DD} {dvs : List V} (S : FnScope d.N d.ps d.scope) (F : FunD K d.name d.qual d.params d.body d.scope dvs [] (d.ad K) (fdAt K (d.ad K))) (k : Nat) : FnP P0 w K mg base G ⟨d.ad K, fdAt K (d.ad K), d.ps⟩ (fun _ _ => .bad) (k + 1) := by
  obtain ⟨oc, od, dV, kV, doc, pm, an, cdv, ct, osl, ef, lk, hcd, hD, hK⟩ := F.ex
  intro A outer s H args Q E Gd hr hg e0 hbn hgd
  rw [ef] at hbn
  rw [ef] at lk
  refine StX.run_bnd lk hcd S hr e0 hbn fun s2 H2 vs hv hr2 => ?_
  obtain ⟨xs, wd, eH, sr, rv, ok⟩ := hgd vs H2 hv
  exact ok.elim
theorem bad_sp {P0 : Program} {G : Ga} {d : DD} {run : List W → Store → R W} {kV doc pm : Value} {an : Option Addr} {cda : Addr} {ct : Value} {cc : Addr} {oc : Value} {od : Option Addr} {osl : Array (Option Value)} (hbad : ∀ xs S, run xs S = .bad) (S : NdefX.NScope d.N d.ps ["__class__"] d.scope)
    (ef : fdAt K (d.ad K) = PySem.W.ksFn d.name d.qual d.params d.body d.scope .none kV doc pm an (.ref cda) ct cc) (lk : K.lookup (d.ad K) = some ⟨oc, od, .func (PySem.W.ksFn d.name d.qual d.params d.body d.scope .none kV doc pm an (.ref cda) ct cc), osl⟩) (hcd : PySem.W.codeIn K (.ref cda) d.qual = true) (k : Nat) :
    FnP P0 w K mg base G ⟨d.ad K, fdAt K (d.ad K), d.ps⟩ run (k + 1) := by
  intro A outer s H args Q E Gd hr hg e0 hbn hgd
  rw [ef] at hbn
  have KX : K.In s.heap := e0.mod.kin.keeps fun b o e => (e0.bs b o e).1
  refine codeAny_call_function hr.depth (KX _ _ lk) rfl S.co S.gen rfl (PySem.W.codeRec_of KX hcd) ?_
  refine hbn _ _ _ fun s2 H2 vs us e2 un ho hx r hl gg => ?_
  obtain ⟨xs, wd, eH, sr, rv, ok⟩ := hgd vs H2 gg
  rw [hbad] at ok
  exact ok.elim
theorem clIx_name {x : Str} {c : Nat} (h : L.clIx x = some c) : c < L.cls.length ∧ L.cn c = x := by
  obtain ⟨t, h1, h2⟩ := ixOf0 h
  refine ⟨(List.getElem?_eq_some_iff.mp h1).1, ?_⟩
  unfold Lw.cn
  rw [h1]
  exact eq_of_beq h2
/-- a def that begins with super().__init__(..) keeps its promise -/
theorem Kn.sp (kn : Kn L K mg L.prog w base (runP (L.fns tb) L.or k) (12 * k + 1)) {f : Nat} {d : DD} (hd : L.dds[f]? = some d) (hx : L.isEx d = false) (hp : L.isSp d = true) :
    FnP L.prog w K mg base (L.ga K) ⟨d.ad K, fdAt K (d.ad K), d.ps⟩ (runP (L.fns tb) L.or (k + 1) f) (12 * (k + 1) + 1) := by
  obtain ⟨c, g, C, db, kV, doc, pm, an, cda, ct, cc, oc, od, osl, S⟩ := kn.F.spD kn.fn hd hx hp
  obtain ⟨t1, t2, t3, t4, t5, t6, t7⟩ := kn.T.sp hd hx hp
  have hfs : (L.fns tb)[f]? = some ⟨d.ps.length, d.N.length, L.bodySp tb d⟩ := by
    unfold Lw.fns
    rw [List.getElem?_map, hd]
    show some (⟨d.ps.length, d.N.length, L.bodyOf tb d⟩ : Fn) = _
    unfold Lw.bodyOf
    rw [if_pos hp]
  have nope : L.bodySp tb d = [.nope] → FnP L.prog w K mg base (L.ga K) ⟨d.ad K, fdAt K (d.ad K), d.ps⟩ (runP (L.fns tb) L.or (k + 1) f) (12 * (k + 1) + 1) := fun h => by
    rw [h] at hfs
    refine bad_sp (fun xs S => ?_) t1 S.fd S.lk S.cd _
    unfold runP
    rw [hfs]
    dsimp only
    split <;> rfl
  cases hb : d.body with
  | nil => exact nope (by unfold Lw.bodySp; rw [hb])
  | cons st rest =>
  by_cases hshape : ∃ sp p0 p1 ini ap es cp pos, st = .Expr (.Call (.Attribute (.Call (.Name sp p0) [] [] p1) ini ap) es [] cp) pos
  · obtain ⟨sp, p0, p1, ini, ap, es, cp, pos, rfl⟩ := hshape
    by_cases hc : sp = "super" ∧ ini = "__init__" ∧ (ap.endLine == cp.line) = true ∧ notStars es = true ∧ es.length < 29
    · cases hbd : L.bdOf g (es.length + 1) [] with
      | none => exact nope (by unfold Lw.bodySp; rw [hb]; dsimp only; rw [if_pos hc, S.sup]; dsimp only; rw [hbd])
      | some pmm =>
        have hbody : L.bodySp tb d = .expr (.sup c g (cEs (cE 40 (L.cs tb d).toCt) es) pmm) :: cSs 40 (L.cs tb d) rest := by unfold Lw.bodySp; rw [hb]; dsimp only; rw [if_pos hc, S.sup]; dsimp only; rw [hbd]
        rw [hbody] at hfs
        obtain ⟨c1, c2, c3, c4, c5⟩ := hc
        subst c1 c2
        have hlen : lenEs (cEs (cE 40 (L.cs tb d).toCt) es) = es.length := cEs_len es
        have hclI : L.clIx C = some c := by
          have q := S.sup
          unfold Lw.supOf at q
          rw [S.own] at q
          dsimp only at q
          cases hci : L.clIx C with
          | none => rw [hci] at q; cases q
          | some c' =>
            rw [hci] at q
            dsimp only at q
            split at q
            · split at q
              · cases q; rfl
              · cases q
            · cases q
        obtain ⟨hcl, hcn⟩ := clIx_name hclI
        have hsup : SupOk L.prog K mg (d.ad K) cc cda (He.ga K C) d.scope "self" := by
          obtain ⟨ar, a1, a2⟩ := t6
          exact ⟨⟨oc, od, _, osl, ar, S.lk, a1, a2⟩, S.file, S.cell, S.cls, kn.T.top, t3, t4, t5, kn.F.gblt kn.X kn.Gn kn.T.sup, kn.F.st⟩
        have hfi := fi_at (K := K) S.base
        have e : 12 * (k + 1) + 1 = (12 * k + 2) + 11 := by omega
        rw [e]
        have lk := S.lk
        have efd := S.fd
        rw [hb] at lk efd
        rw [efd]
        refine fnP_sup (f2 := 0) (P := L.prog) (k := 12 * k + 2) (F2 := L.fi K g) (pmm := pmm) (D := He.ga K C) rfl lk S.cd t1 t2 hsup rfl hfs ((kn.P g db S.base S.dbx).mono (by omega)) (by rw [hlen]; exact kn.F.bdk kn.T kn.fn kn.B S.base S.dbx hbd) ?_ c4 c5 (fun h => by rw [h]; rfl) c3 fun A outer s H E hr hg => ?_
        · rw [hfi]
          refine ⟨fun c' hs => ?_, fun c' hs => ?_, S.ty, S.fnin⟩
          · have hs : (L.up (clip L.cls.length c')).contains (clip L.cls.length c) = true := hs
            rw [clip_of hcl] at hs
            exact (S.above _ (clip_lt kn.T.nc) hs).1
          · have hs : (L.up (clip L.cls.length c')).contains (clip L.cls.length c) = true := hs
            rw [clip_of hcl] at hs
            exact (S.above _ (clip_lt kn.T.nc) hs).2
        · have cs := kn.csp (k := 12 * k) (tb := tb) (outer := outer) (s := s) (H := H) (E := E) hd hx hp (F := ⟨d.name, d.qual, d.params, _, d.scope, [("__class__", cc)], cda⟩) rfl (hr.mono (by omega)) hg
          exact ⟨s_es ((snd_all 40).1 _ _ _ cs.toCtOk) es c4, (snd_Ss 40).2 (L.cs tb d) _ _ cs rest⟩
    · exact nope (by unfold Lw.bodySp; rw [hb]; dsimp only; rw [if_neg hc])
  · refine nope ?_
    unfold Lw.bodySp
    rw [hb]
    split
    · rename_i e
      cases e
      exact absurd ⟨_, _, _, _, _, _, _, _, rfl⟩ hshape
    · rfl
/-- level by level -/
theorem fnP_all (F : Fx L K) (T : Tx L) (B : L.BdAll) (fn : ∀ d ∈ L.dds, fnZ K (d.ad K) = d.val) (X : K.In base) (Gn : base.Ns mainGlobals mg)
    (hT : ∀ d ∈ L.dds, hasTab d = true → ∃ oc od fd osl c, K.lookup (d.ad K) = some ⟨oc, od, .func fd, osl⟩ ∧ fd.code = .ref c ∧ TabB base mg c tb) : ∀ n, Kn L K mg L.prog w base (runP (L.fns tb) L.or n) (12 * n + 1)
  | 0 => ⟨F, T, B, fn, X, Gn, fun f d hd hx => by
    rw [fi_at hd]
    cases hp : L.isSp d with
    | false => exact bad_fnP (T.scope hd hx hp) (F.funD fn hd hx hp) 0
    | true =>
      obtain ⟨c, g, C, db, kV, doc, pm, an, cda, ct, cc, oc, od, osl, S⟩ := F.spD fn hd hx hp
      exact bad_sp (fun _ _ => rfl) (T.sp hd hx hp).1 S.fd S.lk S.cd 0⟩
  | n + 1 => by
    have kn := fnP_all F T B fn X Gn hT n
    refine ⟨F, T, B, fn, X, Gn, fun f d hd hx => ?_⟩
    rw [fi_at hd]
    cases hp : L.isSp d with
    | true => exact kn.sp hd hx hp
    | false =>
    have FD := F.funD fn hd hx hp
    obtain ⟨oc, od, dV, kV, doc, pm, an, cdv, ct, osl, ef, lk, hcd, hD, hK⟩ := FD.ex
    have hfs : (L.fns tb)[f]? = some ⟨d.ps.length, d.N.length, cSs 40 (L.cs tb d) d.body⟩ := by
      unfold Lw.fns
      rw [List.getElem?_map, hd]
      show some (⟨d.ps.length, d.N.length, L.bodyOf tb d⟩ : Fn) = _
      unfold Lw.bodyOf
      rw [if_neg (by rw [hp]; decide)]
    have e : 12 * (n + 1) + 1 = (12 * n + 12) + 1 := by omega
    rw [e]
    rw [ef] at lk
    refine fnP_of (F := ⟨d.ad K, fdAt K (d.ad K), d.ps⟩) ef lk hcd (T.scope hd hx hp) hfs fun A outer s H E hr hg => ?_
    refine (snd_Ss 40).2 (L.cs tb d) _ _ (kn.cs (k := 12 * n) hd hx hp (hr.mono (by omega)) hg fun ht => ?_) d.body
    obtain ⟨oc', od', fd', osl', c, l1, l2, l3⟩ := hT d (dd_mem hd) ht
    rw [lk] at l1
    cases l1
    exact ⟨c, l2, l3⟩
end
end FD

set_option Elab.async false
set_option linter.all false
set_option autoImplicit false
set_option maxRecDepth 100000
set_option maxHeartbeats 2000000
/-! FFh: the law's call, from the caller of all. -/
namespace FD
open PySem PySem.Spec PyProof.Rows L2 LamX
section
/-- what is tracked at first: the tables ts, the list at z if the written part does not hold it -/
def firstH (ts : List Addr) (z : Addr) (f : Bool) (vs : List Value) (xs : List V) : Hp := fun b => if b ∈ ts then some (.tbl #[]) else if b = z ∧ f = true then some (.frz { cls := .type "list", data := .seq vs.toArray } (.lst xs)) else none
theorem law_run {P : Program} {w : World} {K : PySem.W.Frag} {mg mb : Str → Option Value} {fa z : Addr} {cs : List (Addr × Addr)} {s₁ : Shared} {vs : List Value} {ns : List Int}
    (kin : K.In s₁.heap) (gns : s₁.heap.Ns mainGlobals mg) (bns : s₁.heap.Ns builtinsNs mb) (boot : ∀ x : Str, x ≠ "__name__" → mb x = bootBuiltins x) (nol : s₁.heap.NoLimit) (gens : s₁.gens = #[])
    (tabs : ∀ p ∈ cs, s₁.heap.get? p.2 = some { cls := .none, data := .fields #[] } ∧ K.lookup p.2 = none ∧ PySem.W.CodeHd s₁.heap p.1 p.2)
    (main : ∃ (bm : Addr) (ob : Obj), mg "__builtins__" = some (.ref bm) ∧ bm ≠ builtinsNs ∧ s₁.heap.get? bm = some ob ∧ ob.cls = .type "module" ∧ ob.dict = some builtinsNs ∧ ob.data = .plain)
    (obj : s₁.heap.get? z = some { cls := .type "list", data := .seq vs.toArray }) (hints : IntsAre vs ns) (few : ns.length ≤ sizeLine)
    (F : ∀ (base : Heap) (H : Hp), K.In base → base.Ns mainGlobals mg → (∀ p ∈ cs, TabB base mg p.1 p.2) → Env0 P w K mg base callerA [] s₁ H → (∀ p ∈ cs, H p.2 = some (.tbl #[])) → ((∃ o, H z = some (.frz o (.lst (ns.map V.int)))) ∨ SqL K (fun _ => none) z (ns.map V.int)) →
      codeAny (model P w) callerA (.call (.ref fa) ⟨[.ref z], []⟩) (CR (L2.CX P w) [] P w H s₁ (fun v _ => v = .bl true) fun _ _ _ => False) s₁) :
    codeAny (model P w) callerA (.call (.ref fa) ⟨[.ref z], []⟩) (fun r s' => r = .ok (.ret (.bool true)) ∧ OldK s₁.heap s'.heap ∧ s'.os = s₁.os ∧ AllBare s'.gens) s₁ := by
  have rel := vals_ints hints
  have len := hints.length
  obtain ⟨ts, ets⟩ : ∃ ts, ts = cs.map Prod.snd := ⟨_, rfl⟩
  have inT : ∀ p ∈ cs, p.2 ∈ ts := fun p hp => ets ▸ List.mem_map_of_mem hp
  have empty : ∀ b ∈ ts, s₁.heap.get? b = some { cls := .none, data := .fields #[] } := fun b hb => by
    subst ets
    obtain ⟨p, hp, rfl⟩ := List.mem_map.mp hb
    exact (tabs p hp).1
  have zT : z ∉ ts := fun hz => by
    have q := obj.symm.trans (empty z hz)
    injection q with q
    injection q with _ _ q
    cases q
  obtain ⟨f, ef⟩ : ∃ f, f = (K.lookup z).isNone := ⟨_, rfl⟩
  obtain ⟨H, eH⟩ : ∃ H, H = firstH ts z f vs (ns.map V.int) := ⟨_, rfl⟩
  have hT : ∀ b ∈ ts, H b = some (.tbl #[]) := fun b hb => by rw [eH]; exact if_pos hb
  have hZ : f = true → H z = some (.frz { cls := .type "list", data := .seq vs.toArray } (.lst (ns.map V.int))) := fun h => by
    rw [eH]
    exact (if_neg zT).trans (if_pos ⟨rfl, h⟩)
  have off : ∀ b, b ∉ ts → ¬ (b = z ∧ f = true) → H b = none := fun b h1 h2 => by
    rw [eH]
    exact (if_neg h1).trans (if_neg h2)
  -- what is tracked stands
  have stands : HOk P w H s₁.heap := fun b u q => by
    by_cases h1 : b ∈ ts
    · cases (hT b h1).symm.trans q
      exact empty b h1
    · by_cases h2 : b = z ∧ f = true
      · obtain ⟨rfl, h2⟩ := h2
        cases (hZ h2).symm.trans q
        exact ⟨obj, (by rw [List.length_map]; exact few), vs, _, rel, obj⟩
      · cases (off b h1 h2).symm.trans q
  have bare : ∀ {b : Addr} {o : Obj}, s₁.heap.get? b = some o → (∀ xs n, o.data ≠ .seq xs n) → o.data ≠ .fields #[] → H b = none := fun {b o} e h1 h2 => by
    refine off b (fun q => ?_) fun q => ?_
    · rw [empty b q] at e
      cases e
      exact h2 rfl
    · rw [q.1, obj] at e
      cases e
      exact h1 _ _ rfl
  have seen : ∀ {b : Addr} {o : Obj}, s₁.heap.get? b = some o → (∀ xs n, o.data ≠ .seq xs n) → o.data ≠ .fields #[] → (hidT s₁.heap H).get? b = some o := fun e h1 h2 => hidT_get e (bare e h1 h2)
  have seenNs : ∀ {b : Addr} {m : Str → Option Value}, s₁.heap.Ns b m → (hidT s₁.heap H).Ns b m := fun {b m} ⟨o, es, ep, e, d, r⟩ => by
    refine ⟨o, es, ep, seen e (fun xs n q => ?_) (fun q => ?_), d, r⟩
    · rw [q] at d; cases d
    · rw [q] at d; cases d
  have kin2 : K.In (hidT s₁.heap H) := fun b o e => hidT_get (kin b o e) (off b (fun q => by
    subst ets
    obtain ⟨p, hp, rfl⟩ := List.mem_map.mp q
    rw [(tabs p hp).2.1] at e
    cases e) fun q => by
    rw [q.1] at e
    rw [ef, e] at q
    exact Bool.false_ne_true q.2)
  have md : L2.Mod K mg (hidT s₁.heap H) := ⟨kin2, seenNs gns, ⟨mb, seenNs bns, boot⟩, by obtain ⟨mc, q1, q2⟩ := nol; exact ⟨mc, seenNs q1, q2⟩⟩
  have TB : ∀ p ∈ cs, TabB (hidT s₁.heap H) mg p.1 p.2 := fun p hp => by
    obtain ⟨t1, t2, t3⟩ := tabs p hp
    refine ⟨?_, ?_, fun q => ?_⟩
    · obtain ⟨o, us, file, tf, flags, tg, inF, text, tt, c1, c2, c3, c4, cr⟩ := t3
      refine ⟨o, us, file, tf, flags, tg, inF, text, tt, seen c1 (fun xs n q => ?_) (fun q => ?_), c2, c3, c4, cr⟩
      · rw [q] at c3; cases c3
      · rw [q] at c3; cases c3; simp at c4
    · obtain ⟨bm, ob, m1, m2, m3, m4, m5, m6⟩ := main
      refine ⟨bm, ob, m1, m2, fun q => ?_, fun q => ?_, seen m3 (fun xs n q => ?_) (fun q => ?_), m4, m5, m6⟩
      · obtain ⟨o, es, ep, e, hd, _⟩ := gns
        rw [q, e] at m3
        cases m3
        rw [hd] at m6
        cases m6
      · rw [q, t1] at m3
        cases m3
        cases m6
      · rw [q] at m6; cases m6
      · rw [q] at m6; cases m6
    · obtain ⟨o, es, ep, e, hd, _⟩ := gns
      rw [q, t1] at e
      cases e
      cases hd
  have e0 : Env0 P w K mg (hidT s₁.heap H) callerA [] s₁ H := ⟨rfl, md, fun b o e => of_hidT e, Nat.le_of_eq (hidT_size _ _), trivial, fun b hb => (List.not_mem_nil hb).elim, stands, AllBare.of_eq gens⟩
  have sq : (∃ o, H z = some (.frz o (.lst (ns.map V.int)))) ∨ SqL K (fun _ => none) z (ns.map V.int) := by
    cases q : K.lookup z with
    | none => exact .inl ⟨_, hZ (by rw [ef, q]; rfl)⟩
    | some o =>
      have e := (kin z o q).symm.trans obj
      cases e
      exact .inr (.inr ⟨_, vs.toArray, _, q, rfl, rfl, rfl, (by rw [List.size_toArray, len]; exact few), by simpa using rel⟩)
  refine codeAny_mono (F _ H kin2 (seenNs gns) TB e0 (fun p hp => hT _ (inT p hp)) sq) fun r s' q => ?_
  cases r with
  | error e =>
    obtain ⟨_, _, _, _, _, _, _, _, _, _, _, _, q⟩ := q
    exact q.elim
  | ok fl =>
    cases fl with
    | next => exact (show False from q).elim
    | brk => exact (show False from q).elim
    | cont => exact (show False from q).elim
    | ret u =>
      obtain ⟨v, H', os, br, un, ok', rv, ev⟩ := q
      have ev : v = .bl true := ev
      subst ev
      cases (show u = Value.bool true from rv)
      have other : ∀ b o, b ∉ ts → s₁.heap.get? b = some o → s'.heap.get? b = some o := fun b o nb e => by
        by_cases h2 : b = z ∧ f = true
        · obtain ⟨rfl, h2⟩ := h2
          have y := ok' b _ (un.frzs b _ _ (hZ h2))
          rw [obj] at e
          cases e
          exact y.1
        · exact un.keep b o e (off b nb h2) (by intro y; exact (List.not_mem_nil y).elim) (by simp)
      have tbl : ∀ b ∈ ts, ∃ more : Array Value, s'.heap.get? b = some { cls := .none, data := .fields more } := fun b hb => by
        obtain ⟨more, y⟩ := un.tbls b #[] (hT b hb)
        exact ⟨_, ok' b _ y⟩
      refine ⟨rfl, ⟨fun b o e => ?_, fun b o e => ?_⟩, os, br⟩
      · by_cases hb : b ∈ ts
        · obtain ⟨more, y⟩ := tbl b hb
          rw [empty b hb] at e
          cases e
          subst ets
          obtain ⟨p, hp, rfl⟩ := List.mem_map.mp hb
          obtain ⟨t1, t2, t3⟩ := tabs p hp
          exact .inr (.inl ⟨(t3.tab t1).isCodeTable, rfl, #[], more, rfl, (by rw [Array.empty_append]; exact y)⟩)
        · exact .inl (other b o hb e)
      · by_cases hb : b ∈ ts
        · obtain ⟨more, y⟩ := tbl b hb
          exact ⟨_, y⟩
        · exact ⟨o, other b o hb e⟩
end
end FD

set_option Elab.async false
set_option linter.all false
set_option autoImplicit false
set_option maxRecDepth 100000
set_option maxHeartbeats 2000000
/-! FFi: a law, from the plain run. -/
namespace FD
open PySem PySem.Spec PyProof.Rows L2 LamX
def codeAt (K : PySem.W.Frag) (a : Addr) : Addr := match (fdAt K a).code with
  | .ref c => c
  | _ => 0
def lawTf (K : PySem.W.Frag) : List Addr := [codeAt K (He.ga K "law")]
def lawQ : Str := "law" ++ ".<locals>." ++ "<lambda>"
theorem lcons {α : Type} {p : α → Prop} {a : α} {l : List α} (h : p a) (t : ∀ x ∈ l, p x) : ∀ x ∈ a :: l, p x := List.forall_mem_cons.mpr ⟨h, t⟩
/-- the plain run of the law -/
def Lw.Plain (L : Lw) (m f0 : Nat) : Prop := ∀ (tb : Addr) (ns : List Int), ns.length ≤ 63 → (∀ z ∈ ns, Builtin.Int.intBits z ≤ 1048576) → ∃ S', runP (L.fns tb) L.or m f0 [.p (.fz (ns.map P.int))] [.tab tb lawQ] = .ok (.p (.bl true)) S'
theorem tab_ad {K : PySem.W.Frag} {d : DD} (h : hasTab d = true) : d.ad K = He.ga K "law" := by
  obtain ⟨h1, h2⟩ := He.ba h
  unfold DD.ad
  rw [Option.isNone_iff_eq_none.mp h1, eq_of_beq h2]
theorem reps_ints {G : Ga} {H : Hp} {ow : Addr → Prop} : ∀ ns : List Int, rep.reps G H ow (ns.map P.int) (ns.map V.int)
  | [] => rfl
  | n :: ns => ⟨_, _, rfl, rfl, reps_ints ns⟩
theorem law_walk {L : Lw} {l : PySem.W.OpenLaw} {q : Program} {loose : List Str} {XP : (Str → Option Value) → Heap → Prop} {d : DefRec} {m f0 n : Nat}
    (hp : l.prog = L.prog) (hn : l.most = some 63) (hdf : d.params.defaults = []) (hname : d.name = "law") (T : Tx L) (B : L.BdAll) (hf0 : L.fnIx "law" = some f0) (hbd : L.bdOf f0 1 [] = some [.a 0]) (hr : Room (12 * m + 1) callerA) (plain : L.Plain m f0) :
    PySem.W.WalkO q loose XP (hookZ n L.dds lawTf (exB L)).says l.row.toRowW d [] (fun f vs => PySem.call f vs) := by
  refine Att.attach_callB hn hdf fun w s₀ s₁ mg mb fa o pm cd doc a vs ns Gr Y ho hd hcd hmg hobj hints hlen hbits hg => ?_
  obtain ⟨K, kin, S⟩ := Y
  have F := fx_of S.more
  rw [hp]
  obtain ⟨c, ec⟩ : ∃ c, c = codeAt K (He.ga K "law") := ⟨_, rfl⟩
  have hc : c ∈ lawTf K := by rw [ec]; exact List.mem_singleton.mpr rfl
  refine law_run (cs := [(c, He.tabOf K c)]) kin Gr.T.g Gr.T.b Gr.T.builtins Gr.T.nolimit hg (fun p hp => ?_) Gr.T.bmain hobj hints (Nat.le_trans hlen (by decide)) fun base H kb gb TB e0 hT sq => ?_
  · rw [List.mem_singleton.mp hp]
    exact ⟨S.empty c hc, S.out c hc, PySem.W.codeHd_of_K kin (S.hd c hc)⟩
  · have tbl := hT _ (List.mem_singleton.mpr rfl)
    have TBc := TB _ (List.mem_singleton.mpr rfl)
    have kn := fnP_all (tb := He.tabOf K c) (w := w) F T B S.fn kb gb (fun d hd ht => ?_) m
    · obtain ⟨d0, h1, h2, h3, h4, h5⟩ := kn.fnAt hf0
      have PP := kn.P f0 d0 h1 h4
      have ea : fa = d0.ad K := by
        rw [hname, h5] at hmg
        cases hmg
        rfl
      have efi := fi_at (K := K) h1
      have bd := kn.F.bdk (P0 := L.prog) (w := w) (base := base) (mg := mg) kn.T kn.fn kn.B h1 h4 hbd
      rw [efi] at PP bd
      rw [ea]
      refine PP callerA [] s₁ H ⟨[.ref a], []⟩ _ _ _ hr rfl e0 (bd callerA [] s₁ H [.ref a] [] [V.ref a] [] _ e0 (.cons rfl .nil) .nil rfl rfl) fun xs H2 g => ?_
      obtain ⟨v, r, e1, e2, e3, e4⟩ := g
      cases e1
      subst e2 e3 e4
      obtain ⟨S', hrun⟩ := plain (He.tabOf K c) ns hlen hbits
      let wd : Wd := { H := H2, O := fun _ => False, N := fun _ => False, io := [He.tabOf K c], S := [.tab (He.tabOf K c) lawQ] }
      have at0 : ∀ {k : Nat} {b : Addr}, wd.io[k]? = some b → k = 0 ∧ b = He.tabOf K c := fun {k b} h => by
        cases k with
        | zero => cases h; exact ⟨rfl, rfl⟩
        | succ k => simp [wd] at h
      have sr : SR (L.ga K) wd := by
        refine ⟨rfl, by simp [wd], fun k b h z => z, fun b z => z.elim, fun b z => z.elim, fun k b h => ?_, fun k b ce h1 h2 => ?_⟩
        · rw [(at0 h).2]; exact ⟨_, tbl⟩
        · obtain ⟨e1, e2⟩ := at0 h1
          subst e1 e2
          cases h2
          exact ⟨rfl, #[], tbl, by first | exact .nil | trivial | (intro; simp) , fun pos cv h => by
            first
              | (simp [codeAmong] at h)
              | (cases h)⟩
      refine ⟨[.p (.fz (ns.map P.int))], wd, rfl, sr, ⟨_, [], rfl, ⟨a, ns.map V.int, rfl, ?_, reps_ints ns⟩, rfl⟩, ?_⟩
      · rcases sq with ⟨o, h⟩ | h
        · refine .inl ⟨⟨o, h⟩, fun z => ?_⟩
          rcases z with z | ⟨k, z, _⟩
          · exact z
          · have e := (at0 z).2
            subst e
            have tbl : H2 (He.tabOf K c) = some (.tbl #[]) := tbl
            rw [h] at tbl
            cases tbl
        · exact .inr h
      · show OkF _ _ (runP (L.fns (He.tabOf K c)) L.or m f0 [.p (.fz (ns.map P.int))] [.tab (He.tabOf K c) lawQ]) wd _
        rw [hrun]
        exact fun v w' n r => r
    · have e := tab_ad (K := K) ht
      obtain ⟨f', hf'⟩ := List.getElem?_of_mem hd
      have hx : L.isEx d = false := by
        unfold Lw.isEx
        rw [Option.isNone_iff_eq_none.mp (He.ba ht).1]
      have FD := F.funD S.fn hf' hx (Kn.noSp (Option.isNone_iff_eq_none.mp (He.ba ht).1))
      obtain ⟨oc, od, dV, kV, doc2, pm2, an, cdv, ct, osl, ef, lk, hcd2, hD, hK⟩ := FD.ex
      obtain ⟨c2, e2⟩ := He.codeIn_ref hcd2
      have ec2 : c = c2 := by
        rw [ec]
        unfold codeAt
        rw [← e, ef, e2]
      refine ⟨oc, od, _, osl, c2, lk, ?_, ?_⟩
      · rw [ef, e2]
      · rw [← ec2]; exact TBc
end FD

set_option Elab.async false
set_option linter.all false
set_option autoImplicit true
set_option maxRecDepth 100000
set_option maxHeartbeats 4000000
/-! FFj: what expressions mean, one by one (no comprehensions). -/
namespace FD
open PySem PySem.Spec PyProof.Rows L2
section
variable {O : Or} {ρ : Env} {S : Store}
theorem ev_var i : evE O (.var i) ρ S = (match ρ[i]? with
      | some (some x) => .ok x S
      | _ => .bad) := by
  rw [evE] <;> rfl
theorem ev_cst p : evE O (.cst p) ρ S = (.ok (.p p) S) := by
  rw [evE] <;> rfl
theorem ev_bin op a b : evE O (.bin op a b) ρ S = ((evE O a ρ S).bind fun x S1 => (evE O b ρ S1).bind fun y S2 => match view S2 x, view S2 y with
      | some p, some q => R.of ((binP op p q).map W.p) S2
      | _, _ => .bad) := by
  rw [evE] <;> rfl
theorem ev_neg a : evE O (.neg a) ρ S = ((evE O a ρ S).bind fun x S1 => match x with
      | .p (.int i) => .ok (.p (.int (-i))) S1
      | _ => .bad) := by
  rw [evE] <;> rfl
theorem ev_cmp op a b : evE O (.cmp op a b) ρ S = ((evE O a ρ S).bind fun x S1 => (evE O b ρ S1).bind fun y S2 => match view S2 x, view S2 y with
      | some p, some q => R.of ((cmpP op p q).map fun k => W.p (.bl k)) S2
      | _, _ => .bad) := by
  rw [evE] <;> rfl
theorem ev_eqo neg a b : evE O (.eqo neg a b) ρ S = ((evE O a ρ S).bind fun x S1 => (evE O b ρ S1).bind fun y S2 => match eqW O neg x y S2 with
      | .ok k S3 => .ok (.p (.bl (xorB neg k))) S3
      | _ => .bad) := by
  rw [evE] <;> rfl
theorem ev_boo a : evE O (.boo a) ρ S = ((evE O a ρ S).bind fun x S1 => match truW O x S1 with
      | .ok k S2 => .ok (.p (.bl k)) S2
      | _ => .bad) := by
  rw [evE] <;> rfl
theorem ev_chn o1 o2 a b c : evE O (.chn o1 o2 a b c) ρ S = ((evE O a ρ S).bind fun x S1 => (evE O b ρ S1).bind fun y S2 => match view S2 x, view S2 y with
      | some p, some q => match cmpP o1 p q with
        | some true => (evE O c ρ S2).bind fun z S3 => R.of ((pcmp o2 S3 y z).map fun k => W.p (.bl k)) S3
        | some false => .ok (.p (.bl false)) S2
        | none => .bad
      | _, _ => .bad) := by
  rw [evE] <;> rfl
theorem ev_and a b : evE O (.and a b) ρ S = ((evE O a ρ S).bind fun x S1 => match x with
      | .p (.bl true) => evE O b ρ S1
      | .p (.bl false) => .ok (.p (.bl false)) S1
      | _ => .bad) := by
  rw [evE] <;> rfl
theorem ev_or a b : evE O (.or a b) ρ S = ((evE O a ρ S).bind fun x S1 => match x with
      | .p (.bl true) => .ok (.p (.bl true)) S1
      | .p (.bl false) => evE O b ρ S1
      | _ => .bad) := by
  rw [evE] <;> rfl
theorem ev_not a : evE O (.not a) ρ S = ((evE O a ρ S).bind fun x S1 => match x with
      | .p (.bl k) => .ok (.p (.bl (!k))) S1
      | _ => .bad) := by
  rw [evE] <;> rfl
theorem ev_ife t a b : evE O (.ife t a b) ρ S = ((evT O t ρ S).bind fun k S1 => if k = true then evE O a ρ S1 else evE O b ρ S1) := by
  rw [evE] <;> rfl
theorem ev_tup es : evE O (.tup es) ρ S = ((evEs O es ρ S).bind fun xs S1 => match pureWs xs with
      | some ps => if ps.length ≤ sizeLine then .ok (.p (.tup ps)) S1 else .bad
      | none => .bad) := by
  rw [evE] <;> rfl
theorem ev_lst es : evE O (.lst es) ρ S = ((evEs O es ρ S).bind fun xs S1 => match pureWs xs with
      | some ps => if ps.length ≤ sizeLine then .ok (.p (.lst ps)) S1 else .bad
      | none => .bad) := by
  rw [evE] <;> rfl
theorem ev_newl es : evE O (.newl es) ρ S = ((evEs O es ρ S).bind fun xs S1 => if xs.length ≤ sizeLine then .ok (.c S1.length) (S1 ++ [.lst xs]) else .bad) := by
  rw [evE] <;> rfl
theorem ev_sub a i : evE O (.sub a i) ρ S = ((evE O a ρ S).bind fun x S1 => (evE O i ρ S1).bind fun y S2 => match y with
      | .p q => R.of (subW S2 x q) S2
      | _ => .bad) := by
  rw [evE] <;> rfl
theorem ev_slc a l h : evE O (.slc a l h) ρ S = ((evE O a ρ S).bind fun x S1 => (evE O l ρ S1).bind fun y S2 => (evE O h ρ S2).bind fun z S3 => match view1 S3 x, y, z with
      | some p, .p q, .p r => R.of ((slcP p q r).map W.p) S3
      | _, _, _ => .bad) := by
  rw [evE] <;> rfl
theorem ev_ixi a : evE O (.ixi a) ρ S = ((evE O a ρ S).bind fun x S1 => match x with
      | .p (.int i) => .ok (.p (.int i)) S1
      | _ => .bad) := by
  rw [evE] <;> rfl
theorem ev_att a f : evE O (.att a f) ρ S = ((evE O a ρ S).bind fun x S1 => R.of (attW S1 f x) S1) := by
  rw [evE] <;> rfl
theorem ev_pri f es : evE O (.pri f es) ρ S = ((evEs O es ρ S).bind fun xs S1 => match views S1 xs with
      | some ps => R.of ((priP f ps).map W.p) S1
      | none => .bad) := by
  rw [evE] <;> rfl
theorem ev_isi a cs : evE O (.isi a cs) ρ S = ((evE O a ρ S).bind fun x S1 => match view S1 x with
      | some p => R.of ((isiAny O p cs).map fun k => W.p (.bl k)) S1
      | none => .bad) := by
  rw [evE] <;> rfl
theorem ev_call f es ks pm : evE O (.call f es ks pm) ρ S = ((evEs O es ρ S).bind fun xs S1 => (evEs O ks ρ S1).bind fun ys S2 => callW (arr pm (O.run f)) (xs ++ ys) S2) := by
  rw [evE] <;> rfl
theorem ev_make c f es ks pm : evE O (.make c f es ks pm) ρ S = ((evEs O es ρ S).bind fun xs S1 => (evEs O ks ρ S1).bind fun ys S2 => makeW (arr pm (O.run f)) c (xs ++ ys) S2) := by
  rw [evE] <;> rfl
theorem ev_meth a m es ks nm : evE O (.meth a m es ks nm) ρ S = ((evE O a ρ S).bind fun x S1 => match clsOf S1 m x with
      | some c => match O.meth c m (lenEs es) nm with
        | some (f, pm) => (evEs O es ρ S1).bind fun xs S2 => (evEs O ks ρ S2).bind fun ys S3 => callW (arr pm (O.run f)) (x :: (xs ++ ys)) S3
        | none => .bad
      | none => .bad) := by
  rw [evE] <;> rfl
theorem ev_sup d f es pm : evE O (.sup d f es pm) ρ S = (match ρ[0]? with
      | some (some x) => (match insOf S x with
        | some c => if O.isSub c d = true then (evEs O es ρ S).bind fun xs S1 => callW (arr pm (O.run f)) (x :: xs) S1 else .bad
        | none => .bad)
      | _ => .bad) := by
  rw [evE] <;> rfl
theorem ev_bm m a es : evE O (.bm m a es) ρ S = ((evE O a ρ S).bind fun x S1 => if lstAt S1 x = true then (evEs O es ρ S1).bind fun xs S2 => match m, x, xs with
      | .append, .c k, [y] => match S2[k]? with
        | some (.lst zs) => if zs.length < sizeLine then .ok (.p .non) (S2.set k (.lst (zs ++ [y]))) else .bad
        | _ => .bad
      | _, _, _ => .bad else .bad) := by
  rw [evE] <;> rfl
theorem ev_frz a : evE O (.frz a) ρ S = ((evE O a ρ S).bind fun x S1 => match x with
      | .p p => .ok (.p p) S1
      | .b _ => .bad
      | .c k => match S1[k]? with
        | some c => match pureC c with
          | some p => .ok (.p p) (S1.set k .dead)
          | none => .bad
        | none => .bad) := by
  rw [evE] <;> rfl
theorem ev_cname a : evE O (.cname a) ρ S = ((evE O a ρ S).bind fun x S1 => match insOf S1 x with
      | some c => .ok (.p (.str (O.cnm c))) S1
      | none => .bad) := by
  rw [evE] <;> rfl
theorem ev_opr op a b : evE O (.opr op a b) ρ S = ((evE O a ρ S).bind fun x S1 => (evE O b ρ S1).bind fun y S2 => opW O op x y S2) := by
  rw [evE] <;> rfl
theorem ev_one u a : evE O (.one u a) ρ S = ((evE O a ρ S).bind fun x S1 => unW O u x S1) := by
  rw [evE] <;> rfl
theorem ev_lamc hs tb q k e : evE O (.lamc hs tb q k e) ρ S = (if tabAt S k tb q = true then toldR O.exSub hs (evE O e ρ S) else .bad) := by
  rw [evE] <;> rfl
end
end FD

set_option Elab.async false
set_option linter.all false
set_option autoImplicit false
set_option maxRecDepth 100000
set_option maxHeartbeats 0
/-! K08a: the law's tables, its text, its head. -/
namespace FD
open PySem PySem.Spec PyProof.Rows L2
def shapes08 : List (Nat × Nat × List Str × List Sx) := [shp 0 1 [] [Sx.a 0], shp 1 3 [] [Sx.a 0, Sx.a 1, Sx.s 2], shp 2 1 [] [Sx.a 0], shp 3 2 [] [Sx.a 0, Sx.a 1], shp 4 1 [] [Sx.a 0], shp 5 3 [] [Sx.a 0, Sx.a 1, Sx.a 2], shp 6 4 [] [Sx.a 0, Sx.a 1, Sx.a 2, Sx.a 3], shp 7 4 [] [Sx.a 0, Sx.a 1, Sx.a 2, Sx.a 3], shp 8 1 [] [Sx.a 0], shp 9 2 [] [Sx.a 0, Sx.a 1], shp 10 2 [] [Sx.a 0, Sx.a 1], shp 11 2 [] [Sx.a 0, Sx.a 1], shp 12 1 [] [Sx.a 0], shp 13 2 [] [Sx.a 0, Sx.a 1], shp 14 1 [] [Sx.a 0], shp 1 4 [] [Sx.a 0, Sx.a 1, Sx.s 2], shp 1 5 [] [Sx.a 0, Sx.a 1, Sx.s 2], shp 5 1 ["handed", "flows"] [Sx.a 0, Sx.a 2, Sx.a 1], shp 6 2 ["flow", "pushes"] [Sx.a 0, Sx.a 1, Sx.a 3, Sx.a 2], shp 7 1 ["second", "row", "first"] [Sx.a 0, Sx.a 2, Sx.a 3, Sx.a 1], shp 1 2 [] [Sx.a 0, Sx.a 1, Sx.s 2]]
def mt08 : List (Nat × Str × Nat) := [mtp 0 "__init__" 1, mtp 0 "__bool__" 2, mtp 0 "__eq__" 3, mtp 1 "__bool__" 4, mtp 1 "__init__" 1, mtp 1 "__eq__" 3, mtp 2 "__init__" 5, mtp 2 "__bool__" 2, mtp 2 "__eq__" 3, mtp 3 "__init__" 6, mtp 3 "__bool__" 2, mtp 3 "__eq__" 3, mtp 4 "__init__" 7, mtp 4 "__bool__" 4, mtp 4 "__eq__" 3]
def L08 : Lw where
  prog := PySem.Challenge.pw_leastprice_k08_papers_keep_what_they_tel
  more := fun q => if q == "fixed" then ["one"] else if q == "_law_pen" then ["cell"] else if q == "_law_value" then ["turn", "one"] else if q == "_law_made" then ["turn", "one"] else []
  cls := [("Paper", [0], 1), ("Denial", [1, 0], 1), ("Flow", [2, 0], 5), ("Cost", [3, 0], 6), ("Parted", [4, 1, 0], 7)]
  exs := []
  cst := []
  gcd := false
  blts := ["abs", "bool", "dict", "int", "isinstance", "len", "list", "range", "repr", "super", "tuple"]
  fld := ["first", "flow", "flows", "handed", "number", "parts", "pushes", "row", "second", "word"]
  shapes := shapes08
  mt := mt08
  stats := []
  newl := [⟨44, 11, 44, 54⟩, ⟨104, 12, 104, 23⟩, ⟨104, 16, 104, 22⟩]
  frz := []
  told := []
-- defs: 0:fixed 1:Paper.__init__ 2:Paper.__bool__ 3:Paper.__eq__ 4:Denial.__bool__ 5:Flow.__init__ 6:Cost.__init__ 7:Parted.__init__ 8:_law_pen 9:_law_draw 10:_law_pick 11:_law_value 12:_law_made 13:_law_attributes 14:law
theorem tx08 : Tx L08 := tx_of (by decide +kernel)
theorem fn08 : L08.fnIx "law" = some 14 := by decide +kernel
def dd08 (i : Nat) : DD := (L08.dds[i]?).getD ⟨none, false, "", ⟨[], [], none, [], [], none, []⟩, [], ⟨.function, [], false, false, []⟩, []⟩
theorem dd08_of {i : Nat} {d : DD} (h : L08.dds[i]? = some d) : d = dd08 i := by
  unfold dd08
  rw [h]
  rfl
theorem b08_0 : BdX (dd08 0).params (dd08 0).ps (dd08 0).dfl.length 1 [] [Sx.a 0] := by
  refine plain_x (by rfl) ?_
  intro name qual body scope gl cl T kV doc pmo an cdv ct bt us ws its l1 l2 l3
  match us, ws, l1, l2 with
  | [u0], [], _, _ => exact ⟨fun z => absurd (show (dd08 0).dfl.length = 0 by kernel_rfl) z, fun _ => by kernel_rfl⟩
theorem b08_1 : BdX (dd08 1).params (dd08 1).ps (dd08 1).dfl.length 3 [] [Sx.a 0, Sx.a 1, Sx.s 2] := by
  refine star_x (n := 2) (by rfl) (by kernel_rfl) rfl rfl (by kernel_rfl) (by decide) (by decide) ?_
  intro name qual body scope gl cl kV doc pmo an cdv ct bt us l1
  match us, l1 with
  | [u0, u1, u2], _ => kernel_rfl
theorem b08_2 : BdX (dd08 2).params (dd08 2).ps (dd08 2).dfl.length 1 [] [Sx.a 0] := by
  refine plain_x (by rfl) ?_
  intro name qual body scope gl cl T kV doc pmo an cdv ct bt us ws its l1 l2 l3
  match us, ws, l1, l2 with
  | [u0], [], _, _ => exact ⟨fun z => absurd (show (dd08 2).dfl.length = 0 by kernel_rfl) z, fun _ => by kernel_rfl⟩
theorem b08_3 : BdX (dd08 3).params (dd08 3).ps (dd08 3).dfl.length 2 [] [Sx.a 0, Sx.a 1] := by
  refine plain_x (by rfl) ?_
  intro name qual body scope gl cl T kV doc pmo an cdv ct bt us ws its l1 l2 l3
  match us, ws, l1, l2 with
  | [u0, u1], [], _, _ => exact ⟨fun z => absurd (show (dd08 3).dfl.length = 0 by kernel_rfl) z, fun _ => by kernel_rfl⟩
theorem b08_4 : BdX (dd08 4).params (dd08 4).ps (dd08 4).dfl.length 1 [] [Sx.a 0] := by
  refine plain_x (by rfl) ?_
  intro name qual body scope gl cl T kV doc pmo an cdv ct bt us ws its l1 l2 l3
  match us, ws, l1, l2 with
  | [u0], [], _, _ => exact ⟨fun z => absurd (show (dd08 4).dfl.length = 0 by kernel_rfl) z, fun _ => by kernel_rfl⟩
theorem b08_5 : BdX (dd08 5).params (dd08 5).ps (dd08 5).dfl.length 3 [] [Sx.a 0, Sx.a 1, Sx.a 2] := by
  refine plain_x (by rfl) ?_
  intro name qual body scope gl cl T kV doc pmo an cdv ct bt us ws its l1 l2 l3
  match us, ws, l1, l2 with
  | [u0, u1, u2], [], _, _ => exact ⟨fun z => absurd (show (dd08 5).dfl.length = 0 by kernel_rfl) z, fun _ => by kernel_rfl⟩
theorem b08_6 : BdX (dd08 6).params (dd08 6).ps (dd08 6).dfl.length 4 [] [Sx.a 0, Sx.a 1, Sx.a 2, Sx.a 3] := by
  refine plain_x (by rfl) ?_
  intro name qual body scope gl cl T kV doc pmo an cdv ct bt us ws its l1 l2 l3
  match us, ws, l1, l2 with
  | [u0, u1, u2, u3], [], _, _ => exact ⟨fun z => absurd (show (dd08 6).dfl.length = 0 by kernel_rfl) z, fun _ => by kernel_rfl⟩
theorem b08_7 : BdX (dd08 7).params (dd08 7).ps (dd08 7).dfl.length 4 [] [Sx.a 0, Sx.a 1, Sx.a 2, Sx.a 3] := by
  refine plain_x (by rfl) ?_
  intro name qual body scope gl cl T kV doc pmo an cdv ct bt us ws its l1 l2 l3
  match us, ws, l1, l2 with
  | [u0, u1, u2, u3], [], _, _ => exact ⟨fun z => absurd (show (dd08 7).dfl.length = 0 by kernel_rfl) z, fun _ => by kernel_rfl⟩
theorem b08_8 : BdX (dd08 8).params (dd08 8).ps (dd08 8).dfl.length 1 [] [Sx.a 0] := by
  refine plain_x (by rfl) ?_
  intro name qual body scope gl cl T kV doc pmo an cdv ct bt us ws its l1 l2 l3
  match us, ws, l1, l2 with
  | [u0], [], _, _ => exact ⟨fun z => absurd (show (dd08 8).dfl.length = 0 by kernel_rfl) z, fun _ => by kernel_rfl⟩
theorem b08_9 : BdX (dd08 9).params (dd08 9).ps (dd08 9).dfl.length 2 [] [Sx.a 0, Sx.a 1] := by
  refine plain_x (by rfl) ?_
  intro name qual body scope gl cl T kV doc pmo an cdv ct bt us ws its l1 l2 l3
  match us, ws, l1, l2 with
  | [u0, u1], [], _, _ => exact ⟨fun z => absurd (show (dd08 9).dfl.length = 0 by kernel_rfl) z, fun _ => by kernel_rfl⟩
theorem b08_10 : BdX (dd08 10).params (dd08 10).ps (dd08 10).dfl.length 2 [] [Sx.a 0, Sx.a 1] := by
  refine plain_x (by rfl) ?_
  intro name qual body scope gl cl T kV doc pmo an cdv ct bt us ws its l1 l2 l3
  match us, ws, l1, l2 with
  | [u0, u1], [], _, _ => exact ⟨fun z => absurd (show (dd08 10).dfl.length = 0 by kernel_rfl) z, fun _ => by kernel_rfl⟩
theorem b08_11 : BdX (dd08 11).params (dd08 11).ps (dd08 11).dfl.length 2 [] [Sx.a 0, Sx.a 1] := by
  refine plain_x (by rfl) ?_
  intro name qual body scope gl cl T kV doc pmo an cdv ct bt us ws its l1 l2 l3
  match us, ws, l1, l2 with
  | [u0, u1], [], _, _ => exact ⟨fun z => absurd (show (dd08 11).dfl.length = 0 by kernel_rfl) z, fun _ => by kernel_rfl⟩
theorem b08_12 : BdX (dd08 12).params (dd08 12).ps (dd08 12).dfl.length 1 [] [Sx.a 0] := by
  refine plain_x (by rfl) ?_
  intro name qual body scope gl cl T kV doc pmo an cdv ct bt us ws its l1 l2 l3
  match us, ws, l1, l2 with
  | [u0], [], _, _ => exact ⟨fun z => absurd (show (dd08 12).dfl.length = 0 by kernel_rfl) z, fun _ => by kernel_rfl⟩
theorem b08_13 : BdX (dd08 13).params (dd08 13).ps (dd08 13).dfl.length 2 [] [Sx.a 0, Sx.a 1] := by
  refine plain_x (by rfl) ?_
  intro name qual body scope gl cl T kV doc pmo an cdv ct bt us ws its l1 l2 l3
  match us, ws, l1, l2 with
  | [u0, u1], [], _, _ => exact ⟨fun z => absurd (show (dd08 13).dfl.length = 0 by kernel_rfl) z, fun _ => by kernel_rfl⟩
theorem b08_14 : BdX (dd08 14).params (dd08 14).ps (dd08 14).dfl.length 1 [] [Sx.a 0] := by
  refine plain_x (by rfl) ?_
  intro name qual body scope gl cl T kV doc pmo an cdv ct bt us ws its l1 l2 l3
  match us, ws, l1, l2 with
  | [u0], [], _, _ => exact ⟨fun z => absurd (show (dd08 14).dfl.length = 0 by kernel_rfl) z, fun _ => by kernel_rfl⟩
theorem b08_15 : BdX (dd08 1).params (dd08 1).ps (dd08 1).dfl.length 4 [] [Sx.a 0, Sx.a 1, Sx.s 2] := by
  refine star_x (n := 2) (by rfl) (by kernel_rfl) rfl rfl (by kernel_rfl) (by decide) (by decide) ?_
  intro name qual body scope gl cl kV doc pmo an cdv ct bt us l1
  match us, l1 with
  | [u0, u1, u2, u3], _ => kernel_rfl
theorem b08_16 : BdX (dd08 1).params (dd08 1).ps (dd08 1).dfl.length 5 [] [Sx.a 0, Sx.a 1, Sx.s 2] := by
  refine star_x (n := 2) (by rfl) (by kernel_rfl) rfl rfl (by kernel_rfl) (by decide) (by decide) ?_
  intro name qual body scope gl cl kV doc pmo an cdv ct bt us l1
  match us, l1 with
  | [u0, u1, u2, u3, u4], _ => kernel_rfl
theorem b08_17 : BdX (dd08 5).params (dd08 5).ps (dd08 5).dfl.length 1 ["handed", "flows"] [Sx.a 0, Sx.a 2, Sx.a 1] := by
  refine plain_x (by rfl) ?_
  intro name qual body scope gl cl T kV doc pmo an cdv ct bt us ws its l1 l2 l3
  match us, ws, l1, l2 with
  | [u0], [w0, w1], _, _ => exact ⟨fun z => absurd (show (dd08 5).dfl.length = 0 by kernel_rfl) z, fun _ => by kernel_rfl⟩
theorem b08_18 : BdX (dd08 6).params (dd08 6).ps (dd08 6).dfl.length 2 ["flow", "pushes"] [Sx.a 0, Sx.a 1, Sx.a 3, Sx.a 2] := by
  refine plain_x (by rfl) ?_
  intro name qual body scope gl cl T kV doc pmo an cdv ct bt us ws its l1 l2 l3
  match us, ws, l1, l2 with
  | [u0, u1], [w0, w1], _, _ => exact ⟨fun z => absurd (show (dd08 6).dfl.length = 0 by kernel_rfl) z, fun _ => by kernel_rfl⟩
theorem b08_19 : BdX (dd08 7).params (dd08 7).ps (dd08 7).dfl.length 1 ["second", "row", "first"] [Sx.a 0, Sx.a 2, Sx.a 3, Sx.a 1] := by
  refine plain_x (by rfl) ?_
  intro name qual body scope gl cl T kV doc pmo an cdv ct bt us ws its l1 l2 l3
  match us, ws, l1, l2 with
  | [u0], [w0, w1, w2], _, _ => exact ⟨fun z => absurd (show (dd08 7).dfl.length = 0 by kernel_rfl) z, fun _ => by kernel_rfl⟩
theorem b08_20 : BdX (dd08 1).params (dd08 1).ps (dd08 1).dfl.length 2 [] [Sx.a 0, Sx.a 1, Sx.s 2] := by
  refine star_x (n := 2) (by rfl) (by kernel_rfl) rfl rfl (by kernel_rfl) (by decide) (by decide) ?_
  intro name qual body scope gl cl kV doc pmo an cdv ct bt us l1
  match us, l1 with
  | [u0, u1], _ => kernel_rfl
theorem bd08 : L08.BdAll := by
  have all : ∀ s ∈ shapes08, BdX (dd08 s.1).params (dd08 s.1).ps (dd08 s.1).dfl.length s.2.1 s.2.2.1 s.2.2.2 := lcons b08_0 (lcons b08_1 (lcons b08_2 (lcons b08_3 (lcons b08_4 (lcons b08_5 (lcons b08_6 (lcons b08_7 (lcons b08_8 (lcons b08_9 (lcons b08_10 (lcons b08_11 (lcons b08_12 (lcons b08_13 (lcons b08_14 (lcons b08_15 (lcons b08_16 (lcons b08_17 (lcons b08_18 (lcons b08_19 (lcons b08_20 (fun _ h => nomatch h)))))))))))))))))))))
  intro s hs d hd
  rw [dd08_of hd]
  exact all s hs
theorem bo08 : L08.bdOf 14 1 [] = some [.a 0] := by kernel_rfl
/-! the head -/
abbrev R08 : PySem.W.OpenRow := PySem.W.OpenLaw.row PySem.Challenge.rw_leastprice_k08_papers_keep_what_they_tel
abbrev hk08 : PySem.W.Hook := hookZ 6 L08.dds lawTf (exB L08)
def ob08 (s : PySem.W.SharedT) : AlZ := obsZ 6 L08.dds lawTf (exB L08) (HandSHeadRun.getT s)
theorem ob08_eq (s : PySem.W.SharedT) : ob08 s = hk08.obs s.abs := obsZ_eq (HandSHeadRun.getT_eq s)
def loose08 : List Str := (["fixed", "Paper", "Denial", "Flow", "Cost", "Parted", "_law_pen", "_law_draw", "_law_pick", "_law_value", "_law_made", "_law_attributes"] : List Str)
end FD

set_option Elab.async false
set_option linter.all false
set_option autoImplicit false
set_option maxRecDepth 100000
set_option maxHeartbeats 0
/-! K08b: the head's run. -/
namespace FD
open PySem PySem.Spec PyProof.Rows L2
theorem run08 (w : World) : HandSHeadRun.RunEq R08 (PySem.W.view R08.prog [16]) hk08 ob08 4000 loose08 w := by
  intro os
  kernel_rfl
end FD

set_option Elab.async false
set_option linter.all false
set_option autoImplicit false
set_option maxRecDepth 100000
set_option maxHeartbeats 0
/-! K08c: the law's code. -/
namespace FD
open PySem PySem.Spec PyProof.Rows L2
/-- fixed: ["value", "one"] -/
def c08_0 : Fn := ⟨1, 2, [.ifs (.e (.isi (.var 0) [.ty "list", .ty "tuple"])) [.ret (.pri .tuple (.cons (.comp (.seq (.var 0)) (.nm 1) [1] .tt (.call 0 (.cons (.var 1) .nil) .nil [.a 0])) .nil))] [], .ifs (.e (.isi (.var 0) [.ty "dict"])) [.ret .nope] [], .ret (.var 0)]⟩
/-- Paper.__init__: ["self", "word", "parts"] -/
def c08_1 : Fn := ⟨3, 3, [.setf (.var 0) "word" (.var 1), .setf (.var 0) "parts" (.call 0 (.cons (.var 2) .nil) .nil [.a 0])]⟩
/-- Paper.__bool__: ["self"] -/
def c08_2 : Fn := ⟨1, 1, [.ret (.cst (.bl true))]⟩
/-- Paper.__eq__: ["self", "other"] -/
def c08_3 : Fn := ⟨2, 2, [.ifs (.or (.not (.e (.isi (.var 1) [.own 0]))) (.eqo true (.cname (.var 0)) (.cname (.var 1)))) [.ret (.cst (.bl false))] [], .ret (.boo (.and (.eqo false (.att (.var 0) "word") (.att (.var 1) "word")) (.eqo false (.att (.var 0) "parts") (.att (.var 1) "parts"))))]⟩
/-- Denial.__bool__: ["self"] -/
def c08_4 : Fn := ⟨1, 1, [.ret (.cst (.bl false))]⟩
/-- Flow.__init__: ["self", "flows", "handed", "__class__"] -/
def c08_5 : Fn := ⟨3, 4, [.expr (.sup 2 1 (.cons (.cst (.str "flow")) (.cons (.var 1) (.cons (.var 2) .nil))) [.a 0, .a 1, .star 2]), .setu 0 ["flows", "handed"] (.att (.var 0) "parts")]⟩
/-- Cost.__init__: ["self", "number", "pushes", "flow", "__class__"] -/
def c08_6 : Fn := ⟨4, 5, [.expr (.sup 3 1 (.cons (.cst (.str "cost")) (.cons (.var 1) (.cons (.var 2) (.cons (.var 3) .nil)))) [.a 0, .a 1, .star 2]), .setu 0 ["number", "pushes", "flow"] (.att (.var 0) "parts")]⟩
/-- Parted.__init__: ["self", "row", "first", "second", "__class__"] -/
def c08_7 : Fn := ⟨4, 5, [.expr (.sup 4 1 (.cons (.cst (.str "parted")) (.cons (.var 1) (.cons (.var 2) (.cons (.var 3) .nil)))) [.a 0, .a 1, .star 2]), .setu 0 ["row", "first", "second"] (.att (.var 0) "parts")]⟩
/-- _law_pen: ["script", "cell"] -/
def c08_8 : Fn := ⟨1, 2, [.ret (.newl (.cons (.comp (.seq (.slc (.var 0) (.cst (.non)) (.ixi (.cst (.int (63)))))) (.nm 1) [1] .tt (.pri .int (.cons (.var 1) .nil))) (.cons (.cst (.int (0))) (.cons (.cst (.int (0))) .nil))))]⟩
/-- _law_draw: ["pen", "many", "digit", "at", "cell", "great", "mixed"] -/
def c08_9 : Fn := ⟨2, 7, [.ifs (.cmp .Gt (.sub (.var 0) (.cst (.int (2)))) (.cst (.int (0)))) [.asg (.nm 2) (.opr .Mod (.pri .int (.cons (.sub (.var 0) (.cst (.int (2)))) .nil)) (.var 1)), .seti (.var 0) (.cst (.int (2))) (.opr .FloorDiv (.pri .int (.cons (.sub (.var 0) (.cst (.int (2)))) .nil)) (.var 1)), .ret (.var 2)] [], .asg (.nm 3) (.sub (.var 0) (.cst (.int (1)))), .seti (.var 0) (.cst (.int (1))) (.opr .Add (.var 3) (.cst (.int (1)))), .asg (.nm 4) (.ife (.eqo false (.sub (.var 0) (.cst (.int (0)))) (.lst .nil)) (.opr .Add (.opr .Mult (.cst (.int (81203))) (.var 3)) (.cst (.int (19466)))) (.sub (.sub (.var 0) (.cst (.int (0)))) (.opr .Mod (.pri .int (.cons (.var 3) .nil)) (.pri .len (.cons (.sub (.var 0) (.cst (.int (0)))) .nil))))), .ifs (.and (.cmp .Lt (.var 3) (.pri .len (.cons (.sub (.var 0) (.cst (.int (0)))) .nil))) (.cmp .GtE (.one .abs (.var 4)) (.opr .Pow (.cst (.int (10))) (.cst (.int (18)))))) [.asg (.nm 5) (.opr .Add (.opr .Mult (.cst (.int (2))) (.opr .Sub (.one .abs (.var 4)) (.opr .Pow (.cst (.int (10))) (.cst (.int (18)))))) (.pri .int (.cons (.cmp .Lt (.var 4) (.cst (.int (0)))) .nil))), .seti (.var 0) (.cst (.int (2))) (.opr .FloorDiv (.pri .int (.cons (.var 5) .nil)) (.var 1)), .ret (.opr .Mod (.pri .int (.cons (.var 5) .nil)) (.var 1))] [], .asg (.nm 6) (.opr .Mod (.pri .int (.cons (.opr .Pow (.opr .Add (.opr .Add (.opr .Mod (.pri .int (.cons (.var 4) .nil)) (.cst (.int (2147483549)))) (.opr .Mult (.cst (.int (81203))) (.var 3))) (.cst (.int (19466)))) (.cst (.int (3)))) .nil)) (.cst (.int (2147483579)))), .asg (.nm 6) (.opr .Mod (.pri .int (.cons (.opr .Pow (.opr .Add (.opr .Add (.opr .Mult (.var 6) (.opr .Add (.opr .Mult (.cst (.int (2))) (.var 3)) (.cst (.int (727))))) (.opr .Mult (.opr .Mult (.cst (.int (19466))) (.var 3)) (.var 3))) (.cst (.int (81203)))) (.cst (.int (5)))) .nil)) (.cst (.int (2147483549)))), .ret (.opr .Mod (.pri .int (.cons (.opr .FloorDiv (.var 6) (.cst (.int (32)))) .nil)) (.var 1))]⟩
/-- _law_pick: ["pen", "some"] -/
def c08_10 : Fn := ⟨2, 2, [.ret (.sub (.var 1) (.call 9 (.cons (.var 0) (.cons (.pri .len (.cons (.var 1) .nil)) .nil)) .nil [.a 0, .a 1]))]⟩
/-- _law_value: ["pen", "deep", "some", "inner", "plain", "value", "turn", "one"] -/
def c08_11 : Fn := ⟨2, 8, [.ifs (.and (.cmp .Gt (.var 1) (.cst (.int (0)))) (.cmp .Gt (.call 9 (.cons (.var 0) (.cons (.cst (.int (3))) .nil)) .nil [.a 0, .a 1]) (.cst (.int (0))))) [.asg (.nm 2) (.comp (.rng (.call 9 (.cons (.var 0) (.cons (.cst (.int (4))) .nil)) .nil [.a 0, .a 1])) (.nm 6) [6] .tt (.call 11 (.cons (.var 0) (.cons (.opr .Sub (.var 1) (.cst (.int (1)))) .nil)) .nil [.a 0, .a 1])), .par [3, 4] (.cons (.comp (.seq (.var 2)) (.nm 7) [7] .tt (.sub (.var 7) (.cst (.int (0))))) (.cons (.pri .tuple (.cons (.comp (.seq (.var 2)) (.nm 7) [7] .tt (.sub (.var 7) (.cst (.int (1))))) .nil)) .nil)), .ret (.ife (.eqo false (.call 9 (.cons (.var 0) (.cons (.cst (.int (2))) .nil)) .nil [.a 0, .a 1]) (.cst (.int (0)))) (.tup (.cons (.var 3) (.cons (.var 4) .nil))) (.tup (.cons (.pri .tuple (.cons (.var 3) .nil)) (.cons (.var 4) .nil))))] [], .asg (.nm 5) (.call 10 (.cons (.var 0) (.cons (.lst (.cons (.cst (.non)) (.cons (.cst (.bl true)) (.cons (.cst (.int (0))) (.cons (.one .neg (.cst (.int (3)))) (.cons (.opr .Pow (.cst (.int (10))) (.cst (.int (20)))) (.cons (.cst (.str "word")) (.cons (.cst (.str "")) (.cons (.tup .nil) .nil))))))))) .nil)) .nil [.a 0, .a 1]), .ret (.tup (.cons (.var 5) (.cons (.var 5) .nil)))]⟩
/-- _law_made: ["pen", "word", "names", "way", "many", "some", "handed", "told", "turn", "one"] -/
def c08_12 : Fn := ⟨1, 10, [.par [1, 2, 3] (.cons (.cst (.str "odd")) (.cons (.lst .nil) (.cons (.call 9 (.cons (.var 0) (.cons (.cst (.int (5))) .nil)) .nil [.a 0, .a 1]) .nil))), .asg (.nm 4) (.sub (.lst (.cons (.cst (.int (2))) (.cons (.cst (.int (3))) (.cons (.cst (.int (3))) (.cons (.call 9 (.cons (.var 0) (.cons (.cst (.int (4))) .nil)) .nil [.a 0, .a 1]) (.cons (.call 9 (.cons (.var 0) (.cons (.cst (.int (4))) .nil)) .nil [.a 0, .a 1]) .nil)))))) (.var 3)), .asg (.nm 5) (.comp (.rng (.var 4)) (.nm 8) [8] .tt (.call 11 (.cons (.var 0) (.cons (.cst (.int (3))) .nil)) .nil [.a 0, .a 1])), .par [6, 7] (.cons (.comp (.seq (.var 5)) (.nm 9) [9] .tt (.sub (.var 9) (.cst (.int (0))))) (.cons (.pri .tuple (.cons (.comp (.seq (.var 5)) (.nm 9) [9] .tt (.sub (.var 9) (.cst (.int (1))))) .nil)) .nil)), .ifs (.eqo false (.var 3) (.cst (.int (0)))) [.ret (.tup (.cons (.make 2 5 .nil (.cons (.sub (.var 6) (.cst (.int (1)))) (.cons (.sub (.var 6) (.cst (.int (0)))) .nil)) [.a 0, .a 2, .a 1]) (.cons (.cst (.str "flow")) (.cons (.var 7) (.cons (.lst (.cons (.cst (.str "flows")) (.cons (.cst (.str "handed")) .nil))) (.cons (.cst (.bl false)) .nil))))))] [], .ifs (.eqo false (.var 3) (.cst (.int (1)))) [.ret (.tup (.cons (.make 3 6 (.cons (.sub (.var 6) (.cst (.int (0)))) .nil) (.cons (.sub (.var 6) (.cst (.int (2)))) (.cons (.sub (.var 6) (.cst (.int (1)))) .nil)) [.a 0, .a 1, .a 3, .a 2]) (.cons (.cst (.str "cost")) (.cons (.var 7) (.cons (.lst (.cons (.cst (.str "number")) (.cons (.cst (.str "pushes")) (.cons (.cst (.str "flow")) .nil)))) (.cons (.cst (.bl false)) .nil))))))] [], .ifs (.eqo false (.var 3) (.cst (.int (2)))) [.ret (.tup (.cons (.make 4 7 .nil (.cons (.sub (.var 6) (.cst (.int (2)))) (.cons (.sub (.var 6) (.cst (.int (0)))) (.cons (.sub (.var 6) (.cst (.int (1)))) .nil))) [.a 0, .a 2, .a 3, .a 1]) (.cons (.cst (.str "parted")) (.cons (.var 7) (.cons (.lst (.cons (.cst (.str "row")) (.cons (.cst (.str "first")) (.cons (.cst (.str "second")) .nil)))) (.cons (.cst (.bl true)) .nil))))))] [], .ifs (.eqo false (.var 4) (.cst (.int (0)))) [.ret (.tup (.cons (.ife (.eqo false (.var 3) (.cst (.int (3)))) (.make 0 1 (.cons (.var 1) .nil) .nil [.a 0, .a 1, .star 2]) (.make 1 1 (.cons (.var 1) .nil) .nil [.a 0, .a 1, .star 2])) (.cons (.var 1) (.cons (.var 7) (.cons (.var 2) (.cons (.eqo false (.var 3) (.cst (.int (4)))) .nil))))))] [], .ifs (.eqo false (.var 4) (.cst (.int (1)))) [.ret (.tup (.cons (.ife (.eqo false (.var 3) (.cst (.int (3)))) (.make 0 1 (.cons (.var 1) (.cons (.sub (.var 6) (.cst (.int (0)))) .nil)) .nil [.a 0, .a 1, .star 2]) (.make 1 1 (.cons (.var 1) (.cons (.sub (.var 6) (.cst (.int (0)))) .nil)) .nil [.a 0, .a 1, .star 2])) (.cons (.var 1) (.cons (.var 7) (.cons (.var 2) (.cons (.eqo false (.var 3) (.cst (.int (4)))) .nil))))))] [], .ifs (.eqo false (.var 4) (.cst (.int (2)))) [.ret (.tup (.cons (.ife (.eqo false (.var 3) (.cst (.int (3)))) (.make 0 1 (.cons (.var 1) (.cons (.sub (.var 6) (.cst (.int (0)))) (.cons (.sub (.var 6) (.cst (.int (1)))) .nil))) .nil [.a 0, .a 1, .star 2]) (.make 1 1 (.cons (.var 1) (.cons (.sub (.var 6) (.cst (.int (0)))) (.cons (.sub (.var 6) (.cst (.int (1)))) .nil))) .nil [.a 0, .a 1, .star 2])) (.cons (.var 1) (.cons (.var 7) (.cons (.var 2) (.cons (.eqo false (.var 3) (.cst (.int (4)))) .nil))))))] [], .ret (.tup (.cons (.ife (.eqo false (.var 3) (.cst (.int (3)))) (.make 0 1 (.cons (.var 1) (.cons (.sub (.var 6) (.cst (.int (0)))) (.cons (.sub (.var 6) (.cst (.int (1)))) (.cons (.sub (.var 6) (.cst (.int (2)))) .nil)))) .nil [.a 0, .a 1, .star 2]) (.make 1 1 (.cons (.var 1) (.cons (.sub (.var 6) (.cst (.int (0)))) (.cons (.sub (.var 6) (.cst (.int (1)))) (.cons (.sub (.var 6) (.cst (.int (2)))) .nil)))) .nil [.a 0, .a 1, .star 2])) (.cons (.var 1) (.cons (.var 7) (.cons (.var 2) (.cons (.eqo false (.var 3) (.cst (.int (4)))) .nil))))))]⟩
/-- _law_attributes: ["paper", "word"] -/
def c08_13 : Fn := ⟨2, 2, [.ifs (.eqo false (.var 1) (.cst (.str "flow"))) [.ret (.lst (.cons (.att (.var 0) "flows") (.cons (.att (.var 0) "handed") .nil)))] [], .ifs (.eqo false (.var 1) (.cst (.str "cost"))) [.ret (.lst (.cons (.att (.var 0) "number") (.cons (.att (.var 0) "pushes") (.cons (.att (.var 0) "flow") .nil))))] [], .ret (.ife (.eqo false (.var 1) (.cst (.str "parted"))) (.lst (.cons (.att (.var 0) "row") (.cons (.att (.var 0) "first") (.cons (.att (.var 0) "second") .nil)))) (.lst .nil))]⟩
/-- law: ["script", "pen", "turn", "paper", "word", "told", "names", "is_denial", "other", "its", "parts", "more", "no", "inner", "flow", "again", "cost"] -/
def c08_14 : Fn := ⟨1, 17, [.asg (.nm 1) (.call 8 (.cons (.var 0) .nil) .nil [.a 0]), .for_ (.rng (.cst (.int (8)))) (.nm 2) [.asg (.tup (.cons (.nm 3) (.cons (.nm 4) (.cons (.nm 5) (.cons (.nm 6) (.cons (.nm 7) .nil)))))) (.call 12 (.cons (.var 1) .nil) .nil [.a 0]), .ifs (.or (.eqo true (.pri .repr (.cons (.lst (.cons (.att (.var 3) "word") (.cons (.att (.var 3) "parts") .nil))) .nil)) (.pri .repr (.cons (.lst (.cons (.var 4) (.cons (.var 5) .nil))) .nil))) (.or (.eqo false (.boo (.var 3)) (.var 7)) (.or (.eqo true (.isi (.var 3) [.own 1]) (.var 7)) (.not (.e (.isi (.var 3) [.own 0])))))) [.ret (.cst (.bl false))] [], .ifs (.and (.eqo true (.var 6) (.lst .nil)) (.eqo true (.pri .repr (.cons (.call 13 (.cons (.var 3) (.cons (.var 4) .nil)) .nil [.a 0, .a 1]) .nil)) (.pri .repr (.cons (.pri .list (.cons (.var 5) .nil)) .nil)))) [.ret (.cst (.bl false))] [], .asg (.tup (.cons (.nm 8) (.cons (.nm 9) (.cons (.nm 10) (.cons (.nm 11) (.cons (.nm 12) .nil)))))) (.call 12 (.cons (.var 1) .nil) .nil [.a 0]), .ifs (.or (.eqo true (.eqo false (.var 3) (.var 8)) (.and (.eqo false (.var 9) (.var 4)) (.and (.eqo false (.var 10) (.var 5)) (.eqo false (.var 12) (.var 7))))) (.eqo false (.eqo true (.var 3) (.var 8)) (.eqo false (.var 3) (.var 8)))) [.ret (.cst (.bl false))] []], .asg (.nm 13) (.newl (.cons (.cst (.int (1))) (.cons (.newl (.cons (.cst (.int (2))) (.cons (.cst (.int (3))) .nil))) .nil))), .par [14, 15] (.cons (.make 2 5 (.cons (.var 13) (.cons (.var 13) .nil)) .nil [.a 0, .a 1, .a 2]) (.cons (.make 2 5 (.cons (.tup (.cons (.cst (.int (1))) (.cons (.tup (.cons (.cst (.int (2))) (.cons (.cst (.int (3))) .nil))) .nil))) (.cons (.lst (.cons (.cst (.int (1))) (.cons (.tup (.cons (.cst (.int (2))) (.cons (.cst (.int (3))) .nil))) .nil))) .nil)) .nil [.a 0, .a 1, .a 2]) .nil)), .expr (.bm .append (.sub (.var 13) (.cst (.int (1)))) (.cons (.cst (.int (4))) .nil)), .ifs (.or (.eqo true (.var 14) (.var 15)) (.or (.eqo true (.att (.var 14) "flows") (.tup (.cons (.cst (.int (1))) (.cons (.tup (.cons (.cst (.int (2))) (.cons (.cst (.int (3))) .nil))) .nil)))) (.or (.eqo false (.var 14) (.make 2 5 (.cons (.tup (.cons (.cst (.int (1))) (.cons (.tup (.cons (.cst (.int (2))) (.cons (.cst (.int (4))) .nil))) .nil))) (.cons (.tup (.cons (.cst (.int (1))) (.cons (.tup (.cons (.cst (.int (2))) (.cons (.cst (.int (3))) .nil))) .nil))) .nil)) .nil [.a 0, .a 1, .a 2])) (.eqo false (.var 14) (.make 0 1 (.cons (.cst (.str "flow")) (.cons (.tup (.cons (.cst (.int (1))) (.cons (.tup (.cons (.cst (.int (2))) (.cons (.cst (.int (3))) .nil))) .nil))) (.cons (.tup (.cons (.cst (.int (1))) (.cons (.tup (.cons (.cst (.int (2))) (.cons (.cst (.int (3))) .nil))) .nil))) .nil))) .nil [.a 0, .a 1, .star 2]))))) [.ret (.cst (.bl false))] [], .asg (.nm 16) (.make 3 6 (.cons (.cst (.int (1))) (.cons (.lst (.cons (.cst (.int (0))) .nil)) (.cons (.var 14) .nil))) .nil [.a 0, .a 1, .a 2, .a 3]), .ifs (.or (.eqo true (.var 16) (.make 3 6 (.cons (.cst (.int (1))) (.cons (.tup (.cons (.cst (.int (0))) .nil)) (.cons (.var 15) .nil))) .nil [.a 0, .a 1, .a 2, .a 3])) (.or (.eqo false (.var 16) (.make 3 6 (.cons (.cst (.int (2))) (.cons (.tup (.cons (.cst (.int (0))) .nil)) (.cons (.var 15) .nil))) .nil [.a 0, .a 1, .a 2, .a 3])) (.or (.eqo false (.var 16) (.tup (.cons (.cst (.int (1))) (.cons (.tup (.cons (.cst (.int (0))) .nil)) (.cons (.var 15) .nil))))) (.eqo true (.att (.var 16) "flow") (.var 14))))) [.ret (.cst (.bl false))] [], .ret (.and (.eqo false (.make 0 1 (.cons (.cst (.str "a")) (.cons (.cst (.int (1))) .nil)) .nil [.a 0, .a 1, .star 2]) (.make 0 1 (.cons (.cst (.str "a")) (.cons (.cst (.int (1))) .nil)) .nil [.a 0, .a 1, .star 2])) (.and (.eqo true (.make 0 1 (.cons (.cst (.str "a")) (.cons (.cst (.int (1))) .nil)) .nil [.a 0, .a 1, .star 2]) (.make 0 1 (.cons (.cst (.str "b")) (.cons (.cst (.int (1))) .nil)) .nil [.a 0, .a 1, .star 2])) (.and (.eqo true (.make 0 1 (.cons (.cst (.str "a")) (.cons (.cst (.int (1))) .nil)) .nil [.a 0, .a 1, .star 2]) (.make 1 1 (.cons (.cst (.str "a")) (.cons (.cst (.int (1))) .nil)) .nil [.a 0, .a 1, .star 2])) (.and (.eqo true (.make 1 1 (.cons (.cst (.str "a")) .nil) .nil [.a 0, .a 1, .star 2]) (.make 0 1 (.cons (.cst (.str "a")) .nil) .nil [.a 0, .a 1, .star 2])) (.eqo false (.make 4 7 (.cons (.cst (.int (1))) (.cons (.cst (.int (2))) (.cons (.cst (.int (3))) .nil))) .nil [.a 0, .a 1, .a 2, .a 3]) (.make 4 7 (.cons (.cst (.int (1))) (.cons (.cst (.int (2))) (.cons (.cst (.int (3))) .nil))) .nil [.a 0, .a 1, .a 2, .a 3]))))))]⟩

theorem h08_0 (tb : Addr) : (L08.fns tb)[0]? = some c08_0 := by kernel_rfl
theorem h08_1 (tb : Addr) : (L08.fns tb)[1]? = some c08_1 := by kernel_rfl
theorem h08_2 (tb : Addr) : (L08.fns tb)[2]? = some c08_2 := by kernel_rfl
theorem h08_3 (tb : Addr) : (L08.fns tb)[3]? = some c08_3 := by kernel_rfl
theorem h08_4 (tb : Addr) : (L08.fns tb)[4]? = some c08_4 := by kernel_rfl
theorem h08_5 (tb : Addr) : (L08.fns tb)[5]? = some c08_5 := by kernel_rfl
theorem h08_6 (tb : Addr) : (L08.fns tb)[6]? = some c08_6 := by kernel_rfl
theorem h08_7 (tb : Addr) : (L08.fns tb)[7]? = some c08_7 := by kernel_rfl
theorem h08_8 (tb : Addr) : (L08.fns tb)[8]? = some c08_8 := by kernel_rfl
theorem h08_9 (tb : Addr) : (L08.fns tb)[9]? = some c08_9 := by kernel_rfl
theorem h08_10 (tb : Addr) : (L08.fns tb)[10]? = some c08_10 := by kernel_rfl
theorem h08_11 (tb : Addr) : (L08.fns tb)[11]? = some c08_11 := by kernel_rfl
theorem h08_12 (tb : Addr) : (L08.fns tb)[12]? = some c08_12 := by kernel_rfl
theorem h08_13 (tb : Addr) : (L08.fns tb)[13]? = some c08_13 := by kernel_rfl
theorem h08_14 (tb : Addr) : (L08.fns tb)[14]? = some c08_14 := by kernel_rfl
end FD

set_option Elab.async false
set_option linter.all false
set_option autoImplicit false
set_option maxRecDepth 100000
set_option maxHeartbeats 4000000
/-! K08d: the plain law of k08: draws. -/
namespace FD
open PySem PySem.Spec PyProof.Rows L2
theorem run_of {fs : List Fn} {O : Or} {f k p n : Nat} {body : List Sm} {xs : List W} {S : Store} (h : fs[f]? = some ⟨p, n, body⟩) (hl : xs.length = p) : runP fs O (k + 1) f xs S = runB { O with run := runP fs O k } n body xs S := by
  show (match fs[f]? with
    | some d => if xs.length = d.ps then runB { O with run := runP fs O k } d.n d.body xs S else .bad
    | none => .bad) = _
  rw [h]
  exact if_pos hl
/-! ### small steps -/
theorem opW_i (O : Or) (op : Operator) (i j : Int) (S : Store) : opW O op (.p (.int i)) (.p (.int j)) S = R.of ((binP op (.int i) (.int j)).map W.p) S := by
  unfold opW
  cases op <;> rfl
theorem unW_i (O : Or) (u : Uo) (i : Int) (S : Store) : unW O u (.p (.int i)) S = R.of ((uoP u (.int i)).map W.p) S := by
  unfold unW
  rfl
theorem view_p (S : Store) (p : P) : view S (.p p) = some p := rfl
theorem view_b (S : Store) (p : P) : view S (.b p) = some p := rfl
theorem view1_p (S : Store) (p : P) : view1 S (.p p) = some p := rfl
theorem views_1 (S : Store) (p : P) : views S [.p p] = some [p] := rfl
theorem views_2 (S : Store) (p q : P) : views S [.p p, .p q] = some [p, q] := rfl
theorem subW_p (S : Store) (x i : P) : subW S (.p x) i = (subP x i).map W.p := rfl
theorem of_some {α : Type} (x : α) (S : Store) : R.of (some x) S = .ok x S := rfl
theorem map_some' {α β : Type} (f : α → β) (x : α) : Option.map f (some x) = some (f x) := rfl
theorem nm_if (i : Nat) (x : W) (ρ : Env) : bindTg (.nm i) x ρ = if i < ρ.length then some (ρ.set i (some x)) else none := by
  unfold bindTg
  rfl
theorem pri_int (i : Int) : priP .int [.int i] = some (.int i) := rfl
theorem pri_intb (b : Bool) : priP .int [.bl b] = some (.int (if b then 1 else 0)) := rfl
theorem pri_lenl (xs : List P) : priP .len [.lst xs] = some (.int xs.length) := rfl
theorem pri_tupl (xs : List P) : priP .tuple [.lst xs] = some (.tup xs) := rfl
theorem pri_tupt (xs : List P) : priP .tuple [.tup xs] = some (.tup xs) := rfl
theorem pri_lstt (xs : List P) : priP .list [.tup xs] = some (.lst xs) := rfl
theorem cmp_gt (i j : Int) : cmpP .Gt (.int i) (.int j) = some (decide (j < i)) := rfl
theorem cmp_ge (i j : Int) : cmpP .GtE (.int i) (.int j) = some (decide (j ≤ i)) := rfl
theorem cmp_lt (i j : Int) : cmpP .Lt (.int i) (.int j) = some (decide (i < j)) := rfl
theorem uo_abs (i : Int) : uoP .abs (.int i) = some (.int (if i < 0 then -i else i)) := rfl
theorem uo_neg (i : Int) : uoP .neg (.int i) = some (.int (-i)) := rfl
theorem bin_add (i j : Int) : binP .Add (.int i) (.int j) = some (.int (i + j)) := rfl
theorem bin_sub (i j : Int) : binP .Sub (.int i) (.int j) = some (.int (i - j)) := rfl
theorem bin_mul {i j : Int} (h : okMul i j = true) : binP .Mult (.int i) (.int j) = some (.int (i * j)) := if_pos h
theorem bin_mod {i j : Int} (h : j ≠ 0) : binP .Mod (.int i) (.int j) = some (.int (i.fmod j)) := if_pos (decide_eq_true h)
theorem bin_div {i j : Int} (h : j ≠ 0) (h2 : j.natAbs < 2 ^ 64) : binP .FloorDiv (.int i) (.int j) = some (.int (i.fdiv j)) := by
  refine if_pos (decide_eq_true ⟨h, ?_⟩)
  have : j.natAbs.log2 < 64 := (Nat.log2_lt (by omega)).mpr h2
  omega
theorem bin_pow {i j : Int} (h : 0 ≤ j ∧ j ≤ 1000000 ∧ i.natAbs < 2 ^ 64) : binP .Pow (.int i) (.int j) = some (.int (i ^ j.toNat)) := if_pos (decide_eq_true h)
theorem c3_0 (x y z : W) (T : Store) : subW (.lst [x, y, z] :: T) (.c 0) (.int 0) = some x := rfl
theorem c3_1 (x y z : W) (T : Store) : subW (.lst [x, y, z] :: T) (.c 0) (.int 1) = some y := rfl
theorem c3_2 (x y z : W) (T : Store) : subW (.lst [x, y, z] :: T) (.c 0) (.int 2) = some z := rfl
theorem tru_b (O : Or) (k : Bool) (S : Store) : truW O (.p (.bl k)) S = .ok k S := rfl
theorem xor_f (k : Bool) : xorB false k = k := rfl
theorem xor_t (k : Bool) : xorB true k = !k := rfl
theorem pureWs_p (x : P) (xs : List W) : pureWs (.p x :: xs) = (pureWs xs).map (x :: ·) := by
  show (match some x, pureWs xs with
    | some p, some ps => some (p :: ps)
    | _, _ => none) = _
  cases pureWs xs <;> rfl
theorem pureWs_0 : pureWs [] = some [] := rfl
def O8 (tb : Addr) (k : Nat) : Or := { L08.or with run := runP (L08.fns tb) L08.or k }
theorem O8_run (tb : Addr) (k : Nat) : (O8 tb k).run = runP (L08.fns tb) L08.or k := rfl
theorem run8 {tb : Addr} {f k p n : Nat} {body : List Sm} {xs : List W} {S : Store} (h : (L08.fns tb)[f]? = some ⟨p, n, body⟩) (hl : xs.length = p) : runP (L08.fns tb) L08.or (k + 1) f xs S = runB (O8 tb k) n body xs S := run_of h hl
/-- the pen -/
abbrev pen (ns : List Int) (at_ rest : Int) : Cell := .lst [.p (.lst (ns.map P.int)), .p (.int at_), .p (.int rest)]
theorem draw_rest (tb : Addr) (k : Nat) (ns : List Int) (a r m : Int) (hm : 2 ≤ m) (hm2 : m ≤ 8) (h : 0 < r) : runP (L08.fns tb) L08.or (k + 1) 9 [.c 0, .p (.int m)] [pen ns a r] = .ok (.p (.int (r.fmod m))) [pen ns a (r.fdiv m)] := by
  rw [run8 (h08_9 tb) rfl]
  unfold runB
  simp only [O8_run, exSs, exS, evT, ev_var, ev_cst, ev_bin, ev_neg, ev_cmp, ev_eqo, ev_boo, ev_chn, ev_and, ev_or, ev_not, ev_ife, ev_tup, ev_lst, ev_newl, ev_sub, ev_slc, ev_ixi, ev_att, ev_pri, ev_isi, ev_call, ev_make, ev_meth, ev_sup, ev_bm, ev_frz, ev_cname, ev_opr, ev_one, ev_lamc, evEs, FD.R.bind, FD.R.out, List.map_cons, List.map_nil, List.length_cons, List.length_nil, List.replicate, List.cons_append, List.nil_append, List.getElem?_cons_zero, List.getElem?_cons_succ, c3_0, c3_1, c3_2, of_some, view_p, view_b, views_1, views_2, pri_int, pri_intb, pri_lenl, pri_tupl, pri_tupt, pri_lstt, opW_i, unW_i, cmp_gt, cmp_ge, cmp_lt, uo_abs, uo_neg, bin_add, bin_sub, map_some', nm_if, tru_b, List.set_cons_succ, List.set_cons_zero, Nat.reduceAdd, Nat.reduceSub, Nat.reduceLT, Int.reduceLE, Int.reduceToNat, and_true, true_and, decide_true, decide_false, if_true, if_false, ite_true, ite_false, Bool.false_eq_true, Nat.zero_add, Nat.lt_irrefl, Int.reduceNeg, Int.reduceLT, Nat.zero_lt_succ, Int.le_refl, xor_f, xor_t, pureWs_p, pureWs_0, sizeLine, Nat.reducePow, Nat.reduceLeDiff, Nat.zero_le, decide_eq_true h, bin_mod (i := r) (j := m) (by omega), bin_div (i := r) (j := m) (by omega) (by omega)]
/-! ### data -/
theorem toDs_ints : ∀ ns : List Int, toDs (ns.map P.int) = some (ns.map PyData.int)
  | [] => rfl
  | n :: ns => by
    show (match toD (.int n), toDs (ns.map P.int) with
      | some d, some ds => some (d :: ds)
      | _, _ => none) = _
    rw [toDs_ints ns]
    rfl
theorem ints_lay : ∀ ns : List Int, PyData.canLayAll0 (ns.map PyData.int) = true ∧ PyData.depthAll (ns.map PyData.int) = 0
  | [] => ⟨rfl, rfl⟩
  | n :: ns => by
    obtain ⟨h1, h2⟩ := ints_lay ns
    refine ⟨?_, ?_⟩
    · show (PyData.canLay0 (.int n) && PyData.canLayAll0 (ns.map PyData.int)) = true
      rw [h1]
      rfl
    · show max (PyData.depth (.int n)) (PyData.depthAll (ns.map PyData.int)) = 0
      rw [h2]
      rfl
theorem eq_nil (ns : List Int) : eqP (.lst (ns.map P.int)) (.lst []) = some (decide (ns = [])) := by
  have e1 : toD (.lst (ns.map P.int)) = some (.list (ns.map PyData.int)) := by
    unfold toD
    rw [toDs_ints]
  have e2 : toD (.lst []) = some (.list []) := rfl
  obtain ⟨h1, h2⟩ := ints_lay ns
  have s1 : SeqAt.shaped (.list (ns.map PyData.int)) = true := by
    unfold SeqAt.shaped PyData.canLay0 PyData.depth
    rw [h1, h2]
    rfl
  unfold eqP
  rw [e1, e2]
  dsimp only
  rw [s1, show SeqAt.shaped (.list []) = true by rfl]
  cases ns <;> rfl
theorem eqW_nil (O : Or) (ns : List Int) (S : Store) : eqW O false (.p (.lst (ns.map P.int))) (.p (.lst [])) S = .ok (decide (ns = [])) S := by
  show (match eqP (.lst (ns.map P.int)) (.lst []) with
    | some k => R.ok k S
    | none => _) = _
  rw [eq_nil]
theorem eqW_nil0 (O : Or) (S : Store) : eqW O false (.p (.lst [])) (.p (.lst [])) S = .ok true S := eqW_nil O [] S
theorem sub_ints {ns : List Int} {i : Int} (h0 : 0 ≤ i) (h1 : i < ns.length) : subP (.lst (ns.map P.int)) (.int i) = some (.int (ns.getD i.toNat 0)) := by
  have hi : i.toNat < ns.length := by omega
  show L2.atI (ns.map P.int) i = _
  unfold L2.atI L2.ixN
  rw [List.length_map, if_pos h0, if_pos h1]
  show (ns.map P.int)[i.toNat]? = _
  rw [List.getElem?_map, List.getElem?_eq_getElem hi, List.getD_eq_getElem?_getD, List.getElem?_eq_getElem hi]
  rfl
theorem bits_small {i : Int} (h1 : -(2 ^ 64) < i) (h2 : i < 2 ^ 64) : Builtin.Int.intBits i ≤ 64 := intBits_le_64 h1 h2
theorem mul_small {i j : Int} (h1 : -(2 ^ 64) < i) (h2 : i < 2 ^ 64) (h3 : Builtin.Int.intBits j ≤ 2097152) : okMul i j = true := by
  have := bits_small h1 h2
  unfold okMul
  exact decide_eq_true (by omega)
/-! ### draws -/
/-- the script's numbers are not too long -/
def Bits (ns : List Int) : Prop := ∀ z ∈ ns, Builtin.Int.intBits z ≤ 1048576
theorem bits_at {ns : List Int} (h : Bits ns) (i : Nat) : Builtin.Int.intBits (ns.getD i 0) ≤ 1048576 := by
  rw [List.getD_eq_getElem?_getD]
  cases q : ns[i]? with
  | none => exact Nat.zero_le _
  | some z => exact h z (List.mem_of_getElem? q)
/-- the number that a draw looks at -/
def cellOf (ns : List Int) (a : Int) : Int := if ns = [] then 81203 * a + 19466 else ns.getD (a.fmod ns.length).toNat 0
def Drawn (ns : List Int) (m a : Int) (r : R W) : Prop := ∃ d a' r' : Int, r = .ok (.p (.int d)) [pen ns a' r'] ∧ 0 ≤ d ∧ d < m ∧ a ≤ a' ∧ a' ≤ a + 1
theorem draw_all (tb : Addr) (k : Nat) {ns : List Int} (hb : Bits ns) {a r m : Int} (hm : 2 ≤ m) (hm2 : m ≤ 8) (h0 : 0 ≤ a) (h1 : a ≤ 100000) : Drawn ns m a (runP (L08.fns tb) L08.or (k + 1) 9 [.c 0, .p (.int m)] [pen ns a r]) := by
  by_cases h : 0 < r
  · rw [draw_rest tb k ns a r m hm hm2 h]
    exact ⟨_, a, _, rfl, Int.fmod_nonneg_of_pos _ (by omega), Int.fmod_lt_of_pos _ (by omega), Int.le_refl _, by omega⟩
  · have c1 : okMul 81203 a = true := mul_small (by decide) (by decide) (Nat.le_trans (bits_small (by omega) (by omega)) (by decide))
    have hr : decide (0 < r) = false := decide_eq_false h
    rw [run8 (h08_9 tb) rfl]
    unfold runB
    have hcell : Builtin.Int.intBits (cellOf ns a) ≤ 1048576 := by
      unfold cellOf
      split
      · exact Nat.le_trans (bits_small (by omega) (by omega)) (by decide)
      · exact bits_at hb _
    have p18 : binP .Pow (.int 10) (.int 18) = some (.int (10 ^ 18)) := bin_pow (by decide)
    have hdiv : ∀ i, binP .FloorDiv (.int i) (.int m) = some (.int (i.fdiv m)) := fun i => bin_div (by omega) (by omega)
    have hmod : ∀ i, binP .Mod (.int i) (.int m) = some (.int (i.fmod m)) := fun i => bin_mod (by omega)
    have hm1 : ∀ i, binP .Mod (.int i) (.int 2147483549) = some (.int (i.fmod 2147483549)) := fun i => bin_mod (by decide)
    have hm2' : ∀ i, binP .Mod (.int i) (.int 2147483579) = some (.int (i.fmod 2147483579)) := fun i => bin_mod (by decide)
    have hd32 : ∀ i, binP .FloorDiv (.int i) (.int 32) = some (.int (i.fdiv 32)) := fun i => bin_div (by decide) (by decide)
    have c2 : okMul 2 a = true := mul_small (by decide) (by decide) (Nat.le_trans (bits_small (by omega) (by omega)) (by decide))
    have c3 : okMul 19466 a = true := mul_small (by decide) (by decide) (Nat.le_trans (bits_small (by omega) (by omega)) (by decide))
    have c4 : okMul (19466 * a) a = true := mul_small (by omega) (by omega) (Nat.le_trans (bits_small (by omega) (by omega)) (by decide))
    have aa : 0 ≤ 19466 * a * a ∧ 19466 * a * a ≤ 194660000000000 := by
      have e1 : 19466 * a * a ≤ 1946600000 * 100000 := Int.mul_le_mul (by omega) h1 h0 (by omega)
      exact ⟨Int.mul_nonneg (by omega) h0, by omega⟩
    have pw : ∀ c : Int, binP .Pow (.int (c.fmod 2147483549 + 81203 * a + 19466)) (.int 3) = some (.int ((c.fmod 2147483549 + 81203 * a + 19466) ^ 3)) := fun c => by
      have := Int.fmod_nonneg_of_pos c (b := 2147483549) (by decide)
      have := Int.fmod_lt_of_pos c (b := 2147483549) (by decide)
      exact bin_pow ⟨by decide, by decide, by omega⟩
    have q1 : ∀ c : Int, okMul (c.fmod 2147483579) (2 * a + 727) = true := fun c => by
      have := Int.fmod_nonneg_of_pos c (b := 2147483579) (by decide)
      have := Int.fmod_lt_of_pos c (b := 2147483579) (by decide)
      exact mul_small (by omega) (by omega) (Nat.le_trans (bits_small (by omega) (by omega)) (by decide))
    have q2 : ∀ c : Int, binP .Pow (.int (c.fmod 2147483579 * (2 * a + 727) + 19466 * a * a + 81203)) (.int 5) = some (.int ((c.fmod 2147483579 * (2 * a + 727) + 19466 * a * a + 81203) ^ 5)) := fun c => by
      have z1 := Int.fmod_nonneg_of_pos c (b := 2147483579) (by decide)
      have z2 := Int.fmod_lt_of_pos c (b := 2147483579) (by decide)
      have e1 : c.fmod 2147483579 * (2 * a + 727) ≤ 2147483579 * 200727 := Int.mul_le_mul (by omega) (by omega) (by omega) (by omega)
      have e2 : 0 ≤ c.fmod 2147483579 * (2 * a + 727) := Int.mul_nonneg z1 (by omega)
      exact bin_pow ⟨by decide, by decide, by omega⟩
    have fin : ∀ i : Int, 0 ≤ i.fmod m ∧ i.fmod m < m := fun i => ⟨Int.fmod_nonneg_of_pos _ (by omega), Int.fmod_lt_of_pos _ (by omega)⟩
    by_cases hn : ns = []
    · subst hn
      have hl : decide (a < ((0 : Nat) : Int)) = false := decide_eq_false (by omega)
      refine ⟨_, a + 1, r, by simp only [O8_run, exSs, exS, evT, ev_var, ev_cst, ev_bin, ev_neg, ev_cmp, ev_eqo, ev_boo, ev_chn, ev_and, ev_or, ev_not, ev_ife, ev_tup, ev_lst, ev_newl, ev_sub, ev_slc, ev_ixi, ev_att, ev_pri, ev_isi, ev_call, ev_make, ev_meth, ev_sup, ev_bm, ev_frz, ev_cname, ev_opr, ev_one, ev_lamc, evEs, FD.R.bind, FD.R.out, List.map_cons, List.map_nil, List.length_cons, List.length_nil, List.replicate, List.cons_append, List.nil_append, List.getElem?_cons_zero, List.getElem?_cons_succ, c3_0, c3_1, c3_2, of_some, view_p, view_b, views_1, views_2, pri_int, pri_intb, pri_lenl, pri_tupl, pri_tupt, pri_lstt, opW_i, unW_i, cmp_gt, cmp_ge, cmp_lt, uo_abs, uo_neg, bin_add, bin_sub, map_some', nm_if, tru_b, List.set_cons_succ, List.set_cons_zero, Nat.reduceAdd, Nat.reduceSub, Nat.reduceLT, Int.reduceLE, Int.reduceToNat, and_true, true_and, decide_true, decide_false, if_true, if_false, ite_true, ite_false, Bool.false_eq_true, Nat.zero_add, Nat.lt_irrefl, Int.reduceNeg, Int.reduceLT, Nat.zero_lt_succ, Int.le_refl, xor_f, xor_t, pureWs_p, pureWs_0, sizeLine, Nat.reducePow, Nat.reduceLeDiff, Nat.zero_le, hr, eqW_nil0, bin_mul c1, hl, hm1, pw, hm2', bin_mul c2, bin_mul (q1 _), bin_mul c3, bin_mul c4, q2, hd32, hmod]; rfl, (fin _).1, (fin _).2, by omega, Int.le_refl _⟩
    · have hz : 0 < ns.length := by
        cases ns with
        | nil => exact absurd rfl hn
        | cons _ _ => simp
      have hne : ((List.map P.int ns).length : Int) ≠ 0 := by rw [List.length_map]; omega
      have hnil : decide (ns = []) = false := decide_eq_false hn
      have hsub : subP (.lst (List.map P.int ns)) (.int (a.fmod ((List.map P.int ns).length : Int))) = some (.int (cellOf ns a)) := by
        rw [List.length_map]
        have z1 := Int.fmod_nonneg_of_pos a (b := (ns.length : Int)) (by omega)
        have z2 := Int.fmod_lt_of_pos a (b := (ns.length : Int)) (by omega)
        rw [sub_ints z1 z2]
        unfold cellOf
        rw [if_neg hn]
      generalize hc : cellOf ns a = c at hsub hcell
      have hA : Builtin.Int.intBits (if c < 0 then -c else c) ≤ 1048576 := by
        split
        · exact intBits_neg_le hcell
        · exact hcell
      have hbig : okMul 2 ((if c < 0 then -c else c) - 10 ^ 18) = true := by
        have := intBits_sub_le (y := 10 ^ 18) (n := 64) hA (bits_small (by decide) (by decide))
        exact mul_small (by decide) (by decide) (by omega)
      by_cases hl : a < ((List.map P.int ns).length : Int)
      · by_cases hg : (10 : Int) ^ 18 ≤ (if c < 0 then -c else c)
        · refine ⟨_, a + 1, _, by simp only [O8_run, exSs, exS, evT, ev_var, ev_cst, ev_bin, ev_neg, ev_cmp, ev_eqo, ev_boo, ev_chn, ev_and, ev_or, ev_not, ev_ife, ev_tup, ev_lst, ev_newl, ev_sub, ev_slc, ev_ixi, ev_att, ev_pri, ev_isi, ev_call, ev_make, ev_meth, ev_sup, ev_bm, ev_frz, ev_cname, ev_opr, ev_one, ev_lamc, evEs, FD.R.bind, FD.R.out, List.map_cons, List.map_nil, List.length_cons, List.length_nil, List.replicate, List.cons_append, List.nil_append, List.getElem?_cons_zero, List.getElem?_cons_succ, c3_0, c3_1, c3_2, of_some, view_p, view_b, views_1, views_2, pri_int, pri_intb, pri_lenl, pri_tupl, pri_tupt, pri_lstt, opW_i, unW_i, cmp_gt, cmp_ge, cmp_lt, uo_abs, uo_neg, bin_add, bin_sub, map_some', nm_if, tru_b, List.set_cons_succ, List.set_cons_zero, Nat.reduceAdd, Nat.reduceSub, Nat.reduceLT, Int.reduceLE, Int.reduceToNat, and_true, true_and, decide_true, decide_false, if_true, if_false, ite_true, ite_false, Bool.false_eq_true, Nat.zero_add, Nat.lt_irrefl, Int.reduceNeg, Int.reduceLT, Nat.zero_lt_succ, Int.le_refl, xor_f, xor_t, pureWs_p, pureWs_0, sizeLine, Nat.reducePow, Nat.reduceLeDiff, Nat.zero_le, hr, eqW_nil, hnil, subW_p, bin_mod hne, hsub, decide_eq_true hl, p18, decide_eq_true hg, bin_mul hbig, hdiv, hmod]; rfl, (fin _).1, (fin _).2, by omega, Int.le_refl _⟩
        · refine ⟨_, a + 1, r, by simp only [O8_run, exSs, exS, evT, ev_var, ev_cst, ev_bin, ev_neg, ev_cmp, ev_eqo, ev_boo, ev_chn, ev_and, ev_or, ev_not, ev_ife, ev_tup, ev_lst, ev_newl, ev_sub, ev_slc, ev_ixi, ev_att, ev_pri, ev_isi, ev_call, ev_make, ev_meth, ev_sup, ev_bm, ev_frz, ev_cname, ev_opr, ev_one, ev_lamc, evEs, FD.R.bind, FD.R.out, List.map_cons, List.map_nil, List.length_cons, List.length_nil, List.replicate, List.cons_append, List.nil_append, List.getElem?_cons_zero, List.getElem?_cons_succ, c3_0, c3_1, c3_2, of_some, view_p, view_b, views_1, views_2, pri_int, pri_intb, pri_lenl, pri_tupl, pri_tupt, pri_lstt, opW_i, unW_i, cmp_gt, cmp_ge, cmp_lt, uo_abs, uo_neg, bin_add, bin_sub, map_some', nm_if, tru_b, List.set_cons_succ, List.set_cons_zero, Nat.reduceAdd, Nat.reduceSub, Nat.reduceLT, Int.reduceLE, Int.reduceToNat, and_true, true_and, decide_true, decide_false, if_true, if_false, ite_true, ite_false, Bool.false_eq_true, Nat.zero_add, Nat.lt_irrefl, Int.reduceNeg, Int.reduceLT, Nat.zero_lt_succ, Int.le_refl, xor_f, xor_t, pureWs_p, pureWs_0, sizeLine, Nat.reducePow, Nat.reduceLeDiff, Nat.zero_le, hr, eqW_nil, hnil, subW_p, bin_mod hne, hsub, decide_eq_true hl, p18, decide_eq_false hg, hm1, bin_mul c1, pw, hm2', bin_mul c2, bin_mul (q1 _), bin_mul c3, bin_mul c4, q2, hd32, hmod]; rfl, (fin _).1, (fin _).2, by omega, Int.le_refl _⟩
      · refine ⟨_, a + 1, r, by simp only [O8_run, exSs, exS, evT, ev_var, ev_cst, ev_bin, ev_neg, ev_cmp, ev_eqo, ev_boo, ev_chn, ev_and, ev_or, ev_not, ev_ife, ev_tup, ev_lst, ev_newl, ev_sub, ev_slc, ev_ixi, ev_att, ev_pri, ev_isi, ev_call, ev_make, ev_meth, ev_sup, ev_bm, ev_frz, ev_cname, ev_opr, ev_one, ev_lamc, evEs, FD.R.bind, FD.R.out, List.map_cons, List.map_nil, List.length_cons, List.length_nil, List.replicate, List.cons_append, List.nil_append, List.getElem?_cons_zero, List.getElem?_cons_succ, c3_0, c3_1, c3_2, of_some, view_p, view_b, views_1, views_2, pri_int, pri_intb, pri_lenl, pri_tupl, pri_tupt, pri_lstt, opW_i, unW_i, cmp_gt, cmp_ge, cmp_lt, uo_abs, uo_neg, bin_add, bin_sub, map_some', nm_if, tru_b, List.set_cons_succ, List.set_cons_zero, Nat.reduceAdd, Nat.reduceSub, Nat.reduceLT, Int.reduceLE, Int.reduceToNat, and_true, true_and, decide_true, decide_false, if_true, if_false, ite_true, ite_false, Bool.false_eq_true, Nat.zero_add, Nat.lt_irrefl, Int.reduceNeg, Int.reduceLT, Nat.zero_lt_succ, Int.le_refl, xor_f, xor_t, pureWs_p, pureWs_0, sizeLine, Nat.reducePow, Nat.reduceLeDiff, Nat.zero_le, hr, eqW_nil, hnil, subW_p, bin_mod hne, hsub, decide_eq_false hl, hm1, bin_mul c1, pw, hm2', bin_mul c2, bin_mul (q1 _), bin_mul c3, bin_mul c4, q2, hd32, hmod]; rfl, (fin _).1, (fin _).2, by omega, Int.le_refl _⟩
theorem draw_L (tb : Addr) {k : Nat} (hk : 0 < k) {ns : List Int} (hb : Bits ns) {a r m : Int} (hm : 2 ≤ m) (hm2 : m ≤ 8) (h0 : 0 ≤ a) (h1 : a ≤ 100000) : Drawn ns m a (runP (L08.fns tb) L08.or k 9 [.c 0, .p (.int m)] [pen ns a r]) := by
  obtain ⟨j, rfl⟩ : ∃ j, k = j + 1 := ⟨k - 1, by omega⟩
  exact draw_all tb j hb hm hm2 h0 h1
end FD

set_option Elab.async false
set_option linter.all false
set_option autoImplicit false
set_option maxRecDepth 100000
set_option maxHeartbeats 4000000
/-! K08e: the plain law of k08: values. -/
namespace FD
open PySem PySem.Spec PyProof.Rows L2
theorem call_pen {run : List W → Store → R W} {ns : List Int} {a r a' r' : Int} {y q : P} (h : run [.c 0, .p y] [pen ns a r] = .ok (.p q) [pen ns a' r']) : callW (arr [.a 0, .a 1] run) [.c 0, .p y] [pen ns a r] = .ok (.p q) [pen ns a' r'] := by
  show callG (arr [.a 0, .a 1] run) [0] [pen ns a r] [.c 0, .p y] [pen ns a r] = _
  unfold callG
  have e : arr [.a 0, .a 1] run [.c 0, .p y] [pen ns a r] = .ok (.p q) [pen ns a' r'] := h
  rw [e]
  rfl
theorem call_pen1 {run : List W → Store → R W} {ns : List Int} {a r a' r' : Int} {q : P} (h : run [.c 0] [pen ns a r] = .ok (.p q) [pen ns a' r']) : callW (arr [.a 0] run) [.c 0] [pen ns a r] = .ok (.p q) [pen ns a' r'] := by
  show callG (arr [.a 0] run) [0] [pen ns a r] [.c 0] [pen ns a r] = _
  unfold callG
  have e : arr [.a 0] run [.c 0] [pen ns a r] = .ok (.p q) [pen ns a' r'] := h
  rw [e]
  rfl
theorem eqW_of {O : Or} {neg k : Bool} {x y : W} {p q : P} {S : Store} (hi : insOf S x = none) (hx : view S x = some p) (hy : view S y = some q) (h : eqP p q = some k) : eqW O neg x y S = .ok k S := by
  unfold eqW
  rw [hi, hx, hy]
  dsimp only
  rw [h]
theorem eqW_int (O : Or) (neg : Bool) (i j : Int) (S : Store) : eqW O neg (.p (.int i)) (.p (.int j)) S = .ok (decide (i = j)) S := eqW_of rfl rfl rfl rfl
def leafs : List P := [.non, .bl true, .int 0, .int (-3), .int (10 ^ 20), .str "word", .str "", .tup []]
inductive Fixd : Nat → P → P → Prop
  | leaf {n : Nat} {x : P} (h : x ∈ leafs) : Fixd n x x
  | lst {n : Nat} (zs : List (P × P)) (hl : zs.length ≤ 3) (h : ∀ z ∈ zs, Fixd n z.1 z.2) : Fixd (n + 1) (.lst (zs.map (·.1))) (.tup (zs.map (·.2)))
  | tup {n : Nat} (zs : List (P × P)) (hl : zs.length ≤ 3) (h : ∀ z ∈ zs, Fixd n z.1 z.2) : Fixd (n + 1) (.tup (zs.map (·.1))) (.tup (zs.map (·.2)))
def vb : Nat → Int
  | 0 => 1
  | n + 1 => 3 + 3 * vb n
theorem vb_pos : ∀ n, 1 ≤ vb n
  | 0 => Int.le_refl _
  | n + 1 => by have := vb_pos n; show 1 ≤ 3 + 3 * vb n; omega
theorem pick_all (tb : Addr) (k : Nat) {ns : List Int} (hb : Bits ns) {a r : Int} {xs : List P} (hl : 2 ≤ xs.length) (hl2 : xs.length ≤ 8) (h0 : 0 ≤ a) (h1 : a ≤ 100000) :
    ∃ x a' r', runP (L08.fns tb) L08.or (k + 2) 10 [.c 0, .p (.lst xs)] [pen ns a r] = .ok (.p x) [pen ns a' r'] ∧ x ∈ xs ∧ a ≤ a' ∧ a' ≤ a + 1 := by
  obtain ⟨d, a', r', e, d0, d1, a0, a1⟩ := draw_all tb k hb (a := a) (r := r) (m := (xs.length : Int)) (by omega) (by omega) h0 h1
  have hd : d.toNat < xs.length := by omega
  have hs : subP (.lst xs) (.int d) = some xs[d.toNat] := by
    show L2.atI xs d = _
    unfold L2.atI L2.ixN
    rw [if_pos d0, if_pos d1]
    exact List.getElem?_eq_getElem hd
  refine ⟨xs[d.toNat], a', r', ?_, List.getElem_mem hd, a0, a1⟩
  rw [show k + 2 = (k + 1) + 1 from rfl, run8 (h08_10 tb) rfl]
  unfold runB
  simp only [O8_run, exSs, exS, evT, ev_var, ev_cst, ev_bin, ev_neg, ev_cmp, ev_eqo, ev_boo, ev_chn, ev_and, ev_or, ev_not, ev_ife, ev_tup, ev_lst, ev_newl, ev_sub, ev_slc, ev_ixi, ev_att, ev_pri, ev_isi, ev_call, ev_make, ev_meth, ev_sup, ev_bm, ev_frz, ev_cname, ev_opr, ev_one, ev_lamc, evEs, FD.R.bind, FD.R.out, List.map_cons, List.map_nil, List.length_cons, List.length_nil, List.replicate, List.cons_append, List.nil_append, List.getElem?_cons_zero, List.getElem?_cons_succ, c3_0, c3_1, c3_2, of_some, view_p, view_b, views_1, views_2, pri_int, pri_intb, pri_lenl, pri_tupl, pri_tupt, pri_lstt, opW_i, unW_i, cmp_gt, cmp_ge, cmp_lt, uo_abs, uo_neg, bin_add, bin_sub, map_some', nm_if, tru_b, List.set_cons_succ, List.set_cons_zero, Nat.reduceAdd, Nat.reduceSub, Nat.reduceLT, Int.reduceLE, Int.reduceToNat, and_true, true_and, decide_true, decide_false, if_true, if_false, ite_true, ite_false, Bool.false_eq_true, Nat.zero_add, Nat.lt_irrefl, Int.reduceNeg, Int.reduceLT, Nat.zero_lt_succ, Int.le_refl, xor_f, xor_t, pureWs_p, pureWs_0, sizeLine, Nat.reducePow, Nat.reduceLeDiff, Nat.zero_le, call_pen e, List.append_nil, subW_p, hs]
/-! comprehensions -/
theorem comp_items {tg : Tg} {e : Env → Store → R W} {ρ : Env} {S : Store} {f : P → P} (he : ∀ x, ∃ ρ1, bindTg tg (.p x) ρ = some ρ1) : ∀ (xs : List P) (acc : List P), (∀ x ∈ xs, ∀ ρ1, bindTg tg (.p x) ρ = some ρ1 → e ρ1 S = .ok (.p (f x)) S) → acc.length + xs.length ≤ 1000 →
    compL tg (fun _ S => .ok true S) e ρ (xs.map W.p) acc S = .ok (acc ++ xs.map f) S
  | [], acc, _, _ => by
    rw [List.map_nil, List.map_nil, List.append_nil]
    rfl
  | x :: xs, acc, h, hl => by
    obtain ⟨ρ1, h1⟩ := he x
    have e1 := h x List.mem_cons_self ρ1 h1
    rw [List.length_cons] at hl
    have hz : acc.length < sizeLine := by
      have : (1000 : Nat) < sizeLine := by decide
      omega
    rw [List.map_cons]
    unfold compL
    rw [h1]
    dsimp only
    rw [e1]
    dsimp only
    rw [if_pos hz, comp_items he xs (acc ++ [f x]) (fun y hy => h y (List.mem_cons_of_mem _ hy)) (by rw [List.length_append, List.length_cons, List.length_nil]; omega), List.map_cons, List.append_assoc]
    rfl
theorem comp_pen {tg : Tg} {e : Env → Store → R W} {ρ : Env} {ns : List Int} {Pp : P → Prop} {inc : Int} (hi : 0 ≤ inc) : ∀ (xs : List W) (acc : List P) (a r : Int), 0 ≤ a → a + inc * xs.length ≤ 100000 → acc.length + xs.length ≤ 1000 →
    (∀ x ∈ xs, ∃ ρ1, bindTg tg x ρ = some ρ1 ∧ ∀ a r, 0 ≤ a → a + inc ≤ 100000 → ∃ y a' r', e ρ1 [pen ns a r] = .ok (.p y) [pen ns a' r'] ∧ Pp y ∧ a ≤ a' ∧ a' ≤ a + inc) →
    ∃ ys a' r', compL tg (fun _ S => .ok true S) e ρ xs acc [pen ns a r] = .ok (acc ++ ys) [pen ns a' r'] ∧ ys.length = xs.length ∧ (∀ y ∈ ys, Pp y) ∧ a ≤ a' ∧ a' ≤ a + inc * xs.length
  | [], acc, a, r, h0, h1, hl, h => ⟨[], a, r, by rw [List.append_nil]; rfl, rfl, fun y hy => (by cases hy), Int.le_refl _, by simp⟩
  | x :: xs, acc, a, r, h0, h1, hl, h => by
    obtain ⟨ρ1, b1, b2⟩ := h x List.mem_cons_self
    rw [List.length_cons] at hl h1
    have e0 : inc * ((xs.length + 1 : Nat) : Int) = inc * (xs.length : Int) + inc := by rw [Int.natCast_add, Int.mul_add]; simp
    have e2 : 0 ≤ inc * (xs.length : Int) := Int.mul_nonneg hi (by omega)
    obtain ⟨y, a1, r1, c1, c2, c3, c4⟩ := b2 a r h0 (by omega)
    have hz : acc.length < sizeLine := by
      have : (1000 : Nat) < sizeLine := by decide
      omega
    obtain ⟨ys, a2, r2, d1, d2, d3, d4, d5⟩ := comp_pen hi xs (acc ++ [y]) a1 r1 (by omega) (by omega) (by rw [List.length_append, List.length_cons, List.length_nil]; omega) (fun z hz => h z (List.mem_cons_of_mem _ hz))
    refine ⟨y :: ys, a2, r2, ?_, by rw [List.length_cons, d2, List.length_cons], fun z hz => ?_, by omega, by rw [List.length_cons, e0]; omega⟩
    · unfold compL
      rw [b1]
      dsimp only
      rw [c1]
      dsimp only
      rw [if_pos hz, d1, List.append_assoc]
      rfl
    · rcases List.mem_cons.mp hz with q | q
      · rw [q]; exact c2
      · exact d3 z q
theorem evIt_rng {O : Or} {e : E} {ρ : Env} {S S1 : Store} {i : Int} (h : evE O e ρ S = .ok (.p (.int i)) S1) (h0 : 0 ≤ i) (h1 : i ≤ 1000) : evIt O (.rng e) ρ S = .ok (rngL 0 i.toNat) S1 := by
  unfold evIt
  rw [h]
  show (if okRng 0 i then R.ok (rngL 0 i.toNat) S1 else .bad) = _
  rw [if_pos]
  exact decide_eq_true ⟨by decide, by decide, by omega, by omega⟩
theorem evIt_seq {O : Or} {i : Nat} {ρ : Env} {S : Store} {xs : List P} (h : ρ[i]? = some (some (.p (.lst xs)))) : evIt O (.seq (.var i)) ρ S = .ok (xs.map W.p) S := by
  unfold evIt evE
  rw [h]
  rfl
/-- a value, by its two faces -/
def Val (n : Nat) (p : P) : Prop := ∃ x y, p = .tup [x, y] ∧ Fixd n x y
theorem vals_zip {n : Nat} : ∀ {ps : List P}, (∀ p ∈ ps, Val n p) → ∃ zs : List (P × P), ps = zs.map (fun z => .tup [z.1, z.2]) ∧ ∀ z ∈ zs, Fixd n z.1 z.2
  | [], _ => ⟨[], rfl, fun z hz => by cases hz⟩
  | p :: ps, h => by
    obtain ⟨x, y, e, f⟩ := h p List.mem_cons_self
    obtain ⟨zs, e2, f2⟩ := vals_zip fun q hq => h q (List.mem_cons_of_mem _ hq)
    refine ⟨(x, y) :: zs, by rw [e, e2]; rfl, fun z hz => ?_⟩
    rcases List.mem_cons.mp hz with q | q
    · rw [q]; exact f
    · exact f2 z q
/-- [one[j] for one in ..] -/
theorem comp_one (O : Or) {i : Nat} {ρ : Env} {S : Store} (hi : i < ρ.length) (zs : List (P × P)) (hl : zs.length ≤ 900) : compL (.nm i) (fun _ S => .ok true S) (evE O (.sub (.var i) (.cst (.int 0)))) ρ ((zs.map fun z => P.tup [z.1, z.2]).map W.p) [] S = .ok (zs.map (·.1)) S ∧
    compL (.nm i) (fun _ S => .ok true S) (evE O (.sub (.var i) (.cst (.int 1)))) ρ ((zs.map fun z => P.tup [z.1, z.2]).map W.p) [] S = .ok (zs.map (·.2)) S := by
  have hb : ∀ x, bindTg (.nm i) x ρ = some (ρ.set i (some x)) := fun x => by rw [nm_if, if_pos hi]
  have get : ∀ x, (ρ.set i (some x))[i]? = some (some x) := fun x => by rw [List.getElem?_set_self (by simpa using hi)]
  constructor
  · rw [comp_items (f := fun p => match p with | .tup [x, y] => x | _ => .non) (fun x => ⟨_, hb _⟩) _ [] (fun x hx ρ1 h1 => ?_) (by simp; omega), List.nil_append, List.map_map]
    · rfl
    · obtain ⟨z, hz, rfl⟩ := List.mem_map.mp hx
      rw [hb] at h1
      cases h1
      simp only [O8_run, exSs, exS, evT, ev_var, ev_cst, ev_bin, ev_neg, ev_cmp, ev_eqo, ev_boo, ev_chn, ev_and, ev_or, ev_not, ev_ife, ev_tup, ev_lst, ev_newl, ev_sub, ev_slc, ev_ixi, ev_att, ev_pri, ev_isi, ev_call, ev_make, ev_meth, ev_sup, ev_bm, ev_frz, ev_cname, ev_opr, ev_one, ev_lamc, evEs, FD.R.bind, FD.R.out, List.map_cons, List.map_nil, List.length_cons, List.length_nil, List.replicate, List.cons_append, List.nil_append, List.getElem?_cons_zero, List.getElem?_cons_succ, c3_0, c3_1, c3_2, of_some, view_p, view_b, views_1, views_2, pri_int, pri_intb, pri_lenl, pri_tupl, pri_tupt, pri_lstt, opW_i, unW_i, cmp_gt, cmp_ge, cmp_lt, uo_abs, uo_neg, bin_add, bin_sub, map_some', nm_if, tru_b, List.set_cons_succ, List.set_cons_zero, Nat.reduceAdd, Nat.reduceSub, Nat.reduceLT, Int.reduceLE, Int.reduceToNat, and_true, true_and, decide_true, decide_false, if_true, if_false, ite_true, ite_false, Bool.false_eq_true, Nat.zero_add, Nat.lt_irrefl, Int.reduceNeg, Int.reduceLT, Nat.zero_lt_succ, Int.le_refl, xor_f, xor_t, pureWs_p, pureWs_0, sizeLine, Nat.reducePow, Nat.reduceLeDiff, Nat.zero_le, get, subW_p]
      rfl
  · rw [comp_items (f := fun p => match p with | .tup [x, y] => y | _ => .non) (fun x => ⟨_, hb _⟩) _ [] (fun x hx ρ1 h1 => ?_) (by simp; omega), List.nil_append, List.map_map]
    · rfl
    · obtain ⟨z, hz, rfl⟩ := List.mem_map.mp hx
      rw [hb] at h1
      cases h1
      simp only [O8_run, exSs, exS, evT, ev_var, ev_cst, ev_bin, ev_neg, ev_cmp, ev_eqo, ev_boo, ev_chn, ev_and, ev_or, ev_not, ev_ife, ev_tup, ev_lst, ev_newl, ev_sub, ev_slc, ev_ixi, ev_att, ev_pri, ev_isi, ev_call, ev_make, ev_meth, ev_sup, ev_bm, ev_frz, ev_cname, ev_opr, ev_one, ev_lamc, evEs, FD.R.bind, FD.R.out, List.map_cons, List.map_nil, List.length_cons, List.length_nil, List.replicate, List.cons_append, List.nil_append, List.getElem?_cons_zero, List.getElem?_cons_succ, c3_0, c3_1, c3_2, of_some, view_p, view_b, views_1, views_2, pri_int, pri_intb, pri_lenl, pri_tupl, pri_tupt, pri_lstt, opW_i, unW_i, cmp_gt, cmp_ge, cmp_lt, uo_abs, uo_neg, bin_add, bin_sub, map_some', nm_if, tru_b, List.set_cons_succ, List.set_cons_zero, Nat.reduceAdd, Nat.reduceSub, Nat.reduceLT, Int.reduceLE, Int.reduceToNat, and_true, true_and, decide_true, decide_false, if_true, if_false, ite_true, ite_false, Bool.false_eq_true, Nat.zero_add, Nat.lt_irrefl, Int.reduceNeg, Int.reduceLT, Nat.zero_lt_succ, Int.le_refl, xor_f, xor_t, pureWs_p, pureWs_0, sizeLine, Nat.reducePow, Nat.reduceLeDiff, Nat.zero_le, get, subW_p]
      rfl
theorem evT_tt (O : Or) : evT O .tt = fun _ S => .ok true S := by
  funext ρ S
  unfold evT
  rfl
theorem wipe1 (ρ : Env) (v : Nat) : wipeW ρ [v] = ρ.set v none := rfl
theorem evE_comp {O : Or} {it : It} {tg : Tg} {v : Nat} {e : E} {ρ : Env} {S S1 S2 : Store} {xs : List W} {ys : List P} (h1 : evIt O it ρ S = .ok xs S1) (h2 : compL tg (fun _ S => .ok true S) (evE O e) (ρ.set v none) xs [] S1 = .ok ys S2) : evE O (.comp it tg [v] .tt e) ρ S = .ok (.p (.lst ys)) S2 := by
  show ((evIt O it ρ S).bind fun xs S1 => match compL tg (evT O .tt) (evE O e) (wipeW ρ [v]) xs [] S1 with
    | .ok ys S2 => R.ok (W.p (P.lst ys)) S2
    | _ => R.bad) = _
  rw [h1, evT_tt, wipe1]
  show (match compL tg (fun _ S => .ok true S) (evE O e) (ρ.set v none) xs [] S1 with
    | .ok ys S2 => R.ok (W.p (P.lst ys)) S2
    | _ => R.bad) = _
  rw [h2]
theorem some_len {zs : List (P × P)} {ps : List P} (e : ps = zs.map (fun z => P.tup [z.1, z.2])) : zs.length = ps.length := by rw [e, List.length_map]
theorem val_all (tb : Addr) {ns : List Int} (hb : Bits ns) : ∀ (n k : Nat) (i a r : Int), i = (n : Int) → 0 ≤ a → a + vb n ≤ 100000 →
    ∃ p a' r', runP (L08.fns tb) L08.or (k + n + 3) 11 [.c 0, .p (.int i)] [pen ns a r] = .ok (.p p) [pen ns a' r'] ∧ Val n p ∧ a ≤ a' ∧ a' ≤ a + vb n := by
  have p20 : binP .Pow (.int 10) (.int 20) = some (.int (10 ^ 20)) := bin_pow (by decide)
  have leaf : ∀ (k : Nat) (n : Nat) (a r : Int), 0 ≤ a → a + 1 ≤ 100000 → ∃ x a' r', callW (arr [.a 0, .a 1] (runP (L08.fns tb) L08.or (k + 2) 10)) [.c 0, .p (.lst [.non, .bl true, .int 0, .int (-3), .int (10 ^ 20), .str "word", .str "", .tup []])] [pen ns a r] = .ok (.p x) [pen ns a' r'] ∧ Fixd n x x ∧ a ≤ a' ∧ a' ≤ a + 1 := fun k n a r h0 h1 => by
    obtain ⟨x, a', r', e, hx, a0, a1⟩ := pick_all tb k hb (a := a) (r := r) (xs := leafs) (by decide) (by decide) h0 (by omega)
    exact ⟨x, a', r', call_pen e, .leaf hx, a0, a1⟩
  intro n
  induction n with
  | zero =>
    intro k i a r hi h0 h1
    have hi : i = 0 := hi
    subst hi
    have h1 : a + 1 ≤ 100000 := h1
    obtain ⟨x, a', r', e, hx, a0, a1⟩ := leaf k 0 a r h0 h1
    refine ⟨.tup [x, x], a', r', ?_, ⟨x, x, rfl, hx⟩, a0, a1⟩
    rw [show k + 0 + 3 = (k + 2) + 1 from rfl, run8 (h08_11 tb) rfl]
    unfold runB
    simp only [O8_run, exSs, exS, evT, ev_var, ev_cst, ev_bin, ev_neg, ev_cmp, ev_eqo, ev_boo, ev_chn, ev_and, ev_or, ev_not, ev_ife, ev_tup, ev_lst, ev_newl, ev_sub, ev_slc, ev_ixi, ev_att, ev_pri, ev_isi, ev_call, ev_make, ev_meth, ev_sup, ev_bm, ev_frz, ev_cname, ev_opr, ev_one, ev_lamc, evEs, FD.R.bind, FD.R.out, List.map_cons, List.map_nil, List.length_cons, List.length_nil, List.replicate, List.cons_append, List.nil_append, List.getElem?_cons_zero, List.getElem?_cons_succ, c3_0, c3_1, c3_2, of_some, view_p, view_b, views_1, views_2, pri_int, pri_intb, pri_lenl, pri_tupl, pri_tupt, pri_lstt, opW_i, unW_i, cmp_gt, cmp_ge, cmp_lt, uo_abs, uo_neg, bin_add, bin_sub, map_some', nm_if, tru_b, List.set_cons_succ, List.set_cons_zero, Nat.reduceAdd, Nat.reduceSub, Nat.reduceLT, Int.reduceLE, Int.reduceToNat, and_true, true_and, decide_true, decide_false, if_true, if_false, ite_true, ite_false, Bool.false_eq_true, Nat.zero_add, Nat.lt_irrefl, Int.reduceNeg, Int.reduceLT, Nat.zero_lt_succ, Int.le_refl, xor_f, xor_t, pureWs_p, pureWs_0, sizeLine, Nat.reducePow, Nat.reduceLeDiff, Nat.zero_le, p20, e, List.append_nil]
  | succ n ih =>
    intro k i a r hi h0 h1
    have hv := vb_pos n
    have h1 : a + (3 + 3 * vb n) ≤ 100000 := h1
    have hi0 : decide (0 < i) = true := decide_eq_true (by omega)
    have hlev : k + (n + 1) + 3 = (k + n + 3) + 1 := by omega
    rw [hlev, run8 (h08_11 tb) rfl]
    obtain ⟨d, a1, r1, e1, d0, d1, b0, b1⟩ := draw_L tb (k := k + n + 3) (by omega) hb (a := a) (r := r) (m := 3) (by decide) (by decide) h0 (by omega)
    by_cases hd : 0 < d
    · obtain ⟨d2, a2, r2, e2, d20, d21, b20, b21⟩ := draw_L tb (k := k + n + 3) (by omega) hb (a := a1) (r := r1) (m := 4) (by decide) (by decide) (by omega) (by omega)
      obtain ⟨ys, a3, r3, c1, c2, c3, c4, c5⟩ := comp_pen (tg := .nm 6) (e := evE (O8 tb (k + n + 3)) (.call 11 (.cons (.var 0) (.cons (.opr .Sub (.var 1) (.cst (.int 1))) .nil)) .nil [.a 0, .a 1])) (ρ := [some (.c 0), some (.p (.int i)), none, none, none, none, none, none]) (ns := ns) (Pp := Val n) (inc := vb n) (by omega) (rngL 0 d2.toNat) [] a2 r2 (by omega)
        (by
          have z : vb n * ((rngL 0 d2.toNat).length : Int) ≤ vb n * 3 := Int.mul_le_mul_of_nonneg_left (by rw [rngL_len]; omega) (by omega)
          omega)
        (by rw [rngL_len]; simp; omega) (fun x hx => ⟨[some (.c 0), some (.p (.int i)), none, none, none, none, some x, none], by rw [nm_if]; rfl, fun a r z0 z1 => by
          obtain ⟨p, a', r', q1, q2, q3, q4⟩ := ih k (i - 1) a r (by omega) z0 z1
          exact ⟨p, a', r', by simp only [O8_run, exSs, exS, evT, ev_var, ev_cst, ev_bin, ev_neg, ev_cmp, ev_eqo, ev_boo, ev_chn, ev_and, ev_or, ev_not, ev_ife, ev_tup, ev_lst, ev_newl, ev_sub, ev_slc, ev_ixi, ev_att, ev_pri, ev_isi, ev_call, ev_make, ev_meth, ev_sup, ev_bm, ev_frz, ev_cname, ev_opr, ev_one, ev_lamc, evEs, FD.R.bind, FD.R.out, List.map_cons, List.map_nil, List.length_cons, List.length_nil, List.replicate, List.cons_append, List.nil_append, List.getElem?_cons_zero, List.getElem?_cons_succ, c3_0, c3_1, c3_2, of_some, view_p, view_b, views_1, views_2, pri_int, pri_intb, pri_lenl, pri_tupl, pri_tupt, pri_lstt, opW_i, unW_i, cmp_gt, cmp_ge, cmp_lt, uo_abs, uo_neg, bin_add, bin_sub, map_some', nm_if, tru_b, List.set_cons_succ, List.set_cons_zero, Nat.reduceAdd, Nat.reduceSub, Nat.reduceLT, Int.reduceLE, Int.reduceToNat, and_true, true_and, decide_true, decide_false, if_true, if_false, ite_true, ite_false, Bool.false_eq_true, Nat.zero_add, Nat.lt_irrefl, Int.reduceNeg, Int.reduceLT, Nat.zero_lt_succ, Int.le_refl, xor_f, xor_t, pureWs_p, pureWs_0, sizeLine, Nat.reducePow, Nat.reduceLeDiff, Nat.zero_le, List.append_nil, call_pen q1], q2, q3, q4⟩⟩)
      have hlen : ys.length ≤ 3 := by rw [c2, rngL_len]; omega
      have z : vb n * ((rngL 0 d2.toNat).length : Int) ≤ vb n * 3 := Int.mul_le_mul_of_nonneg_left (by rw [rngL_len]; omega) (by omega)
      obtain ⟨zs, hz, hf⟩ := vals_zip c3
      have hzl : zs.length ≤ 3 := by rw [some_len hz]; exact hlen
      obtain ⟨d4, a4, r4, e4, d40, d41, b40, b41⟩ := draw_L tb (k := k + n + 3) (by omega) hb (a := a3) (r := r3) (m := 2) (by decide) (by decide) (by omega) (by omega)
      have hr : evIt (O8 tb (k + n + 3)) (.rng (.call 9 (.cons (.var 0) (.cons (.cst (.int (4))) .nil)) .nil [.a 0, .a 1])) [some (.c 0), some (.p (.int i)), none, none, none, none, none, none] [pen ns a1 r1] = .ok (rngL 0 d2.toNat) [pen ns a2 r2] := evIt_rng (by simp only [O8_run, exSs, exS, evT, ev_var, ev_cst, ev_bin, ev_neg, ev_cmp, ev_eqo, ev_boo, ev_chn, ev_and, ev_or, ev_not, ev_ife, ev_tup, ev_lst, ev_newl, ev_sub, ev_slc, ev_ixi, ev_att, ev_pri, ev_isi, ev_call, ev_make, ev_meth, ev_sup, ev_bm, ev_frz, ev_cname, ev_opr, ev_one, ev_lamc, evEs, FD.R.bind, FD.R.out, List.map_cons, List.map_nil, List.length_cons, List.length_nil, List.replicate, List.cons_append, List.nil_append, List.getElem?_cons_zero, List.getElem?_cons_succ, c3_0, c3_1, c3_2, of_some, view_p, view_b, views_1, views_2, pri_int, pri_intb, pri_lenl, pri_tupl, pri_tupt, pri_lstt, opW_i, unW_i, cmp_gt, cmp_ge, cmp_lt, uo_abs, uo_neg, bin_add, bin_sub, map_some', nm_if, tru_b, List.set_cons_succ, List.set_cons_zero, Nat.reduceAdd, Nat.reduceSub, Nat.reduceLT, Int.reduceLE, Int.reduceToNat, and_true, true_and, decide_true, decide_false, if_true, if_false, ite_true, ite_false, Bool.false_eq_true, Nat.zero_add, Nat.lt_irrefl, Int.reduceNeg, Int.reduceLT, Nat.zero_lt_succ, Int.le_refl, xor_f, xor_t, pureWs_p, pureWs_0, sizeLine, Nat.reducePow, Nat.reduceLeDiff, Nat.zero_le, List.append_nil, call_pen e2]) d20 (by omega)
      have hs1 : evIt (O8 tb (k + n + 3)) (.seq (.var 2)) [some (.c 0), some (.p (.int i)), some (.p (.lst ys)), none, none, none, none, none] [pen ns a3 r3] = .ok (ys.map W.p) [pen ns a3 r3] := evIt_seq rfl
      obtain ⟨o1, o2⟩ := comp_one (O8 tb (k + n + 3)) (i := 7) (ρ := [some (.c 0), some (.p (.int i)), some (.p (.lst ys)), none, none, none, none, none]) (S := [pen ns a3 r3]) (by simp) zs (by omega)
      rw [← hz] at o1 o2
      rw [List.nil_append] at c1
      have g1 := evE_comp (v := 6) hr c1
      have g2 := evE_comp (v := 7) hs1 o1
      have g3 := evE_comp (v := 7) hs1 o2
      by_cases h4 : d4 = 0
      · refine ⟨.tup [.lst (zs.map (·.1)), .tup (zs.map (·.2))], a4, r4, ?_, ⟨_, _, rfl, .lst zs hzl hf⟩, by omega, by show a4 ≤ a + (3 + 3 * vb n); omega⟩
        unfold runB
        simp only [O8_run, exSs, exS, evT, ev_var, ev_cst, ev_bin, ev_neg, ev_cmp, ev_eqo, ev_boo, ev_chn, ev_and, ev_or, ev_not, ev_ife, ev_tup, ev_lst, ev_newl, ev_sub, ev_slc, ev_ixi, ev_att, ev_pri, ev_isi, ev_call, ev_make, ev_meth, ev_sup, ev_bm, ev_frz, ev_cname, ev_opr, ev_one, ev_lamc, evEs, FD.R.bind, FD.R.out, List.map_cons, List.map_nil, List.length_cons, List.length_nil, List.replicate, List.cons_append, List.nil_append, List.getElem?_cons_zero, List.getElem?_cons_succ, c3_0, c3_1, c3_2, of_some, view_p, view_b, views_1, views_2, pri_int, pri_intb, pri_lenl, pri_tupl, pri_tupt, pri_lstt, opW_i, unW_i, cmp_gt, cmp_ge, cmp_lt, uo_abs, uo_neg, bin_add, bin_sub, map_some', nm_if, tru_b, List.set_cons_succ, List.set_cons_zero, Nat.reduceAdd, Nat.reduceSub, Nat.reduceLT, Int.reduceLE, Int.reduceToNat, and_true, true_and, decide_true, decide_false, if_true, if_false, ite_true, ite_false, Bool.false_eq_true, Nat.zero_add, Nat.lt_irrefl, Int.reduceNeg, Int.reduceLT, Nat.zero_lt_succ, Int.le_refl, xor_f, xor_t, pureWs_p, pureWs_0, sizeLine, Nat.reducePow, Nat.reduceLeDiff, Nat.zero_le, g1, g2, g3, hi0, call_pen e1, decide_eq_true hd, call_pen e4, eqW_int, decide_eq_true h4, List.append_nil, setAll]
      · refine ⟨.tup [.tup (zs.map (·.1)), .tup (zs.map (·.2))], a4, r4, ?_, ⟨_, _, rfl, .tup zs hzl hf⟩, by omega, by show a4 ≤ a + (3 + 3 * vb n); omega⟩
        unfold runB
        simp only [O8_run, exSs, exS, evT, ev_var, ev_cst, ev_bin, ev_neg, ev_cmp, ev_eqo, ev_boo, ev_chn, ev_and, ev_or, ev_not, ev_ife, ev_tup, ev_lst, ev_newl, ev_sub, ev_slc, ev_ixi, ev_att, ev_pri, ev_isi, ev_call, ev_make, ev_meth, ev_sup, ev_bm, ev_frz, ev_cname, ev_opr, ev_one, ev_lamc, evEs, FD.R.bind, FD.R.out, List.map_cons, List.map_nil, List.length_cons, List.length_nil, List.replicate, List.cons_append, List.nil_append, List.getElem?_cons_zero, List.getElem?_cons_succ, c3_0, c3_1, c3_2, of_some, view_p, view_b, views_1, views_2, pri_int, pri_intb, pri_lenl, pri_tupl, pri_tupt, pri_lstt, opW_i, unW_i, cmp_gt, cmp_ge, cmp_lt, uo_abs, uo_neg, bin_add, bin_sub, map_some', nm_if, tru_b, List.set_cons_succ, List.set_cons_zero, Nat.reduceAdd, Nat.reduceSub, Nat.reduceLT, Int.reduceLE, Int.reduceToNat, and_true, true_and, decide_true, decide_false, if_true, if_false, ite_true, ite_false, Bool.false_eq_true, Nat.zero_add, Nat.lt_irrefl, Int.reduceNeg, Int.reduceLT, Nat.zero_lt_succ, Int.le_refl, xor_f, xor_t, pureWs_p, pureWs_0, sizeLine, Nat.reducePow, Nat.reduceLeDiff, Nat.zero_le, g1, g2, g3, hi0, call_pen e1, decide_eq_true hd, call_pen e4, eqW_int, decide_eq_false h4, List.append_nil, setAll]
    · obtain ⟨x, a', r', e, hx, z0, z1⟩ := leaf (k + n + 1) (n + 1) a1 r1 (by omega) (by omega)
      refine ⟨.tup [x, x], a', r', ?_, ⟨x, x, rfl, hx⟩, by omega, by show a' ≤ a + (3 + 3 * vb n); omega⟩
      unfold runB
      simp only [O8_run, exSs, exS, evT, ev_var, ev_cst, ev_bin, ev_neg, ev_cmp, ev_eqo, ev_boo, ev_chn, ev_and, ev_or, ev_not, ev_ife, ev_tup, ev_lst, ev_newl, ev_sub, ev_slc, ev_ixi, ev_att, ev_pri, ev_isi, ev_call, ev_make, ev_meth, ev_sup, ev_bm, ev_frz, ev_cname, ev_opr, ev_one, ev_lamc, evEs, FD.R.bind, FD.R.out, List.map_cons, List.map_nil, List.length_cons, List.length_nil, List.replicate, List.cons_append, List.nil_append, List.getElem?_cons_zero, List.getElem?_cons_succ, c3_0, c3_1, c3_2, of_some, view_p, view_b, views_1, views_2, pri_int, pri_intb, pri_lenl, pri_tupl, pri_tupt, pri_lstt, opW_i, unW_i, cmp_gt, cmp_ge, cmp_lt, uo_abs, uo_neg, bin_add, bin_sub, map_some', nm_if, tru_b, List.set_cons_succ, List.set_cons_zero, Nat.reduceAdd, Nat.reduceSub, Nat.reduceLT, Int.reduceLE, Int.reduceToNat, and_true, true_and, decide_true, decide_false, if_true, if_false, ite_true, ite_false, Bool.false_eq_true, Nat.zero_add, Nat.lt_irrefl, Int.reduceNeg, Int.reduceLT, Nat.zero_lt_succ, Int.le_refl, xor_f, xor_t, pureWs_p, pureWs_0, sizeLine, Nat.reducePow, Nat.reduceLeDiff, Nat.zero_le, hi0, call_pen e1, decide_eq_false hd, p20, e, List.append_nil]
end FD

set_option Elab.async false
set_option linter.all false
set_option autoImplicit false
set_option maxRecDepth 100000
set_option maxHeartbeats 4000000
/-! K08f: the plain law of k08: fixed, the papers made. -/
namespace FD
open PySem PySem.Spec PyProof.Rows L2
theorem refs_p : ∀ ps : List P, refsOf (ps.map W.p) = []
  | [] => rfl
  | p :: ps => refs_p ps
theorem reix_p (ks : List Nat) : ∀ ps : List P, (ps.map W.p).map (reIx ks) = ps.map W.p
  | [] => rfl
  | p :: ps => congrArg (W.p p :: ·) (reix_p ks ps)
/-- a call with plain values -/
theorem call_ps {run : List W → Store → R W} {ps : List P} {q : P} {S S1 : Store} (h : run (ps.map W.p) [] = .ok (.p q) S1) : callW run (ps.map W.p) S = .ok (.p q) S := by
  unfold callW
  rw [refs_p]
  show callG run [] [] ((ps.map W.p).map (reIx [])) S = _
  rw [reix_p]
  have e : putC S [] S1 = some S := by cases S1 <;> rfl
  unfold callG
  rw [h]
  dsimp only
  rw [e]
theorem call_1 {run : List W → Store → R W} {p q : P} {S S1 : Store} (h : run [.p p] [] = .ok (.p q) S1) : callW run [.p p] S = .ok (.p q) S := call_ps (ps := [p]) h
theorem call_2 {run : List W → Store → R W} {p p2 q : P} {S S1 : Store} (h : run [.p p, .p p2] [] = .ok (.p q) S1) : callW run [.p p, .p p2] S = .ok (.p q) S := call_ps (ps := [p, p2]) h
theorem comp_zs {tg : Tg} {e : Env → Store → R W} {ρ : Env} {S : Store} (he : ∀ x, ∃ ρ1, bindTg tg (.p x) ρ = some ρ1) : ∀ (zs : List (P × P)) (acc : List P), (∀ z ∈ zs, ∀ ρ1, bindTg tg (.p z.1) ρ = some ρ1 → e ρ1 S = .ok (.p z.2) S) → acc.length + zs.length ≤ 1000 →
    compL tg (fun _ S => .ok true S) e ρ ((zs.map (·.1)).map W.p) acc S = .ok (acc ++ zs.map (·.2)) S
  | [], acc, _, _ => by
    simp only [List.map_nil, List.append_nil]
    rfl
  | z :: zs, acc, h, hl => by
    obtain ⟨ρ1, h1⟩ := he z.1
    have e1 := h z List.mem_cons_self ρ1 h1
    rw [List.length_cons] at hl
    have hz : acc.length < sizeLine := by
      have : (1000 : Nat) < sizeLine := by decide
      omega
    rw [List.map_cons, List.map_cons]
    unfold compL
    rw [h1]
    dsimp only
    rw [e1]
    dsimp only
    rw [if_pos hz, comp_zs he zs (acc ++ [z.2]) (fun y hy => h y (List.mem_cons_of_mem _ hy)) (by rw [List.length_append, List.length_cons, List.length_nil]; omega), List.map_cons, List.append_assoc]
    rfl
theorem evIt_seqt {O : Or} {i : Nat} {ρ : Env} {S : Store} {xs : List P} (h : ρ[i]? = some (some (.p (.tup xs)))) : evIt O (.seq (.var i)) ρ S = .ok (xs.map W.p) S := by
  unfold evIt evE
  rw [h]
  rfl
theorem isi_l (O : Or) (xs : List P) : isiAny O (.lst xs) [.ty "list", .ty "tuple"] = some true := by kernel_rfl
theorem isi_t (O : Or) (xs : List P) : isiAny O (.tup xs) [.ty "list", .ty "tuple"] = some true := by kernel_rfl
theorem isi_leaf (O : Or) {x : P} (h : x ∈ leafs) : (∃ xs, x = .tup xs ∧ xs = []) ∨ (isiAny O x [.ty "list", .ty "tuple"] = some false ∧ isiAny O x [.ty "dict"] = some false) := by
  unfold leafs at h
  simp only [List.mem_cons, List.not_mem_nil, or_false] at h
  rcases h with h | h | h | h | h | h | h | h <;> subst h
  · exact .inr ⟨by kernel_rfl, by kernel_rfl⟩
  · exact .inr ⟨by kernel_rfl, by kernel_rfl⟩
  · exact .inr ⟨by kernel_rfl, by kernel_rfl⟩
  · exact .inr ⟨by kernel_rfl, by kernel_rfl⟩
  · exact .inr ⟨by kernel_rfl, by kernel_rfl⟩
  · exact .inr ⟨by kernel_rfl, by kernel_rfl⟩
  · exact .inr ⟨by kernel_rfl, by kernel_rfl⟩
  · exact .inl ⟨_, rfl, rfl⟩
theorem fix_all (tb : Addr) : ∀ (n k : Nat) (x y : P), Fixd n x y → runP (L08.fns tb) L08.or (k + n + 1) 0 [.p x] [] = .ok (.p y) [] := by
  have seq : ∀ (K : Nat) (x : P) (zs : List (P × P)), evIt (O8 tb K) (.seq (.var 0)) [some (.p x), none] [] = .ok ((zs.map (·.1)).map W.p) [] → isiAny (O8 tb K) x [.ty "list", .ty "tuple"] = some true → zs.length ≤ 3 → (∀ z ∈ zs, runP (L08.fns tb) L08.or K 0 [.p z.1] [] = .ok (.p z.2) []) →
      runP (L08.fns tb) L08.or (K + 1) 0 [.p x] [] = .ok (.p (.tup (zs.map (·.2)))) [] := fun K x zs h1 h2 h3 h4 => by
    rw [run8 (h08_0 tb) rfl]
    have c := comp_zs (tg := .nm 1) (e := evE (O8 tb K) (.call 0 (.cons (.var 1) .nil) .nil [.a 0])) (ρ := [some (.p x), none]) (S := []) (fun y => ⟨[some (.p x), some (.p y)], by rw [nm_if]; rfl⟩) zs [] (fun z hz ρ1 h => by
      rw [nm_if] at h
      cases h
      have q := call_1 (run := arr [.a 0] (runP (L08.fns tb) L08.or K 0)) (S := []) (h4 z hz)
      simp only [O8_run, exSs, exS, evT, ev_var, ev_cst, ev_bin, ev_neg, ev_cmp, ev_eqo, ev_boo, ev_chn, ev_and, ev_or, ev_not, ev_ife, ev_tup, ev_lst, ev_newl, ev_sub, ev_slc, ev_ixi, ev_att, ev_pri, ev_isi, ev_call, ev_make, ev_meth, ev_sup, ev_bm, ev_frz, ev_cname, ev_opr, ev_one, ev_lamc, evEs, FD.R.bind, FD.R.out, List.map_cons, List.map_nil, List.length_cons, List.length_nil, List.replicate, List.cons_append, List.nil_append, List.getElem?_cons_zero, List.getElem?_cons_succ, c3_0, c3_1, c3_2, of_some, view_p, view_b, views_1, views_2, pri_int, pri_intb, pri_lenl, pri_tupl, pri_tupt, pri_lstt, opW_i, unW_i, cmp_gt, cmp_ge, cmp_lt, uo_abs, uo_neg, bin_add, bin_sub, map_some', nm_if, tru_b, List.set_cons_succ, List.set_cons_zero, Nat.reduceAdd, Nat.reduceSub, Nat.reduceLT, Int.reduceLE, Int.reduceToNat, and_true, true_and, decide_true, decide_false, if_true, if_false, ite_true, ite_false, Bool.false_eq_true, Nat.zero_add, Nat.lt_irrefl, Int.reduceNeg, Int.reduceLT, Nat.zero_lt_succ, Int.le_refl, xor_f, xor_t, pureWs_p, pureWs_0, sizeLine, Nat.reducePow, Nat.reduceLeDiff, Nat.zero_le, List.append_nil, q]) (by simp; omega)
    rw [List.nil_append] at c
    have g := evE_comp (v := 1) h1 c
    unfold runB
    simp only [O8_run, exSs, exS, evT, ev_var, ev_cst, ev_bin, ev_neg, ev_cmp, ev_eqo, ev_boo, ev_chn, ev_and, ev_or, ev_not, ev_ife, ev_tup, ev_lst, ev_newl, ev_sub, ev_slc, ev_ixi, ev_att, ev_pri, ev_isi, ev_call, ev_make, ev_meth, ev_sup, ev_bm, ev_frz, ev_cname, ev_opr, ev_one, ev_lamc, evEs, FD.R.bind, FD.R.out, List.map_cons, List.map_nil, List.length_cons, List.length_nil, List.replicate, List.cons_append, List.nil_append, List.getElem?_cons_zero, List.getElem?_cons_succ, c3_0, c3_1, c3_2, of_some, view_p, view_b, views_1, views_2, pri_int, pri_intb, pri_lenl, pri_tupl, pri_tupt, pri_lstt, opW_i, unW_i, cmp_gt, cmp_ge, cmp_lt, uo_abs, uo_neg, bin_add, bin_sub, map_some', nm_if, tru_b, List.set_cons_succ, List.set_cons_zero, Nat.reduceAdd, Nat.reduceSub, Nat.reduceLT, Int.reduceLE, Int.reduceToNat, and_true, true_and, decide_true, decide_false, if_true, if_false, ite_true, ite_false, Bool.false_eq_true, Nat.zero_add, Nat.lt_irrefl, Int.reduceNeg, Int.reduceLT, Nat.zero_lt_succ, Int.le_refl, xor_f, xor_t, pureWs_p, pureWs_0, sizeLine, Nat.reducePow, Nat.reduceLeDiff, Nat.zero_le, g, h2]
  intro n
  induction n with
  | zero =>
    intro k x y h
    cases h with
    | leaf h =>
      rcases isi_leaf (O8 tb k) h with ⟨xs, rfl, rfl⟩ | ⟨h1, h2⟩
      · exact seq k _ [] (evIt_seqt rfl) (isi_t _ _) (by simp) fun z hz => by cases hz
      · rw [show k + 0 + 1 = k + 1 from rfl, run8 (h08_0 tb) rfl]
        unfold runB
        simp only [O8_run, exSs, exS, evT, ev_var, ev_cst, ev_bin, ev_neg, ev_cmp, ev_eqo, ev_boo, ev_chn, ev_and, ev_or, ev_not, ev_ife, ev_tup, ev_lst, ev_newl, ev_sub, ev_slc, ev_ixi, ev_att, ev_pri, ev_isi, ev_call, ev_make, ev_meth, ev_sup, ev_bm, ev_frz, ev_cname, ev_opr, ev_one, ev_lamc, evEs, FD.R.bind, FD.R.out, List.map_cons, List.map_nil, List.length_cons, List.length_nil, List.replicate, List.cons_append, List.nil_append, List.getElem?_cons_zero, List.getElem?_cons_succ, c3_0, c3_1, c3_2, of_some, view_p, view_b, views_1, views_2, pri_int, pri_intb, pri_lenl, pri_tupl, pri_tupt, pri_lstt, opW_i, unW_i, cmp_gt, cmp_ge, cmp_lt, uo_abs, uo_neg, bin_add, bin_sub, map_some', nm_if, tru_b, List.set_cons_succ, List.set_cons_zero, Nat.reduceAdd, Nat.reduceSub, Nat.reduceLT, Int.reduceLE, Int.reduceToNat, and_true, true_and, decide_true, decide_false, if_true, if_false, ite_true, ite_false, Bool.false_eq_true, Nat.zero_add, Nat.lt_irrefl, Int.reduceNeg, Int.reduceLT, Nat.zero_lt_succ, Int.le_refl, xor_f, xor_t, pureWs_p, pureWs_0, sizeLine, Nat.reducePow, Nat.reduceLeDiff, Nat.zero_le, h1, h2]
  | succ n ih =>
    intro k x y h
    rw [show k + (n + 1) + 1 = (k + n + 1) + 1 by omega]
    cases h with
    | leaf h =>
      rcases isi_leaf (O8 tb (k + n + 1)) h with ⟨xs, rfl, rfl⟩ | ⟨h1, h2⟩
      · exact seq _ _ [] (evIt_seqt rfl) (isi_t _ _) (by simp) fun z hz => by cases hz
      · rw [run8 (h08_0 tb) rfl]
        unfold runB
        simp only [O8_run, exSs, exS, evT, ev_var, ev_cst, ev_bin, ev_neg, ev_cmp, ev_eqo, ev_boo, ev_chn, ev_and, ev_or, ev_not, ev_ife, ev_tup, ev_lst, ev_newl, ev_sub, ev_slc, ev_ixi, ev_att, ev_pri, ev_isi, ev_call, ev_make, ev_meth, ev_sup, ev_bm, ev_frz, ev_cname, ev_opr, ev_one, ev_lamc, evEs, FD.R.bind, FD.R.out, List.map_cons, List.map_nil, List.length_cons, List.length_nil, List.replicate, List.cons_append, List.nil_append, List.getElem?_cons_zero, List.getElem?_cons_succ, c3_0, c3_1, c3_2, of_some, view_p, view_b, views_1, views_2, pri_int, pri_intb, pri_lenl, pri_tupl, pri_tupt, pri_lstt, opW_i, unW_i, cmp_gt, cmp_ge, cmp_lt, uo_abs, uo_neg, bin_add, bin_sub, map_some', nm_if, tru_b, List.set_cons_succ, List.set_cons_zero, Nat.reduceAdd, Nat.reduceSub, Nat.reduceLT, Int.reduceLE, Int.reduceToNat, and_true, true_and, decide_true, decide_false, if_true, if_false, ite_true, ite_false, Bool.false_eq_true, Nat.zero_add, Nat.lt_irrefl, Int.reduceNeg, Int.reduceLT, Nat.zero_lt_succ, Int.le_refl, xor_f, xor_t, pureWs_p, pureWs_0, sizeLine, Nat.reducePow, Nat.reduceLeDiff, Nat.zero_le, h1, h2]
    | lst zs hl h => exact seq _ _ zs (evIt_seq rfl) (isi_l _ _) hl fun z hz => ih k _ _ (h z hz)
    | tup zs hl h => exact seq _ _ zs (evIt_seqt rfl) (isi_t _ _) hl fun z hz => ih k _ _ (h z hz)
end FD

set_option Elab.async false
set_option linter.all false
set_option autoImplicit false
set_option maxRecDepth 100000
set_option maxHeartbeats 4000000
/-! K08g: the plain law of k08: the papers. -/
namespace FD
open PySem PySem.Spec PyProof.Rows L2
theorem lend_p (S : Store) : ∀ ps : List P, lendWs S (ps.map W.p) = some (ps.map W.p)
  | [] => rfl
  | p :: ps => by
    show (match lendW S (.p p), lendWs S (ps.map W.p) with
      | some p, some ps => some (p :: ps)
      | _, _ => none) = _
    rw [lend_p S ps]
    rfl
theorem make_ps {run : List W → Store → R W} {c : Nat} {ps : List P} {S : Store} {fs : List (Str × W)} {gs : List (Str × P)} (h : run (.c 0 :: ps.map W.p) [.ins c []] = .ok (.p .non) [.ins c fs]) (hp : pureF fs = some gs) : makeW run c (ps.map W.p) S = .ok (.p (.ins c gs)) S := by
  unfold makeW
  rw [lend_p]
  dsimp only
  rw [h]
  dsimp only [List.getElem?_cons_zero]
  rw [if_pos rfl, hp]
theorem putW_0 (f : Str) (x : W) : putW f x [] = [(f, x)] := rfl
theorem putW_1 (x y : W) : putW "parts" y [(("word" : Str), x)] = [(("word" : Str), x), (("parts" : Str), y)] := by kernel_rfl
theorem ins_c (c : Nat) (fs : List (Str × W)) (T : Store) : insOf (.ins c fs :: T) (.c 0) = some c := rfl
theorem att_parts (c : Nat) (x y : W) (T : Store) : attW (.ins c [("word", x), ("parts", y)] :: T) "parts" (.c 0) = some y := by kernel_rfl
theorem tup_w (xs : List P) : tupW (.p (.tup xs)) = some (xs.map W.p) := rfl
theorem init1 (tb : Addr) {K c : Nat} (hK : 5 ≤ K) {w : Str} {zs : List (P × P)} (hl : zs.length ≤ 3) (hf : ∀ z ∈ zs, Fixd 3 z.1 z.2) :
    runP (L08.fns tb) L08.or (K + 1) 1 [.c 0, .p (.str w), .p (.tup (zs.map (·.1)))] [.ins c []] = .ok (.p .non) [.ins c [("word", .p (.str w)), ("parts", .p (.tup (zs.map (·.2))))]] := by
  have f : runP (L08.fns tb) L08.or K 0 [.p (.tup (zs.map (·.1)))] [] = .ok (.p (.tup (zs.map (·.2)))) [] := by
    have e : K = (K - 5) + 4 + 1 := by omega
    rw [e]
    exact fix_all tb 4 (K - 5) _ _ (.tup zs hl hf)
  have g := fun S => call_1 (run := arr [.a 0] (runP (L08.fns tb) L08.or K 0)) (S := S) f
  rw [run8 (h08_1 tb) rfl]
  unfold runB
  simp only [O8_run, exSs, exS, evT, ev_var, ev_cst, ev_bin, ev_neg, ev_cmp, ev_eqo, ev_boo, ev_chn, ev_and, ev_or, ev_not, ev_ife, ev_tup, ev_lst, ev_newl, ev_sub, ev_slc, ev_ixi, ev_att, ev_pri, ev_isi, ev_call, ev_make, ev_meth, ev_sup, ev_bm, ev_frz, ev_cname, ev_opr, ev_one, ev_lamc, evEs, FD.R.bind, FD.R.out, List.map_cons, List.map_nil, List.length_cons, List.length_nil, List.replicate, List.cons_append, List.nil_append, List.getElem?_cons_zero, List.getElem?_cons_succ, c3_0, c3_1, c3_2, of_some, view_p, view_b, views_1, views_2, pri_int, pri_intb, pri_lenl, pri_tupl, pri_tupt, pri_lstt, opW_i, unW_i, cmp_gt, cmp_ge, cmp_lt, uo_abs, uo_neg, bin_add, bin_sub, map_some', nm_if, tru_b, List.set_cons_succ, List.set_cons_zero, Nat.reduceAdd, Nat.reduceSub, Nat.reduceLT, Int.reduceLE, Int.reduceToNat, and_true, true_and, decide_true, decide_false, if_true, if_false, ite_true, ite_false, Bool.false_eq_true, Nat.zero_add, Nat.lt_irrefl, Int.reduceNeg, Int.reduceLT, Nat.zero_lt_succ, Int.le_refl, xor_f, xor_t, pureWs_p, pureWs_0, sizeLine, Nat.reducePow, Nat.reduceLeDiff, Nat.zero_le, g, List.append_nil, putW_0, putW_1]
theorem call_sup2 {run : List W → Store → R W} {c : Nat} {w x y a b : P} (h : run [.c 0, .p w, .p (.tup [x, y])] [.ins c []] = .ok (.p .non) [.ins c [("word", .p a), ("parts", .p b)]]) :
    callW (arr [.a 0, .a 1, .star 2] run) [.c 0, .p w, .p x, .p y] [.ins c []] = .ok (.p .non) [.ins c [("word", .p a), ("parts", .p b)]] := by
  show callG (arr [.a 0, .a 1, .star 2] run) [0] [.ins c []] [.c 0, .p w, .p x, .p y] [.ins c []] = _
  have e : arr [.a 0, .a 1, .star 2] run [.c 0, .p w, .p x, .p y] [.ins c []] = .ok (.p .non) [.ins c [("word", .p a), ("parts", .p b)]] := h
  unfold callG
  rw [e]
  rfl
theorem call_sup3 {run : List W → Store → R W} {c : Nat} {w x y z a b : P} (h : run [.c 0, .p w, .p (.tup [x, y, z])] [.ins c []] = .ok (.p .non) [.ins c [("word", .p a), ("parts", .p b)]]) :
    callW (arr [.a 0, .a 1, .star 2] run) [.c 0, .p w, .p x, .p y, .p z] [.ins c []] = .ok (.p .non) [.ins c [("word", .p a), ("parts", .p b)]] := by
  show callG (arr [.a 0, .a 1, .star 2] run) [0] [.ins c []] [.c 0, .p w, .p x, .p y, .p z] [.ins c []] = _
  have e : arr [.a 0, .a 1, .star 2] run [.c 0, .p w, .p x, .p y, .p z] [.ins c []] = .ok (.p .non) [.ins c [("word", .p a), ("parts", .p b)]] := h
  unfold callG
  rw [e]
  rfl
theorem sub_22 (tb : Addr) (K : Nat) : (O8 tb K).isSub 2 2 = true := by kernel_rfl
theorem sub_33 (tb : Addr) (K : Nat) : (O8 tb K).isSub 3 3 = true := by kernel_rfl
theorem sub_44 (tb : Addr) (K : Nat) : (O8 tb K).isSub 4 4 = true := by kernel_rfl
theorem put_flow (a b x y : W) : putWs ["flows", "handed"] [x, y] [(("word" : Str), a), (("parts" : Str), b)] = [(("word" : Str), a), (("parts" : Str), b), (("flows" : Str), x), (("handed" : Str), y)] := by kernel_rfl
theorem put_cost (a b x y z : W) : putWs ["number", "pushes", "flow"] [x, y, z] [(("word" : Str), a), (("parts" : Str), b)] = [(("word" : Str), a), (("parts" : Str), b), (("number" : Str), x), (("pushes" : Str), y), (("flow" : Str), z)] := by kernel_rfl
theorem put_part (a b x y z : W) : putWs ["row", "first", "second"] [x, y, z] [(("word" : Str), a), (("parts" : Str), b)] = [(("word" : Str), a), (("parts" : Str), b), (("row" : Str), x), (("first" : Str), y), (("second" : Str), z)] := by kernel_rfl
theorem init5 (tb : Addr) {K : Nat} (hK : 6 ≤ K) {z0 z1 : P × P} (h0 : Fixd 3 z0.1 z0.2) (h1 : Fixd 3 z1.1 z1.2) :
    runP (L08.fns tb) L08.or (K + 1) 5 [.c 0, .p z0.1, .p z1.1] [.ins 2 []] = .ok (.p .non) [.ins 2 [("word", .p (.str "flow")), ("parts", .p (.tup [z0.2, z1.2])), ("flows", .p z0.2), ("handed", .p z1.2)]] := by
  obtain ⟨J, rfl⟩ : ∃ J, K = J + 1 := ⟨K - 1, by omega⟩
  have i1 := call_sup2 (init1 tb (K := J) (c := 2) (by omega) (w := "flow") (zs := [z0, z1]) (by simp) (by intro z hz; simp at hz; rcases hz with rfl | rfl <;> assumption))
  rw [run8 (h08_5 tb) rfl]
  unfold runB
  simp only [O8_run, exSs, exS, evT, ev_var, ev_cst, ev_bin, ev_neg, ev_cmp, ev_eqo, ev_boo, ev_chn, ev_and, ev_or, ev_not, ev_ife, ev_tup, ev_lst, ev_newl, ev_sub, ev_slc, ev_ixi, ev_att, ev_pri, ev_isi, ev_call, ev_make, ev_meth, ev_sup, ev_bm, ev_frz, ev_cname, ev_opr, ev_one, ev_lamc, evEs, FD.R.bind, FD.R.out, List.map_cons, List.map_nil, List.length_cons, List.length_nil, List.replicate, List.cons_append, List.nil_append, List.getElem?_cons_zero, List.getElem?_cons_succ, c3_0, c3_1, c3_2, of_some, view_p, view_b, views_1, views_2, pri_int, pri_intb, pri_lenl, pri_tupl, pri_tupt, pri_lstt, opW_i, unW_i, cmp_gt, cmp_ge, cmp_lt, uo_abs, uo_neg, bin_add, bin_sub, map_some', nm_if, tru_b, List.set_cons_succ, List.set_cons_zero, Nat.reduceAdd, Nat.reduceSub, Nat.reduceLT, Int.reduceLE, Int.reduceToNat, and_true, true_and, decide_true, decide_false, if_true, if_false, ite_true, ite_false, Bool.false_eq_true, Nat.zero_add, Nat.lt_irrefl, Int.reduceNeg, Int.reduceLT, Nat.zero_lt_succ, Int.le_refl, xor_f, xor_t, pureWs_p, pureWs_0, sizeLine, Nat.reducePow, Nat.reduceLeDiff, Nat.zero_le, ins_c, sub_22, i1, att_parts, tup_w, put_flow]
theorem init6 (tb : Addr) {K : Nat} (hK : 6 ≤ K) {z0 z1 z2 : P × P} (h0 : Fixd 3 z0.1 z0.2) (h1 : Fixd 3 z1.1 z1.2) (h2 : Fixd 3 z2.1 z2.2) :
    runP (L08.fns tb) L08.or (K + 1) 6 [.c 0, .p z0.1, .p z1.1, .p z2.1] [.ins 3 []] = .ok (.p .non) [.ins 3 [("word", .p (.str "cost")), ("parts", .p (.tup [z0.2, z1.2, z2.2])), ("number", .p z0.2), ("pushes", .p z1.2), ("flow", .p z2.2)]] := by
  obtain ⟨J, rfl⟩ : ∃ J, K = J + 1 := ⟨K - 1, by omega⟩
  have i1 := call_sup3 (init1 tb (K := J) (c := 3) (by omega) (w := "cost") (zs := [z0, z1, z2]) (by simp) (by intro z hz; simp at hz; rcases hz with rfl | rfl | rfl <;> assumption))
  rw [run8 (h08_6 tb) rfl]
  unfold runB
  simp only [O8_run, exSs, exS, evT, ev_var, ev_cst, ev_bin, ev_neg, ev_cmp, ev_eqo, ev_boo, ev_chn, ev_and, ev_or, ev_not, ev_ife, ev_tup, ev_lst, ev_newl, ev_sub, ev_slc, ev_ixi, ev_att, ev_pri, ev_isi, ev_call, ev_make, ev_meth, ev_sup, ev_bm, ev_frz, ev_cname, ev_opr, ev_one, ev_lamc, evEs, FD.R.bind, FD.R.out, List.map_cons, List.map_nil, List.length_cons, List.length_nil, List.replicate, List.cons_append, List.nil_append, List.getElem?_cons_zero, List.getElem?_cons_succ, c3_0, c3_1, c3_2, of_some, view_p, view_b, views_1, views_2, pri_int, pri_intb, pri_lenl, pri_tupl, pri_tupt, pri_lstt, opW_i, unW_i, cmp_gt, cmp_ge, cmp_lt, uo_abs, uo_neg, bin_add, bin_sub, map_some', nm_if, tru_b, List.set_cons_succ, List.set_cons_zero, Nat.reduceAdd, Nat.reduceSub, Nat.reduceLT, Int.reduceLE, Int.reduceToNat, and_true, true_and, decide_true, decide_false, if_true, if_false, ite_true, ite_false, Bool.false_eq_true, Nat.zero_add, Nat.lt_irrefl, Int.reduceNeg, Int.reduceLT, Nat.zero_lt_succ, Int.le_refl, xor_f, xor_t, pureWs_p, pureWs_0, sizeLine, Nat.reducePow, Nat.reduceLeDiff, Nat.zero_le, ins_c, sub_33, i1, att_parts, tup_w, put_cost]
theorem init7 (tb : Addr) {K : Nat} (hK : 6 ≤ K) {z0 z1 z2 : P × P} (h0 : Fixd 3 z0.1 z0.2) (h1 : Fixd 3 z1.1 z1.2) (h2 : Fixd 3 z2.1 z2.2) :
    runP (L08.fns tb) L08.or (K + 1) 7 [.c 0, .p z0.1, .p z1.1, .p z2.1] [.ins 4 []] = .ok (.p .non) [.ins 4 [("word", .p (.str "parted")), ("parts", .p (.tup [z0.2, z1.2, z2.2])), ("row", .p z0.2), ("first", .p z1.2), ("second", .p z2.2)]] := by
  obtain ⟨J, rfl⟩ : ∃ J, K = J + 1 := ⟨K - 1, by omega⟩
  have i1 := call_sup3 (init1 tb (K := J) (c := 4) (by omega) (w := "parted") (zs := [z0, z1, z2]) (by simp) (by intro z hz; simp at hz; rcases hz with rfl | rfl | rfl <;> assumption))
  rw [run8 (h08_7 tb) rfl]
  unfold runB
  simp only [O8_run, exSs, exS, evT, ev_var, ev_cst, ev_bin, ev_neg, ev_cmp, ev_eqo, ev_boo, ev_chn, ev_and, ev_or, ev_not, ev_ife, ev_tup, ev_lst, ev_newl, ev_sub, ev_slc, ev_ixi, ev_att, ev_pri, ev_isi, ev_call, ev_make, ev_meth, ev_sup, ev_bm, ev_frz, ev_cname, ev_opr, ev_one, ev_lamc, evEs, FD.R.bind, FD.R.out, List.map_cons, List.map_nil, List.length_cons, List.length_nil, List.replicate, List.cons_append, List.nil_append, List.getElem?_cons_zero, List.getElem?_cons_succ, c3_0, c3_1, c3_2, of_some, view_p, view_b, views_1, views_2, pri_int, pri_intb, pri_lenl, pri_tupl, pri_tupt, pri_lstt, opW_i, unW_i, cmp_gt, cmp_ge, cmp_lt, uo_abs, uo_neg, bin_add, bin_sub, map_some', nm_if, tru_b, List.set_cons_succ, List.set_cons_zero, Nat.reduceAdd, Nat.reduceSub, Nat.reduceLT, Int.reduceLE, Int.reduceToNat, and_true, true_and, decide_true, decide_false, if_true, if_false, ite_true, ite_false, Bool.false_eq_true, Nat.zero_add, Nat.lt_irrefl, Int.reduceNeg, Int.reduceLT, Nat.zero_lt_succ, Int.le_refl, xor_f, xor_t, pureWs_p, pureWs_0, sizeLine, Nat.reducePow, Nat.reduceLeDiff, Nat.zero_le, ins_c, sub_44, i1, att_parts, tup_w, put_part]
end FD

set_option Elab.async false
set_option linter.all false
set_option autoImplicit false
set_option maxRecDepth 100000
set_option maxHeartbeats 4000000
/-! K08h: the plain law of k08: what is made. -/
namespace FD
open PySem PySem.Spec PyProof.Rows L2
def Ym (y : P) : Prop := ∃ x, Fixd 3 x y
/-- a paper that was made: its class, fields, word, parts, names, whether it denies -/
structure Pap (tb : Addr) (c : Nat) (fs : List (Str × P)) (w : Str) (ys nms : List P) (den : Bool) : Prop where
  word : fs.lookup ("word" : Str) = some (.str w)
  parts : fs.lookup ("parts" : Str) = some (.tup ys)
  kind : (c = 0 ∧ w = "odd" ∧ den = false) ∨ (c = 1 ∧ w = "odd" ∧ den = true) ∨ (c = 2 ∧ w = "flow" ∧ den = false) ∨ (c = 3 ∧ w = "cost" ∧ den = false) ∨ (c = 4 ∧ w = "parted" ∧ den = true)
  good : ∀ y ∈ ys, Ym y
  few : ys.length ≤ 3
  att : nms = [] ∨ (eqP (.lst nms) (.lst []) = some false ∧ ∀ k, runP (L08.fns tb) L08.or (k + 1) 13 [.p (.ins c fs), .p (.str w)] [] = .ok (.p (.lst ys)) [])
theorem sl1_0 (a : P) : subP (.lst [a]) (.int 0) = some a := rfl
theorem sl2_0 (a b : P) : subP (.lst [a, b]) (.int 0) = some a := rfl
theorem sl2_1 (a b : P) : subP (.lst [a, b]) (.int 1) = some b := rfl
theorem sl3_0 (a b c : P) : subP (.lst [a, b, c]) (.int 0) = some a := rfl
theorem sl3_1 (a b c : P) : subP (.lst [a, b, c]) (.int 1) = some b := rfl
theorem sl3_2 (a b c : P) : subP (.lst [a, b, c]) (.int 2) = some c := rfl
theorem eqW_str {O : Or} {neg k : Bool} {x y : Str} {S : Store} (h : eqP (.str x) (.str y) = some k) : eqW O neg (.p (.str x)) (.p (.str y)) S = .ok k S := eqW_of rfl rfl rfl h
section
variable (tb : Addr) {z0 z1 z2 : P × P} (S : Store)
theorem mk5 (h0 : Fixd 3 z0.1 z0.2) (h1 : Fixd 3 z1.1 z1.2) : makeW (arr [.a 0, .a 2, .a 1] (runP (L08.fns tb) L08.or 10 5)) 2 [.p z1.1, .p z0.1] S = .ok (.p (.ins 2 [(("word" : Str), .str "flow"), (("parts" : Str), .tup [z0.2, z1.2]), (("flows" : Str), z0.2), (("handed" : Str), z1.2)])) S :=
  make_ps (ps := [z1.1, z0.1]) (show arr [.a 0, .a 2, .a 1] (runP (L08.fns tb) L08.or 10 5) [.c 0, .p z1.1, .p z0.1] [.ins 2 []] = _ from init5 tb (K := 9) (by decide) h0 h1) rfl
theorem mk6 (h0 : Fixd 3 z0.1 z0.2) (h1 : Fixd 3 z1.1 z1.2) (h2 : Fixd 3 z2.1 z2.2) : makeW (arr [.a 0, .a 1, .a 3, .a 2] (runP (L08.fns tb) L08.or 10 6)) 3 [.p z0.1, .p z2.1, .p z1.1] S = .ok (.p (.ins 3 [(("word" : Str), .str "cost"), (("parts" : Str), .tup [z0.2, z1.2, z2.2]), (("number" : Str), z0.2), (("pushes" : Str), z1.2), (("flow" : Str), z2.2)])) S :=
  make_ps (ps := [z0.1, z2.1, z1.1]) (show arr [.a 0, .a 1, .a 3, .a 2] (runP (L08.fns tb) L08.or 10 6) [.c 0, .p z0.1, .p z2.1, .p z1.1] [.ins 3 []] = _ from init6 tb (K := 9) (by decide) h0 h1 h2) rfl
theorem mk7 (h0 : Fixd 3 z0.1 z0.2) (h1 : Fixd 3 z1.1 z1.2) (h2 : Fixd 3 z2.1 z2.2) : makeW (arr [.a 0, .a 2, .a 3, .a 1] (runP (L08.fns tb) L08.or 10 7)) 4 [.p z2.1, .p z0.1, .p z1.1] S = .ok (.p (.ins 4 [(("word" : Str), .str "parted"), (("parts" : Str), .tup [z0.2, z1.2, z2.2]), (("row" : Str), z0.2), (("first" : Str), z1.2), (("second" : Str), z2.2)])) S :=
  make_ps (ps := [z2.1, z0.1, z1.1]) (show arr [.a 0, .a 2, .a 3, .a 1] (runP (L08.fns tb) L08.or 10 7) [.c 0, .p z2.1, .p z0.1, .p z1.1] [.ins 4 []] = _ from init7 tb (K := 9) (by decide) h0 h1 h2) rfl
theorem mk1_0 (c : Nat) : makeW (arr [.a 0, .a 1, .star 2] (runP (L08.fns tb) L08.or 10 1)) c [.p (.str "odd")] S = .ok (.p (.ins c [(("word" : Str), .str "odd"), (("parts" : Str), .tup [])])) S :=
  make_ps (ps := [.str "odd"]) (show arr [.a 0, .a 1, .star 2] (runP (L08.fns tb) L08.or 10 1) [.c 0, .p (.str "odd")] [.ins c []] = _ from init1 tb (K := 9) (by decide) (zs := []) (by decide) (fun z hz => by cases hz)) rfl
theorem mk1_1 (c : Nat) (h0 : Fixd 3 z0.1 z0.2) : makeW (arr [.a 0, .a 1, .star 2] (runP (L08.fns tb) L08.or 10 1)) c [.p (.str "odd"), .p z0.1] S = .ok (.p (.ins c [(("word" : Str), .str "odd"), (("parts" : Str), .tup [z0.2])])) S :=
  make_ps (ps := [.str "odd", z0.1]) (show arr [.a 0, .a 1, .star 2] (runP (L08.fns tb) L08.or 10 1) [.c 0, .p (.str "odd"), .p z0.1] [.ins c []] = _ from init1 tb (K := 9) (by decide) (zs := [z0]) (by simp) (by intro z hz; simp at hz; subst hz; exact h0)) rfl
theorem mk1_2 (c : Nat) (h0 : Fixd 3 z0.1 z0.2) (h1 : Fixd 3 z1.1 z1.2) : makeW (arr [.a 0, .a 1, .star 2] (runP (L08.fns tb) L08.or 10 1)) c [.p (.str "odd"), .p z0.1, .p z1.1] S = .ok (.p (.ins c [(("word" : Str), .str "odd"), (("parts" : Str), .tup [z0.2, z1.2])])) S :=
  make_ps (ps := [.str "odd", z0.1, z1.1]) (show arr [.a 0, .a 1, .star 2] (runP (L08.fns tb) L08.or 10 1) [.c 0, .p (.str "odd"), .p z0.1, .p z1.1] [.ins c []] = _ from init1 tb (K := 9) (by decide) (zs := [z0, z1]) (by simp) (by intro z hz; simp at hz; rcases hz with rfl | rfl <;> assumption)) rfl
theorem mk1_3 (c : Nat) (h0 : Fixd 3 z0.1 z0.2) (h1 : Fixd 3 z1.1 z1.2) (h2 : Fixd 3 z2.1 z2.2) : makeW (arr [.a 0, .a 1, .star 2] (runP (L08.fns tb) L08.or 10 1)) c [.p (.str "odd"), .p z0.1, .p z1.1, .p z2.1] S = .ok (.p (.ins c [(("word" : Str), .str "odd"), (("parts" : Str), .tup [z0.2, z1.2, z2.2])])) S :=
  make_ps (ps := [.str "odd", z0.1, z1.1, z2.1]) (show arr [.a 0, .a 1, .star 2] (runP (L08.fns tb) L08.or 10 1) [.c 0, .p (.str "odd"), .p z0.1, .p z1.1, .p z2.1] [.ins c []] = _ from init1 tb (K := 9) (by decide) (zs := [z0, z1, z2]) (by simp) (by intro z hz; simp at hz; rcases hz with rfl | rfl | rfl <;> assumption)) rfl
end
theorem atts_flow (tb : Addr) (a b x y : P) (k : Nat) : runP (L08.fns tb) L08.or (k + 1) 13 [.p (.ins 2 [(("word" : Str), a), (("parts" : Str), b), (("flows" : Str), x), (("handed" : Str), y)]), .p (.str "flow")] [] = .ok (.p (.lst [x, y])) [] := by
  rw [run8 (h08_13 tb) rfl]
  kernel_rfl
theorem atts_cost (tb : Addr) (a b x y z : P) (k : Nat) : runP (L08.fns tb) L08.or (k + 1) 13 [.p (.ins 3 [(("word" : Str), a), (("parts" : Str), b), (("number" : Str), x), (("pushes" : Str), y), (("flow" : Str), z)]), .p (.str "cost")] [] = .ok (.p (.lst [x, y, z])) [] := by
  rw [run8 (h08_13 tb) rfl]
  kernel_rfl
theorem atts_part (tb : Addr) (a b x y z : P) (k : Nat) : runP (L08.fns tb) L08.or (k + 1) 13 [.p (.ins 4 [(("word" : Str), a), (("parts" : Str), b), (("row" : Str), x), (("first" : Str), y), (("second" : Str), z)]), .p (.str "parted")] [] = .ok (.p (.lst [x, y, z])) [] := by
  rw [run8 (h08_13 tb) rfl]
  kernel_rfl
theorem len2 {α : Type} {l : List α} (h : l.length = 2) : ∃ a b, l = [a, b] := by
  match l, h with
  | [a, b], _ => exact ⟨a, b, rfl⟩
theorem len3 {α : Type} {l : List α} (h : l.length = 3) : ∃ a b c, l = [a, b, c] := by
  match l, h with
  | [a, b, c], _ => exact ⟨a, b, c, rfl⟩
theorem len1 {α : Type} {l : List α} (h : l.length = 1) : ∃ a, l = [a] := by
  match l, h with
  | [a], _ => exact ⟨a, rfl⟩
def Made (tb : Addr) (ns : List Int) (a : Int) (r : R W) : Prop := ∃ (c : Nat) (fs : List (Str × P)) (w : Str) (ys nms : List P) (den : Bool) (a' r' : Int), r = .ok (.p (.tup [.ins c fs, .str w, .tup ys, .lst nms, .bl den])) [pen ns a' r'] ∧ Pap tb c fs w ys nms den ∧ a ≤ a' ∧ a' ≤ a + 300
theorem made_all (tb : Addr) {ns : List Int} (hb : Bits ns) {a r : Int} (h0 : 0 ≤ a) (h1 : a + 300 ≤ 100000) : Made tb ns a (runP (L08.fns tb) L08.or 11 12 [.c 0] [pen ns a r]) := by
  obtain ⟨d, a1, r1, e1, d0, d1, b0, b1⟩ := draw_L tb (k := 10) (by decide) hb (a := a) (r := r) (m := 5) (by decide) (by decide) h0 (by omega)
  obtain ⟨u, a2, r2, e2, u0, u1, b2, b3⟩ := draw_L tb (k := 10) (by decide) hb (a := a1) (r := r1) (m := 4) (by decide) (by decide) (by omega) (by omega)
  obtain ⟨v, a3, r3, e3, v0, v1, b4, b5⟩ := draw_L tb (k := 10) (by decide) hb (a := a2) (r := r2) (m := 4) (by decide) (by decide) (by omega) (by omega)
  obtain ⟨m, hsub, m0, m3, hm⟩ : ∃ m : Int, subP (.lst [.int 2, .int 3, .int 3, .int u, .int v]) (.int d) = some (.int m) ∧ 0 ≤ m ∧ m ≤ 3 ∧ ((d = 0 ∧ m = 2) ∨ (d = 1 ∧ m = 3) ∨ (d = 2 ∧ m = 3) ∨ d = 3 ∨ d = 4) := by
    have : d = 0 ∨ d = 1 ∨ d = 2 ∨ d = 3 ∨ d = 4 := by omega
    rcases this with rfl | rfl | rfl | rfl | rfl
    · exact ⟨2, rfl, by decide, by decide, .inl ⟨rfl, rfl⟩⟩
    · exact ⟨3, rfl, by decide, by decide, .inr (.inl ⟨rfl, rfl⟩)⟩
    · exact ⟨3, rfl, by decide, by decide, .inr (.inr (.inl ⟨rfl, rfl⟩))⟩
    · exact ⟨u, rfl, u0, by omega, .inr (.inr (.inr (.inl rfl)))⟩
    · exact ⟨v, rfl, v0, by omega, .inr (.inr (.inr (.inr rfl)))⟩
  obtain ⟨ys, a4, r4, c1, c2, c3, c4, c5⟩ := comp_pen (tg := .nm 8) (e := evE (O8 tb 10) (.call 11 (.cons (.var 0) (.cons (.cst (.int 3)) .nil)) .nil [.a 0, .a 1])) (ρ := [some (.c 0), some (.p (.str "odd")), some (.p (.lst [])), some (.p (.int d)), some (.p (.int m)), none, none, none, none, none]) (ns := ns) (Pp := Val 3) (inc := 66) (by decide) (rngL 0 m.toNat) [] a3 r3 (by omega)
    (by rw [rngL_len]; omega) (by rw [rngL_len]; simp; omega) (fun x hx => ⟨[some (.c 0), some (.p (.str "odd")), some (.p (.lst [])), some (.p (.int d)), some (.p (.int m)), none, none, none, some x, none], by rw [nm_if]; rfl, fun a r z0 z1 => by
      obtain ⟨p, a', r', q1, q2, q3, q4⟩ := val_all tb hb 3 4 3 a r rfl z0 z1
      have q1 : runP (L08.fns tb) L08.or 10 11 [.c 0, .p (.int 3)] [pen ns a r] = .ok (.p p) [pen ns a' r'] := q1
      exact ⟨p, a', r', by simp only [O8_run, exSs, exS, evT, ev_var, ev_cst, ev_bin, ev_neg, ev_cmp, ev_eqo, ev_boo, ev_chn, ev_and, ev_or, ev_not, ev_ife, ev_tup, ev_lst, ev_newl, ev_sub, ev_slc, ev_ixi, ev_att, ev_pri, ev_isi, ev_call, ev_make, ev_meth, ev_sup, ev_bm, ev_frz, ev_cname, ev_opr, ev_one, ev_lamc, evEs, FD.R.bind, FD.R.out, List.map_cons, List.map_nil, List.length_cons, List.length_nil, List.replicate, List.cons_append, List.nil_append, List.getElem?_cons_zero, List.getElem?_cons_succ, c3_0, c3_1, c3_2, of_some, view_p, view_b, views_1, views_2, pri_int, pri_intb, pri_lenl, pri_tupl, pri_tupt, pri_lstt, opW_i, unW_i, cmp_gt, cmp_ge, cmp_lt, uo_abs, uo_neg, bin_add, bin_sub, map_some', nm_if, tru_b, List.set_cons_succ, List.set_cons_zero, Nat.reduceAdd, Nat.reduceSub, Nat.reduceLT, Int.reduceLE, Int.reduceToNat, and_true, true_and, decide_true, decide_false, if_true, if_false, ite_true, ite_false, Bool.false_eq_true, Nat.zero_add, Nat.lt_irrefl, Int.reduceNeg, Int.reduceLT, Nat.zero_lt_succ, Int.le_refl, xor_f, xor_t, pureWs_p, pureWs_0, sizeLine, Nat.reducePow, Nat.reduceLeDiff, Nat.zero_le, List.append_nil, call_pen q1], q2, q3, q4⟩⟩)
  rw [rngL_len] at c2
  rw [rngL_len] at c5
  obtain ⟨zs, hz, hf⟩ := vals_zip c3
  have hzl : zs.length = m.toNat := by rw [some_len hz, c2]
  rw [List.nil_append] at c1
  have hr : evIt (O8 tb 10) (.rng (.var 4)) [some (.c 0), some (.p (.str "odd")), some (.p (.lst [])), some (.p (.int d)), some (.p (.int m)), none, none, none, none, none] [pen ns a3 r3] = .ok (rngL 0 m.toNat) [pen ns a3 r3] := evIt_rng (by simp only [O8_run, exSs, exS, evT, ev_var, ev_cst, ev_bin, ev_neg, ev_cmp, ev_eqo, ev_boo, ev_chn, ev_and, ev_or, ev_not, ev_ife, ev_tup, ev_lst, ev_newl, ev_sub, ev_slc, ev_ixi, ev_att, ev_pri, ev_isi, ev_call, ev_make, ev_meth, ev_sup, ev_bm, ev_frz, ev_cname, ev_opr, ev_one, ev_lamc, evEs, FD.R.bind, FD.R.out, List.map_cons, List.map_nil, List.length_cons, List.length_nil, List.replicate, List.cons_append, List.nil_append, List.getElem?_cons_zero, List.getElem?_cons_succ, c3_0, c3_1, c3_2, of_some, view_p, view_b, views_1, views_2, pri_int, pri_intb, pri_lenl, pri_tupl, pri_tupt, pri_lstt, opW_i, unW_i, cmp_gt, cmp_ge, cmp_lt, uo_abs, uo_neg, bin_add, bin_sub, map_some', nm_if, tru_b, List.set_cons_succ, List.set_cons_zero, Nat.reduceAdd, Nat.reduceSub, Nat.reduceLT, Int.reduceLE, Int.reduceToNat, and_true, true_and, decide_true, decide_false, if_true, if_false, ite_true, ite_false, Bool.false_eq_true, Nat.zero_add, Nat.lt_irrefl, Int.reduceNeg, Int.reduceLT, Nat.zero_lt_succ, Int.le_refl, xor_f, xor_t, pureWs_p, pureWs_0, sizeLine, Nat.reducePow, Nat.reduceLeDiff, Nat.zero_le, List.append_nil]) m0 (by omega)
  have hs1 : evIt (O8 tb 10) (.seq (.var 5)) [some (.c 0), some (.p (.str "odd")), some (.p (.lst [])), some (.p (.int d)), some (.p (.int m)), some (.p (.lst ys)), none, none, none, none] [pen ns a4 r4] = .ok (ys.map W.p) [pen ns a4 r4] := evIt_seq rfl
  obtain ⟨o1, o2⟩ := comp_one (O8 tb 10) (i := 9) (ρ := [some (.c 0), some (.p (.str "odd")), some (.p (.lst [])), some (.p (.int d)), some (.p (.int m)), some (.p (.lst ys)), none, none, none, none]) (S := [pen ns a4 r4]) (by simp) zs (by omega)
  rw [← hz] at o1 o2
  have g1 := evE_comp (v := 8) hr c1
  have g2 := evE_comp (v := 9) hs1 o1
  have g3 := evE_comp (v := 9) hs1 o2
  have good : ∀ y ∈ zs.map (·.2), Ym y := fun y hy => by
    obtain ⟨z, hz, rfl⟩ := List.mem_map.mp hy
    exact ⟨_, hf z hz⟩
  have few : (zs.map (·.2)).length ≤ 3 := by rw [List.length_map]; omega
  refine (?_ : Made tb ns a (runP (L08.fns tb) L08.or (10 + 1) 12 [.c 0] [pen ns a r]))
  rw [run8 (h08_12 tb) rfl]
  rcases hm with ⟨rfl, rfl⟩ | ⟨rfl, rfl⟩ | ⟨rfl, rfl⟩ | hd
  · obtain ⟨z0, z1, rfl⟩ := len2 (show zs.length = 2 from hzl)
    have f0 := hf z0 (by simp)
    have f1 := hf z1 (by simp)
    refine ⟨2, _, "flow", [z0.2, z1.2], [.str "flows", .str "handed"], false, a4, r4, ?_, ⟨rfl, rfl, .inr (.inr (.inl ⟨rfl, rfl, rfl⟩)), good, few, .inr ⟨by kernel_rfl, fun k => atts_flow tb _ _ _ _ k⟩⟩, by omega, by omega⟩
    unfold runB
    simp only [O8_run, exSs, exS, evT, ev_var, ev_cst, ev_bin, ev_neg, ev_cmp, ev_eqo, ev_boo, ev_chn, ev_and, ev_or, ev_not, ev_ife, ev_tup, ev_lst, ev_newl, ev_sub, ev_slc, ev_ixi, ev_att, ev_pri, ev_isi, ev_call, ev_make, ev_meth, ev_sup, ev_bm, ev_frz, ev_cname, ev_opr, ev_one, ev_lamc, evEs, FD.R.bind, FD.R.out, List.map_cons, List.map_nil, List.length_cons, List.length_nil, List.replicate, List.cons_append, List.nil_append, List.getElem?_cons_zero, List.getElem?_cons_succ, c3_0, c3_1, c3_2, of_some, view_p, view_b, views_1, views_2, pri_int, pri_intb, pri_lenl, pri_tupl, pri_tupt, pri_lstt, opW_i, unW_i, cmp_gt, cmp_ge, cmp_lt, uo_abs, uo_neg, bin_add, bin_sub, map_some', nm_if, tru_b, List.set_cons_succ, List.set_cons_zero, Nat.reduceAdd, Nat.reduceSub, Nat.reduceLT, Int.reduceLE, Int.reduceToNat, and_true, true_and, decide_true, decide_false, if_true, if_false, ite_true, ite_false, Bool.false_eq_true, Nat.zero_add, Nat.lt_irrefl, Int.reduceNeg, Int.reduceLT, Nat.zero_lt_succ, Int.le_refl, xor_f, xor_t, pureWs_p, pureWs_0, sizeLine, Nat.reducePow, Nat.reduceLeDiff, Nat.zero_le, g1, g2, g3, call_pen e1, call_pen e2, call_pen e3, subW_p, hsub, eqW_int, sl2_0, sl2_1, sl3_0, sl3_1, sl3_2, mk5 tb _ f0 f1, List.append_nil, setAll, Int.reduceEq]
  · obtain ⟨z0, z1, z2, rfl⟩ := len3 (show zs.length = 3 from hzl)
    have f0 := hf z0 (by simp)
    have f1 := hf z1 (by simp)
    have f2 := hf z2 (by simp)
    refine ⟨3, _, "cost", [z0.2, z1.2, z2.2], [.str "number", .str "pushes", .str "flow"], false, a4, r4, ?_, ⟨rfl, rfl, .inr (.inr (.inr (.inl ⟨rfl, rfl, rfl⟩))), good, few, .inr ⟨by kernel_rfl, fun k => atts_cost tb _ _ _ _ _ k⟩⟩, by omega, by omega⟩
    unfold runB
    simp only [O8_run, exSs, exS, evT, ev_var, ev_cst, ev_bin, ev_neg, ev_cmp, ev_eqo, ev_boo, ev_chn, ev_and, ev_or, ev_not, ev_ife, ev_tup, ev_lst, ev_newl, ev_sub, ev_slc, ev_ixi, ev_att, ev_pri, ev_isi, ev_call, ev_make, ev_meth, ev_sup, ev_bm, ev_frz, ev_cname, ev_opr, ev_one, ev_lamc, evEs, FD.R.bind, FD.R.out, List.map_cons, List.map_nil, List.length_cons, List.length_nil, List.replicate, List.cons_append, List.nil_append, List.getElem?_cons_zero, List.getElem?_cons_succ, c3_0, c3_1, c3_2, of_some, view_p, view_b, views_1, views_2, pri_int, pri_intb, pri_lenl, pri_tupl, pri_tupt, pri_lstt, opW_i, unW_i, cmp_gt, cmp_ge, cmp_lt, uo_abs, uo_neg, bin_add, bin_sub, map_some', nm_if, tru_b, List.set_cons_succ, List.set_cons_zero, Nat.reduceAdd, Nat.reduceSub, Nat.reduceLT, Int.reduceLE, Int.reduceToNat, and_true, true_and, decide_true, decide_false, if_true, if_false, ite_true, ite_false, Bool.false_eq_true, Nat.zero_add, Nat.lt_irrefl, Int.reduceNeg, Int.reduceLT, Nat.zero_lt_succ, Int.le_refl, xor_f, xor_t, pureWs_p, pureWs_0, sizeLine, Nat.reducePow, Nat.reduceLeDiff, Nat.zero_le, g1, g2, g3, call_pen e1, call_pen e2, call_pen e3, subW_p, hsub, eqW_int, sl2_0, sl2_1, sl3_0, sl3_1, sl3_2, mk6 tb _ f0 f1 f2, List.append_nil, setAll, Int.reduceEq]
  · obtain ⟨z0, z1, z2, rfl⟩ := len3 (show zs.length = 3 from hzl)
    have f0 := hf z0 (by simp)
    have f1 := hf z1 (by simp)
    have f2 := hf z2 (by simp)
    refine ⟨4, _, "parted", [z0.2, z1.2, z2.2], [.str "row", .str "first", .str "second"], true, a4, r4, ?_, ⟨rfl, rfl, .inr (.inr (.inr (.inr ⟨rfl, rfl, rfl⟩))), good, few, .inr ⟨by kernel_rfl, fun k => atts_part tb _ _ _ _ _ k⟩⟩, by omega, by omega⟩
    unfold runB
    simp only [O8_run, exSs, exS, evT, ev_var, ev_cst, ev_bin, ev_neg, ev_cmp, ev_eqo, ev_boo, ev_chn, ev_and, ev_or, ev_not, ev_ife, ev_tup, ev_lst, ev_newl, ev_sub, ev_slc, ev_ixi, ev_att, ev_pri, ev_isi, ev_call, ev_make, ev_meth, ev_sup, ev_bm, ev_frz, ev_cname, ev_opr, ev_one, ev_lamc, evEs, FD.R.bind, FD.R.out, List.map_cons, List.map_nil, List.length_cons, List.length_nil, List.replicate, List.cons_append, List.nil_append, List.getElem?_cons_zero, List.getElem?_cons_succ, c3_0, c3_1, c3_2, of_some, view_p, view_b, views_1, views_2, pri_int, pri_intb, pri_lenl, pri_tupl, pri_tupt, pri_lstt, opW_i, unW_i, cmp_gt, cmp_ge, cmp_lt, uo_abs, uo_neg, bin_add, bin_sub, map_some', nm_if, tru_b, List.set_cons_succ, List.set_cons_zero, Nat.reduceAdd, Nat.reduceSub, Nat.reduceLT, Int.reduceLE, Int.reduceToNat, and_true, true_and, decide_true, decide_false, if_true, if_false, ite_true, ite_false, Bool.false_eq_true, Nat.zero_add, Nat.lt_irrefl, Int.reduceNeg, Int.reduceLT, Nat.zero_lt_succ, Int.le_refl, xor_f, xor_t, pureWs_p, pureWs_0, sizeLine, Nat.reducePow, Nat.reduceLeDiff, Nat.zero_le, g1, g2, g3, call_pen e1, call_pen e2, call_pen e3, subW_p, hsub, eqW_int, sl2_0, sl2_1, sl3_0, sl3_1, sl3_2, mk7 tb _ f0 f1 f2, List.append_nil, setAll, Int.reduceEq]
  · have : m = 0 ∨ m = 1 ∨ m = 2 ∨ m = 3 := by omega
    rcases this with rfl | rfl | rfl | rfl
    · have hz0 : zs = [] := List.length_eq_zero_iff.mp hzl
      subst hz0
      rcases hd with rfl | rfl
      · refine ⟨0, [(("word" : Str), .str "odd"), (("parts" : Str), .tup [])], "odd", [], [], false, a4, r4, ?_, ⟨rfl, rfl, .inl ⟨rfl, rfl, rfl⟩, good, few, .inl rfl⟩, by omega, by omega⟩
        unfold runB
        simp only [O8_run, exSs, exS, evT, ev_var, ev_cst, ev_bin, ev_neg, ev_cmp, ev_eqo, ev_boo, ev_chn, ev_and, ev_or, ev_not, ev_ife, ev_tup, ev_lst, ev_newl, ev_sub, ev_slc, ev_ixi, ev_att, ev_pri, ev_isi, ev_call, ev_make, ev_meth, ev_sup, ev_bm, ev_frz, ev_cname, ev_opr, ev_one, ev_lamc, evEs, FD.R.bind, FD.R.out, List.map_cons, List.map_nil, List.length_cons, List.length_nil, List.replicate, List.cons_append, List.nil_append, List.getElem?_cons_zero, List.getElem?_cons_succ, c3_0, c3_1, c3_2, of_some, view_p, view_b, views_1, views_2, pri_int, pri_intb, pri_lenl, pri_tupl, pri_tupt, pri_lstt, opW_i, unW_i, cmp_gt, cmp_ge, cmp_lt, uo_abs, uo_neg, bin_add, bin_sub, map_some', nm_if, tru_b, List.set_cons_succ, List.set_cons_zero, Nat.reduceAdd, Nat.reduceSub, Nat.reduceLT, Int.reduceLE, Int.reduceToNat, and_true, true_and, decide_true, decide_false, if_true, if_false, ite_true, ite_false, Bool.false_eq_true, Nat.zero_add, Nat.lt_irrefl, Int.reduceNeg, Int.reduceLT, Nat.zero_lt_succ, Int.le_refl, xor_f, xor_t, pureWs_p, pureWs_0, sizeLine, Nat.reducePow, Nat.reduceLeDiff, Nat.zero_le, g1, g2, g3, call_pen e1, call_pen e2, call_pen e3, subW_p, hsub, eqW_int, sl1_0, sl2_0, sl2_1, sl3_0, sl3_1, sl3_2, mk1_0 tb _ 0, List.append_nil, setAll, Int.reduceEq]
      · refine ⟨1, [(("word" : Str), .str "odd"), (("parts" : Str), .tup [])], "odd", [], [], true, a4, r4, ?_, ⟨rfl, rfl, .inr (.inl ⟨rfl, rfl, rfl⟩), good, few, .inl rfl⟩, by omega, by omega⟩
        unfold runB
        simp only [O8_run, exSs, exS, evT, ev_var, ev_cst, ev_bin, ev_neg, ev_cmp, ev_eqo, ev_boo, ev_chn, ev_and, ev_or, ev_not, ev_ife, ev_tup, ev_lst, ev_newl, ev_sub, ev_slc, ev_ixi, ev_att, ev_pri, ev_isi, ev_call, ev_make, ev_meth, ev_sup, ev_bm, ev_frz, ev_cname, ev_opr, ev_one, ev_lamc, evEs, FD.R.bind, FD.R.out, List.map_cons, List.map_nil, List.length_cons, List.length_nil, List.replicate, List.cons_append, List.nil_append, List.getElem?_cons_zero, List.getElem?_cons_succ, c3_0, c3_1, c3_2, of_some, view_p, view_b, views_1, views_2, pri_int, pri_intb, pri_lenl, pri_tupl, pri_tupt, pri_lstt, opW_i, unW_i, cmp_gt, cmp_ge, cmp_lt, uo_abs, uo_neg, bin_add, bin_sub, map_some', nm_if, tru_b, List.set_cons_succ, List.set_cons_zero, Nat.reduceAdd, Nat.reduceSub, Nat.reduceLT, Int.reduceLE, Int.reduceToNat, and_true, true_and, decide_true, decide_false, if_true, if_false, ite_true, ite_false, Bool.false_eq_true, Nat.zero_add, Nat.lt_irrefl, Int.reduceNeg, Int.reduceLT, Nat.zero_lt_succ, Int.le_refl, xor_f, xor_t, pureWs_p, pureWs_0, sizeLine, Nat.reducePow, Nat.reduceLeDiff, Nat.zero_le, g1, g2, g3, call_pen e1, call_pen e2, call_pen e3, subW_p, hsub, eqW_int, sl1_0, sl2_0, sl2_1, sl3_0, sl3_1, sl3_2, mk1_0 tb _ 1, List.append_nil, setAll, Int.reduceEq]
    · obtain ⟨z0, rfl⟩ := len1 (show zs.length = 1 from hzl)
      have f0 := hf z0 (by simp)
      rcases hd with rfl | rfl
      · refine ⟨0, [(("word" : Str), .str "odd"), (("parts" : Str), .tup [z0.2])], "odd", [z0.2], [], false, a4, r4, ?_, ⟨rfl, rfl, .inl ⟨rfl, rfl, rfl⟩, good, few, .inl rfl⟩, by omega, by omega⟩
        unfold runB
        simp only [O8_run, exSs, exS, evT, ev_var, ev_cst, ev_bin, ev_neg, ev_cmp, ev_eqo, ev_boo, ev_chn, ev_and, ev_or, ev_not, ev_ife, ev_tup, ev_lst, ev_newl, ev_sub, ev_slc, ev_ixi, ev_att, ev_pri, ev_isi, ev_call, ev_make, ev_meth, ev_sup, ev_bm, ev_frz, ev_cname, ev_opr, ev_one, ev_lamc, evEs, FD.R.bind, FD.R.out, List.map_cons, List.map_nil, List.length_cons, List.length_nil, List.replicate, List.cons_append, List.nil_append, List.getElem?_cons_zero, List.getElem?_cons_succ, c3_0, c3_1, c3_2, of_some, view_p, view_b, views_1, views_2, pri_int, pri_intb, pri_lenl, pri_tupl, pri_tupt, pri_lstt, opW_i, unW_i, cmp_gt, cmp_ge, cmp_lt, uo_abs, uo_neg, bin_add, bin_sub, map_some', nm_if, tru_b, List.set_cons_succ, List.set_cons_zero, Nat.reduceAdd, Nat.reduceSub, Nat.reduceLT, Int.reduceLE, Int.reduceToNat, and_true, true_and, decide_true, decide_false, if_true, if_false, ite_true, ite_false, Bool.false_eq_true, Nat.zero_add, Nat.lt_irrefl, Int.reduceNeg, Int.reduceLT, Nat.zero_lt_succ, Int.le_refl, xor_f, xor_t, pureWs_p, pureWs_0, sizeLine, Nat.reducePow, Nat.reduceLeDiff, Nat.zero_le, g1, g2, g3, call_pen e1, call_pen e2, call_pen e3, subW_p, hsub, eqW_int, sl1_0, sl2_0, sl2_1, sl3_0, sl3_1, sl3_2, mk1_1 tb _ 0 f0, List.append_nil, setAll, Int.reduceEq]
      · refine ⟨1, [(("word" : Str), .str "odd"), (("parts" : Str), .tup [z0.2])], "odd", [z0.2], [], true, a4, r4, ?_, ⟨rfl, rfl, .inr (.inl ⟨rfl, rfl, rfl⟩), good, few, .inl rfl⟩, by omega, by omega⟩
        unfold runB
        simp only [O8_run, exSs, exS, evT, ev_var, ev_cst, ev_bin, ev_neg, ev_cmp, ev_eqo, ev_boo, ev_chn, ev_and, ev_or, ev_not, ev_ife, ev_tup, ev_lst, ev_newl, ev_sub, ev_slc, ev_ixi, ev_att, ev_pri, ev_isi, ev_call, ev_make, ev_meth, ev_sup, ev_bm, ev_frz, ev_cname, ev_opr, ev_one, ev_lamc, evEs, FD.R.bind, FD.R.out, List.map_cons, List.map_nil, List.length_cons, List.length_nil, List.replicate, List.cons_append, List.nil_append, List.getElem?_cons_zero, List.getElem?_cons_succ, c3_0, c3_1, c3_2, of_some, view_p, view_b, views_1, views_2, pri_int, pri_intb, pri_lenl, pri_tupl, pri_tupt, pri_lstt, opW_i, unW_i, cmp_gt, cmp_ge, cmp_lt, uo_abs, uo_neg, bin_add, bin_sub, map_some', nm_if, tru_b, List.set_cons_succ, List.set_cons_zero, Nat.reduceAdd, Nat.reduceSub, Nat.reduceLT, Int.reduceLE, Int.reduceToNat, and_true, true_and, decide_true, decide_false, if_true, if_false, ite_true, ite_false, Bool.false_eq_true, Nat.zero_add, Nat.lt_irrefl, Int.reduceNeg, Int.reduceLT, Nat.zero_lt_succ, Int.le_refl, xor_f, xor_t, pureWs_p, pureWs_0, sizeLine, Nat.reducePow, Nat.reduceLeDiff, Nat.zero_le, g1, g2, g3, call_pen e1, call_pen e2, call_pen e3, subW_p, hsub, eqW_int, sl1_0, sl2_0, sl2_1, sl3_0, sl3_1, sl3_2, mk1_1 tb _ 1 f0, List.append_nil, setAll, Int.reduceEq]
    · obtain ⟨z0, z1, rfl⟩ := len2 (show zs.length = 2 from hzl)
      have f0 := hf z0 (by simp)
      have f1 := hf z1 (by simp)
      rcases hd with rfl | rfl
      · refine ⟨0, [(("word" : Str), .str "odd"), (("parts" : Str), .tup [z0.2, z1.2])], "odd", [z0.2, z1.2], [], false, a4, r4, ?_, ⟨rfl, rfl, .inl ⟨rfl, rfl, rfl⟩, good, few, .inl rfl⟩, by omega, by omega⟩
        unfold runB
        simp only [O8_run, exSs, exS, evT, ev_var, ev_cst, ev_bin, ev_neg, ev_cmp, ev_eqo, ev_boo, ev_chn, ev_and, ev_or, ev_not, ev_ife, ev_tup, ev_lst, ev_newl, ev_sub, ev_slc, ev_ixi, ev_att, ev_pri, ev_isi, ev_call, ev_make, ev_meth, ev_sup, ev_bm, ev_frz, ev_cname, ev_opr, ev_one, ev_lamc, evEs, FD.R.bind, FD.R.out, List.map_cons, List.map_nil, List.length_cons, List.length_nil, List.replicate, List.cons_append, List.nil_append, List.getElem?_cons_zero, List.getElem?_cons_succ, c3_0, c3_1, c3_2, of_some, view_p, view_b, views_1, views_2, pri_int, pri_intb, pri_lenl, pri_tupl, pri_tupt, pri_lstt, opW_i, unW_i, cmp_gt, cmp_ge, cmp_lt, uo_abs, uo_neg, bin_add, bin_sub, map_some', nm_if, tru_b, List.set_cons_succ, List.set_cons_zero, Nat.reduceAdd, Nat.reduceSub, Nat.reduceLT, Int.reduceLE, Int.reduceToNat, and_true, true_and, decide_true, decide_false, if_true, if_false, ite_true, ite_false, Bool.false_eq_true, Nat.zero_add, Nat.lt_irrefl, Int.reduceNeg, Int.reduceLT, Nat.zero_lt_succ, Int.le_refl, xor_f, xor_t, pureWs_p, pureWs_0, sizeLine, Nat.reducePow, Nat.reduceLeDiff, Nat.zero_le, g1, g2, g3, call_pen e1, call_pen e2, call_pen e3, subW_p, hsub, eqW_int, sl1_0, sl2_0, sl2_1, sl3_0, sl3_1, sl3_2, mk1_2 tb _ 0 f0 f1, List.append_nil, setAll, Int.reduceEq]
      · refine ⟨1, [(("word" : Str), .str "odd"), (("parts" : Str), .tup [z0.2, z1.2])], "odd", [z0.2, z1.2], [], true, a4, r4, ?_, ⟨rfl, rfl, .inr (.inl ⟨rfl, rfl, rfl⟩), good, few, .inl rfl⟩, by omega, by omega⟩
        unfold runB
        simp only [O8_run, exSs, exS, evT, ev_var, ev_cst, ev_bin, ev_neg, ev_cmp, ev_eqo, ev_boo, ev_chn, ev_and, ev_or, ev_not, ev_ife, ev_tup, ev_lst, ev_newl, ev_sub, ev_slc, ev_ixi, ev_att, ev_pri, ev_isi, ev_call, ev_make, ev_meth, ev_sup, ev_bm, ev_frz, ev_cname, ev_opr, ev_one, ev_lamc, evEs, FD.R.bind, FD.R.out, List.map_cons, List.map_nil, List.length_cons, List.length_nil, List.replicate, List.cons_append, List.nil_append, List.getElem?_cons_zero, List.getElem?_cons_succ, c3_0, c3_1, c3_2, of_some, view_p, view_b, views_1, views_2, pri_int, pri_intb, pri_lenl, pri_tupl, pri_tupt, pri_lstt, opW_i, unW_i, cmp_gt, cmp_ge, cmp_lt, uo_abs, uo_neg, bin_add, bin_sub, map_some', nm_if, tru_b, List.set_cons_succ, List.set_cons_zero, Nat.reduceAdd, Nat.reduceSub, Nat.reduceLT, Int.reduceLE, Int.reduceToNat, and_true, true_and, decide_true, decide_false, if_true, if_false, ite_true, ite_false, Bool.false_eq_true, Nat.zero_add, Nat.lt_irrefl, Int.reduceNeg, Int.reduceLT, Nat.zero_lt_succ, Int.le_refl, xor_f, xor_t, pureWs_p, pureWs_0, sizeLine, Nat.reducePow, Nat.reduceLeDiff, Nat.zero_le, g1, g2, g3, call_pen e1, call_pen e2, call_pen e3, subW_p, hsub, eqW_int, sl1_0, sl2_0, sl2_1, sl3_0, sl3_1, sl3_2, mk1_2 tb _ 1 f0 f1, List.append_nil, setAll, Int.reduceEq]
    · obtain ⟨z0, z1, z2, rfl⟩ := len3 (show zs.length = 3 from hzl)
      have f0 := hf z0 (by simp)
      have f1 := hf z1 (by simp)
      have f2 := hf z2 (by simp)
      rcases hd with rfl | rfl
      · refine ⟨0, [(("word" : Str), .str "odd"), (("parts" : Str), .tup [z0.2, z1.2, z2.2])], "odd", [z0.2, z1.2, z2.2], [], false, a4, r4, ?_, ⟨rfl, rfl, .inl ⟨rfl, rfl, rfl⟩, good, few, .inl rfl⟩, by omega, by omega⟩
        unfold runB
        simp only [O8_run, exSs, exS, evT, ev_var, ev_cst, ev_bin, ev_neg, ev_cmp, ev_eqo, ev_boo, ev_chn, ev_and, ev_or, ev_not, ev_ife, ev_tup, ev_lst, ev_newl, ev_sub, ev_slc, ev_ixi, ev_att, ev_pri, ev_isi, ev_call, ev_make, ev_meth, ev_sup, ev_bm, ev_frz, ev_cname, ev_opr, ev_one, ev_lamc, evEs, FD.R.bind, FD.R.out, List.map_cons, List.map_nil, List.length_cons, List.length_nil, List.replicate, List.cons_append, List.nil_append, List.getElem?_cons_zero, List.getElem?_cons_succ, c3_0, c3_1, c3_2, of_some, view_p, view_b, views_1, views_2, pri_int, pri_intb, pri_lenl, pri_tupl, pri_tupt, pri_lstt, opW_i, unW_i, cmp_gt, cmp_ge, cmp_lt, uo_abs, uo_neg, bin_add, bin_sub, map_some', nm_if, tru_b, List.set_cons_succ, List.set_cons_zero, Nat.reduceAdd, Nat.reduceSub, Nat.reduceLT, Int.reduceLE, Int.reduceToNat, and_true, true_and, decide_true, decide_false, if_true, if_false, ite_true, ite_false, Bool.false_eq_true, Nat.zero_add, Nat.lt_irrefl, Int.reduceNeg, Int.reduceLT, Nat.zero_lt_succ, Int.le_refl, xor_f, xor_t, pureWs_p, pureWs_0, sizeLine, Nat.reducePow, Nat.reduceLeDiff, Nat.zero_le, g1, g2, g3, call_pen e1, call_pen e2, call_pen e3, subW_p, hsub, eqW_int, sl1_0, sl2_0, sl2_1, sl3_0, sl3_1, sl3_2, mk1_3 tb _ 0 f0 f1 f2, List.append_nil, setAll, Int.reduceEq]
      · refine ⟨1, [(("word" : Str), .str "odd"), (("parts" : Str), .tup [z0.2, z1.2, z2.2])], "odd", [z0.2, z1.2, z2.2], [], true, a4, r4, ?_, ⟨rfl, rfl, .inr (.inl ⟨rfl, rfl, rfl⟩), good, few, .inl rfl⟩, by omega, by omega⟩
        unfold runB
        simp only [O8_run, exSs, exS, evT, ev_var, ev_cst, ev_bin, ev_neg, ev_cmp, ev_eqo, ev_boo, ev_chn, ev_and, ev_or, ev_not, ev_ife, ev_tup, ev_lst, ev_newl, ev_sub, ev_slc, ev_ixi, ev_att, ev_pri, ev_isi, ev_call, ev_make, ev_meth, ev_sup, ev_bm, ev_frz, ev_cname, ev_opr, ev_one, ev_lamc, evEs, FD.R.bind, FD.R.out, List.map_cons, List.map_nil, List.length_cons, List.length_nil, List.replicate, List.cons_append, List.nil_append, List.getElem?_cons_zero, List.getElem?_cons_succ, c3_0, c3_1, c3_2, of_some, view_p, view_b, views_1, views_2, pri_int, pri_intb, pri_lenl, pri_tupl, pri_tupt, pri_lstt, opW_i, unW_i, cmp_gt, cmp_ge, cmp_lt, uo_abs, uo_neg, bin_add, bin_sub, map_some', nm_if, tru_b, List.set_cons_succ, List.set_cons_zero, Nat.reduceAdd, Nat.reduceSub, Nat.reduceLT, Int.reduceLE, Int.reduceToNat, and_true, true_and, decide_true, decide_false, if_true, if_false, ite_true, ite_false, Bool.false_eq_true, Nat.zero_add, Nat.lt_irrefl, Int.reduceNeg, Int.reduceLT, Nat.zero_lt_succ, Int.le_refl, xor_f, xor_t, pureWs_p, pureWs_0, sizeLine, Nat.reducePow, Nat.reduceLeDiff, Nat.zero_le, g1, g2, g3, call_pen e1, call_pen e2, call_pen e3, subW_p, hsub, eqW_int, sl1_0, sl2_0, sl2_1, sl3_0, sl3_1, sl3_2, mk1_3 tb _ 1 f0 f1 f2, List.append_nil, setAll, Int.reduceEq]
end FD

set_option Elab.async false
set_option linter.all false
set_option autoImplicit false
set_option maxRecDepth 100000
set_option maxHeartbeats 4000000
/-! K08i: the plain law of k08: texts. -/
namespace FD
open PySem PySem.Spec PyProof.Rows L2
/-- a text that is not long, without wild signs -/
def TT (L : Nat) (x : Str) : Prop := x.length ≤ L ∧ PyData.strOk x = true
theorem TT.mono {L M : Nat} {x : Str} (h : TT L x) (hl : L ≤ M) : TT M x := ⟨Nat.le_trans h.1 hl, h.2⟩
theorem tt_app {L M : Nat} {x y : Str} (h : TT L x) (g : TT M y) : TT (L + M) (x ++ y) := by
  refine ⟨?_, ?_⟩
  · rw [strLen_append]
    exact Nat.add_le_add h.1 g.1
  · have h2 : (x.cps.all fun c => decide (c < 0x110000)) = true := h.2
    have g2 : (y.cps.all fun c => decide (c < 0x110000)) = true := g.2
    show ((x ++ y).cps.all fun c => decide (c < 0x110000)) = true
    have e : (x ++ y).cps = x.cps ++ y.cps := rfl
    rw [e, Array.all_append, h2, g2]
    rfl
theorem tt_lit {L : Nat} (x : Str) (h : decide (x.length ≤ L) = true) (g : PyData.strOk x = true) : TT L x := ⟨of_decide_eq_true h, g⟩
theorem text_from {M : Nat} : ∀ (ts : List Str) (k A : Nat) (acc : Str), TT A acc → (∀ t ∈ ts, TT M t) → TT (A + ts.length * (M + 2)) (textFrom k acc ts)
  | [], k, A, acc, h, _ => by
    show TT (A + 0 * (M + 2)) acc
    exact h.mono (by omega)
  | t :: r, k, A, acc, h, g => by
    have sep : TT 2 ((if k > 0 then ", " else "" : String) : Str) := by
      split
      · exact tt_lit _ (by decide) (by kernel_rfl)
      · exact tt_lit _ (by decide) (by kernel_rfl)
    have z := text_from r (k + 1) (A + 2 + M) _ (tt_app (tt_app h sep) (g t List.mem_cons_self)) fun t ht => g t (List.mem_cons_of_mem _ ht)
    refine z.mono ?_
    rw [List.length_cons, Nat.add_mul]
    omega
theorem list_text {M : Nat} {ts : List Str} (h : ∀ t ∈ ts, TT M t) : TT (ts.length * (M + 2) + 2) (listText ts) :=
  (tt_app (text_from ts 0 1 "[" (tt_lit _ (by decide) (by kernel_rfl)) h) (tt_lit (L := 1) "]" (by decide) (by kernel_rfl))).mono (by omega)
theorem join_tt {M : Nat} : ∀ {ts : List Str}, (∀ t ∈ ts, TT M t) → TT (ts.length * (M + 2)) (Str.join ", " ts)
  | [], _ => tt_lit _ (by kernel_rfl) (by kernel_rfl)
  | [x], h => (h x List.mem_cons_self).mono (by simp)
  | x :: y :: r, h => by
    have z := tt_app (tt_app (h x List.mem_cons_self) (tt_lit (L := 2) ", " (by decide) (by kernel_rfl))) (join_tt (ts := y :: r) fun t ht => h t (List.mem_cons_of_mem _ ht))
    refine TT.mono (x := Str.join ", " (x :: y :: r)) z ?_
    simp only [List.length_cons, Nat.add_mul, Nat.one_mul]
    omega
theorem tuple_text {M : Nat} {ts : List Str} (h : ∀ t ∈ ts, TT M t) : TT (ts.length * (M + 2) + 3) (tupleText ts) := by
  have e : TT 2 ((if ts.length == 1 then ",)" else ")" : String) : Str) := by
    split
    · exact tt_lit _ (by decide) (by kernel_rfl)
    · exact tt_lit _ (by decide) (by kernel_rfl)
  exact (tt_app (tt_app (tt_lit (L := 1) "(" (by decide) (by kernel_rfl)) (join_tt h)) e).mono (by omega)
/-- data that is told -/
structure Gd (n M : Nat) (y : P) (d : PyData) : Prop where
  to : toD y = some d
  lay : d.canLay0 = true
  dep : d.depth ≤ n
  sh : d.showable = true
  nd : d.hasDict = false
  tx : TT M d.shown
structure Gds (n M : Nat) (ys : List P) (ds : List PyData) : Prop where
  to : toDs ys = some ds
  lay : PyData.canLayAll0 ds = true
  dep : PyData.depthAll ds ≤ n
  sh : PyData.showableAll ds = true
  nd : PyData.hasDictAll ds = false
  tx : ∀ t ∈ PyData.shownAll ds, TT M t
  len : (PyData.shownAll ds).length = ys.length
theorem gds_of {n M : Nat} : ∀ {ys : List P}, (∀ y ∈ ys, ∃ d, Gd n M y d) → ∃ ds, Gds n M ys ds
  | [], _ => ⟨[], rfl, rfl, Nat.zero_le _, rfl, rfl, (fun t ht => by cases ht), rfl⟩
  | y :: ys, h => by
    obtain ⟨d, g⟩ := h y List.mem_cons_self
    obtain ⟨ds, gs⟩ := gds_of (ys := ys) fun z hz => h z (List.mem_cons_of_mem _ hz)
    refine ⟨d :: ds, ?_, ?_, ?_, ?_, ?_, ?_, ?_⟩
    · unfold toDs
      rw [g.to, gs.to]
    · show (d.canLay0 && PyData.canLayAll0 ds) = true
      rw [g.lay, gs.lay]; rfl
    · show max d.depth (PyData.depthAll ds) ≤ n
      have := g.dep
      have := gs.dep
      omega
    · show (d.showable && PyData.showableAll ds) = true
      rw [g.sh, gs.sh]; rfl
    · show (d.hasDict || PyData.hasDictAll ds) = false
      rw [g.nd, gs.nd]; rfl
    · intro t ht
      rcases List.mem_cons.mp (show t ∈ d.shown :: PyData.shownAll ds from ht) with q | q
      · rw [q]; exact g.tx
      · exact gs.tx t q
    · show (d.shown :: PyData.shownAll ds).length = _
      rw [List.length_cons, gs.len, List.length_cons]
theorem gd_tup {n M : Nat} {ys : List P} {ds : List PyData} (g : Gds n M ys ds) : Gd (n + 1) (ys.length * (M + 2) + 3) (.tup ys) (.tuple ds) := by
  refine ⟨?_, g.lay, ?_, g.sh, g.nd, ?_⟩
  · unfold toD
    rw [g.to]
  · show PyData.depthAll ds + 1 ≤ n + 1
    have := g.dep
    omega
  · rw [← g.len]
    exact tuple_text g.tx
theorem gd_lst {n M : Nat} {ys : List P} {ds : List PyData} (g : Gds n M ys ds) : Gd (n + 1) (ys.length * (M + 2) + 3) (.lst ys) (.list ds) := by
  refine ⟨?_, g.lay, ?_, g.sh, g.nd, ?_⟩
  · unfold toD
    rw [g.to]
  · show PyData.depthAll ds + 1 ≤ n + 1
    have := g.dep
    omega
  · rw [← g.len]
    exact (list_text g.tx).mono (by omega)
theorem Gd.mono {n m M L : Nat} {y : P} {d : PyData} (g : Gd n M y d) (h : n ≤ m) (hl : M ≤ L) : Gd m L y d := ⟨g.to, g.lay, Nat.le_trans g.dep h, g.sh, g.nd, g.tx.mono hl⟩
def tsz : Nat → Nat
  | 0 => 30
  | n + 1 => 3 * (tsz n + 2) + 3
theorem tsz_30 : ∀ n, 30 ≤ tsz n
  | 0 => Nat.le_refl _
  | n + 1 => by
    have := tsz_30 n
    show 30 ≤ 3 * (tsz n + 2) + 3
    omega
theorem gd_leaf {x : P} (h : x ∈ leafs) : ∃ d, Gd 1 30 x d := by
  unfold leafs at h
  simp only [List.mem_cons, List.not_mem_nil, or_false] at h
  rcases h with h | h | h | h | h | h | h | h <;> subst h
  · exact ⟨.none, rfl, rfl, by decide, rfl, rfl, tt_lit _ (by decide +kernel) (by decide +kernel)⟩
  · exact ⟨.bool true, rfl, rfl, by decide, rfl, rfl, tt_lit _ (by decide +kernel) (by decide +kernel)⟩
  · exact ⟨.int 0, rfl, rfl, by decide, by decide +kernel, rfl, tt_lit _ (by decide +kernel) (by decide +kernel)⟩
  · exact ⟨.int (-3), rfl, rfl, by decide, by decide +kernel, rfl, tt_lit _ (by decide +kernel) (by decide +kernel)⟩
  · exact ⟨.int (10 ^ 20), rfl, rfl, by decide, by decide +kernel, rfl, tt_lit _ (by decide +kernel) (by decide +kernel)⟩
  · exact ⟨.str "word", rfl, by decide +kernel, by decide, rfl, rfl, tt_lit _ (by decide +kernel) (by decide +kernel)⟩
  · exact ⟨.str "", rfl, by decide +kernel, by decide, rfl, rfl, tt_lit _ (by decide +kernel) (by decide +kernel)⟩
  · exact ⟨.tuple [], rfl, rfl, by decide, rfl, rfl, tt_lit _ (by decide +kernel) (by decide +kernel)⟩
theorem gd_fix : ∀ (n : Nat) (x y : P), Fixd n x y → ∃ d, Gd (n + 1) (tsz n) y d := by
  have up : ∀ {n : Nat} {zs : List (P × P)}, zs.length ≤ 3 → (∀ z ∈ zs, ∃ d, Gd (n + 1) (tsz n) z.2 d) → ∃ d, Gd (n + 2) (tsz (n + 1)) (.tup (zs.map (·.2))) d := fun {n zs} hl h => by
    obtain ⟨ds, g⟩ := gds_of (ys := zs.map (·.2)) fun y hy => by
      obtain ⟨z, hz, rfl⟩ := List.mem_map.mp hy
      exact h z hz
    refine ⟨_, (gd_tup g).mono (Nat.le_refl _) ?_⟩
    rw [List.length_map]
    have : zs.length * (tsz n + 2) ≤ 3 * (tsz n + 2) := Nat.mul_le_mul_right _ hl
    show _ ≤ 3 * (tsz n + 2) + 3
    omega
  intro n
  induction n with
  | zero =>
    intro x y h
    cases h with
    | leaf h => exact gd_leaf h
  | succ n ih =>
    intro x y h
    cases h with
    | leaf h =>
      obtain ⟨d, g⟩ := gd_leaf h
      exact ⟨d, g.mono (by omega) (tsz_30 _)⟩
    | lst zs hl h => exact up hl fun z hz => ih _ _ (h z hz)
    | tup zs hl h => exact up hl fun z hz => ih _ _ (h z hz)
/-- what is told of a paper's parts -/
theorem parts_d {ys : List P} (h : ∀ y ∈ ys, Ym y) : ∃ ds, Gds 4 (tsz 3) ys ds := gds_of fun y hy => by
  obtain ⟨x, f⟩ := h y hy
  exact gd_fix 3 x y f
theorem shaped_of {n M : Nat} {y : P} {d : PyData} (g : Gd n M y d) (hn : n ≤ 64) : SeqAt.shaped d = true := by
  unfold SeqAt.shaped
  rw [g.lay, decide_eq_true (Nat.le_trans g.dep hn)]
  rfl
theorem eq_gd {n M : Nat} {y z : P} {d e : PyData} (g : Gd n M y d) (h : Gd n M z e) (hn : n ≤ 64) : eqP y z = some (PyData.eqv d e) := by
  unfold eqP
  rw [g.to, h.to]
  dsimp only
  rw [shaped_of g hn, shaped_of h hn]
  rfl
theorem eq_txt {L : Nat} {x : Str} (h : TT L x) : eqP (.str x) (.str x) = some true := by
  have s : SeqAt.shaped (.str x) = true := by
    unfold SeqAt.shaped
    show (PyData.strOk x && decide (PyData.depth (.str x) ≤ 64)) = true
    rw [h.2]
    rfl
  have e : PyData.eqv (.str x) (.str x) = true := by
    show (x == x) = true
    exact beq_self_eq_true x
  show (if (SeqAt.shaped (.str x) && SeqAt.shaped (.str x)) = true then some (PyData.eqv (.str x) (.str x)) else none) = _
  rw [s, e]
  rfl
/-- repr of such data -/
theorem repr_gd {n M : Nat} {y : P} {d : PyData} (g : Gd n M y d) (hn : n ≤ 60) (hM : M ≤ 100000) : priP .repr [y] = some (.str d.shown) ∧ eqP (.str d.shown) (.str d.shown) = some true := by
  refine ⟨?_, eq_txt g.tx⟩
  have hz : d.shown.length ≤ sizeLine := by
    have : (100000 : Nat) ≤ sizeLine := by decide
    have := g.tx.1
    omega
  show (match toD y with
    | some d => if (d.showable && !d.hasDict && decide (d.depth ≤ 60) && decide (d.shown.length ≤ sizeLine)) = true then some (P.str d.shown) else none
    | none => none) = _
  rw [g.to]
  dsimp only
  rw [g.sh, g.nd, decide_eq_true (Nat.le_trans g.dep hn), decide_eq_true hz]
  rfl
end FD

set_option Elab.async false
set_option linter.all false
set_option autoImplicit false
set_option maxRecDepth 100000
set_option maxHeartbeats 4000000
/-! K08j: the plain law of k08: what the law asks of a paper, of two. -/
namespace FD
open PySem PySem.Spec PyProof.Rows L2
def b14 : List Sm := [.asg (.tup (.cons (.nm 3) (.cons (.nm 4) (.cons (.nm 5) (.cons (.nm 6) (.cons (.nm 7) .nil)))))) (.call 12 (.cons (.var 1) .nil) .nil [.a 0]), .ifs (.or (.eqo true (.pri .repr (.cons (.lst (.cons (.att (.var 3) "word") (.cons (.att (.var 3) "parts") .nil))) .nil)) (.pri .repr (.cons (.lst (.cons (.var 4) (.cons (.var 5) .nil))) .nil))) (.or (.eqo false (.boo (.var 3)) (.var 7)) (.or (.eqo true (.isi (.var 3) [.own 1]) (.var 7)) (.not (.e (.isi (.var 3) [.own 0])))))) [.ret (.cst (.bl false))] [], .ifs (.and (.eqo true (.var 6) (.lst .nil)) (.eqo true (.pri .repr (.cons (.call 13 (.cons (.var 3) (.cons (.var 4) .nil)) .nil [.a 0, .a 1]) .nil)) (.pri .repr (.cons (.pri .list (.cons (.var 5) .nil)) .nil)))) [.ret (.cst (.bl false))] [], .asg (.tup (.cons (.nm 8) (.cons (.nm 9) (.cons (.nm 10) (.cons (.nm 11) (.cons (.nm 12) .nil)))))) (.call 12 (.cons (.var 1) .nil) .nil [.a 0]), .ifs (.or (.eqo true (.eqo false (.var 3) (.var 8)) (.and (.eqo false (.var 9) (.var 4)) (.and (.eqo false (.var 10) (.var 5)) (.eqo false (.var 12) (.var 7))))) (.eqo false (.eqo true (.var 3) (.var 8)) (.eqo false (.var 3) (.var 8)))) [.ret (.cst (.bl false))] []]
def t14 : List Sm := [.asg (.nm 13) (.newl (.cons (.cst (.int (1))) (.cons (.newl (.cons (.cst (.int (2))) (.cons (.cst (.int (3))) .nil))) .nil))), .par [14, 15] (.cons (.make 2 5 (.cons (.var 13) (.cons (.var 13) .nil)) .nil [.a 0, .a 1, .a 2]) (.cons (.make 2 5 (.cons (.tup (.cons (.cst (.int (1))) (.cons (.tup (.cons (.cst (.int (2))) (.cons (.cst (.int (3))) .nil))) .nil))) (.cons (.lst (.cons (.cst (.int (1))) (.cons (.tup (.cons (.cst (.int (2))) (.cons (.cst (.int (3))) .nil))) .nil))) .nil)) .nil [.a 0, .a 1, .a 2]) .nil)), .expr (.bm .append (.sub (.var 13) (.cst (.int (1)))) (.cons (.cst (.int (4))) .nil)), .ifs (.or (.eqo true (.var 14) (.var 15)) (.or (.eqo true (.att (.var 14) "flows") (.tup (.cons (.cst (.int (1))) (.cons (.tup (.cons (.cst (.int (2))) (.cons (.cst (.int (3))) .nil))) .nil)))) (.or (.eqo false (.var 14) (.make 2 5 (.cons (.tup (.cons (.cst (.int (1))) (.cons (.tup (.cons (.cst (.int (2))) (.cons (.cst (.int (4))) .nil))) .nil))) (.cons (.tup (.cons (.cst (.int (1))) (.cons (.tup (.cons (.cst (.int (2))) (.cons (.cst (.int (3))) .nil))) .nil))) .nil)) .nil [.a 0, .a 1, .a 2])) (.eqo false (.var 14) (.make 0 1 (.cons (.cst (.str "flow")) (.cons (.tup (.cons (.cst (.int (1))) (.cons (.tup (.cons (.cst (.int (2))) (.cons (.cst (.int (3))) .nil))) .nil))) (.cons (.tup (.cons (.cst (.int (1))) (.cons (.tup (.cons (.cst (.int (2))) (.cons (.cst (.int (3))) .nil))) .nil))) .nil))) .nil [.a 0, .a 1, .star 2]))))) [.ret (.cst (.bl false))] [], .asg (.nm 16) (.make 3 6 (.cons (.cst (.int (1))) (.cons (.lst (.cons (.cst (.int (0))) .nil)) (.cons (.var 14) .nil))) .nil [.a 0, .a 1, .a 2, .a 3]), .ifs (.or (.eqo true (.var 16) (.make 3 6 (.cons (.cst (.int (1))) (.cons (.tup (.cons (.cst (.int (0))) .nil)) (.cons (.var 15) .nil))) .nil [.a 0, .a 1, .a 2, .a 3])) (.or (.eqo false (.var 16) (.make 3 6 (.cons (.cst (.int (2))) (.cons (.tup (.cons (.cst (.int (0))) .nil)) (.cons (.var 15) .nil))) .nil [.a 0, .a 1, .a 2, .a 3])) (.or (.eqo false (.var 16) (.tup (.cons (.cst (.int (1))) (.cons (.tup (.cons (.cst (.int (0))) .nil)) (.cons (.var 15) .nil))))) (.eqo true (.att (.var 16) "flow") (.var 14))))) [.ret (.cst (.bl false))] [], .ret (.and (.eqo false (.make 0 1 (.cons (.cst (.str "a")) (.cons (.cst (.int (1))) .nil)) .nil [.a 0, .a 1, .star 2]) (.make 0 1 (.cons (.cst (.str "a")) (.cons (.cst (.int (1))) .nil)) .nil [.a 0, .a 1, .star 2])) (.and (.eqo true (.make 0 1 (.cons (.cst (.str "a")) (.cons (.cst (.int (1))) .nil)) .nil [.a 0, .a 1, .star 2]) (.make 0 1 (.cons (.cst (.str "b")) (.cons (.cst (.int (1))) .nil)) .nil [.a 0, .a 1, .star 2])) (.and (.eqo true (.make 0 1 (.cons (.cst (.str "a")) (.cons (.cst (.int (1))) .nil)) .nil [.a 0, .a 1, .star 2]) (.make 1 1 (.cons (.cst (.str "a")) (.cons (.cst (.int (1))) .nil)) .nil [.a 0, .a 1, .star 2])) (.and (.eqo true (.make 1 1 (.cons (.cst (.str "a")) .nil) .nil [.a 0, .a 1, .star 2]) (.make 0 1 (.cons (.cst (.str "a")) .nil) .nil [.a 0, .a 1, .star 2])) (.eqo false (.make 4 7 (.cons (.cst (.int (1))) (.cons (.cst (.int (2))) (.cons (.cst (.int (3))) .nil))) .nil [.a 0, .a 1, .a 2, .a 3]) (.make 4 7 (.cons (.cst (.int (1))) (.cons (.cst (.int (2))) (.cons (.cst (.int (3))) .nil))) .nil [.a 0, .a 1, .a 2, .a 3]))))))]
theorem h14 (tb : Addr) : (L08.fns tb)[14]? = some ⟨1, 17, .asg (.nm 1) (.call 8 (.cons (.var 0) .nil) .nil [.a 0]) :: .for_ (.rng (.cst (.int 8))) (.nm 2) b14 :: t14⟩ := h08_14 tb
theorem bl_eq (O : Or) (neg a b : Bool) (S : Store) : eqW O neg (.p (.bl a)) (.p (.bl b)) S = .ok (a == b) S := by
  refine eqW_of rfl rfl rfl ?_
  cases a <;> cases b <;> rfl
theorem att_w {c : Nat} {fs : List (Str × P)} {f : Str} {p : P} (S : Store) (h : fs.lookup f = some p) : attW S f (.p (.ins c fs)) = some (.p p) := by
  show (fs.lookup f).map W.p = _
  rw [h]
  rfl
section
variable {tb : Addr} {c c1 c2 : Nat} {fs fs1 fs2 : List (Str × P)} {w w1 w2 : Str} {ys ys1 ys2 nms nms1 nms2 : List P} {den den1 den2 : Bool} {S : Store}
theorem tru_pap (p : Pap tb c fs w ys nms den) : truW (O8 tb 11) (.p (.ins c fs)) S = .ok (!den) S := by
  have two : ∀ x : P, runP (L08.fns tb) L08.or 11 2 [.p x] [] = .ok (.p (.bl true)) [] := fun x => (run8 (k := 10) (h08_2 tb) rfl).trans rfl
  have four : ∀ x : P, runP (L08.fns tb) L08.or 11 4 [.p x] [] = .ok (.p (.bl false)) [] := fun x => (run8 (k := 10) (h08_4 tb) rfl).trans rfl
  have fin : ∀ (f : Nat) (b : Bool), (O8 tb 11).meth c "__bool__" 0 [] = some (f, [.a 0]) → (∀ x : P, runP (L08.fns tb) L08.or 11 f [.p x] [] = .ok (.p (.bl b)) []) → truW (O8 tb 11) (.p (.ins c fs)) S = .ok b S := fun f b h1 h2 => by
    show (match (O8 tb 11).meth c "__bool__" 0 [] with
      | some (f, pm) => boolR (callW (arr pm ((O8 tb 11).run f)) [.p (.ins c fs)] S)
      | none => .bad) = _
    rw [h1]
    show boolR (callW (arr [.a 0] (runP (L08.fns tb) L08.or 11 f)) [.p (.ins c fs)] S) = _
    rw [call_1 (run := arr [.a 0] (runP (L08.fns tb) L08.or 11 f)) (h2 (.ins c fs))]
    rfl
  rcases p.kind with ⟨rfl, _, rfl⟩ | ⟨rfl, _, rfl⟩ | ⟨rfl, _, rfl⟩ | ⟨rfl, _, rfl⟩ | ⟨rfl, _, rfl⟩
  · exact fin 2 true (by kernel_rfl) two
  · exact fin 4 false (by kernel_rfl) four
  · exact fin 2 true (by kernel_rfl) two
  · exact fin 2 true (by kernel_rfl) two
  · exact fin 4 false (by kernel_rfl) four
theorem isi_1 (p : Pap tb c fs w ys nms den) (k : Nat) : isiAny (O8 tb k) (.ins c fs) [.own 1] = some den := by
  rcases p.kind with ⟨rfl, _, rfl⟩ | ⟨rfl, _, rfl⟩ | ⟨rfl, _, rfl⟩ | ⟨rfl, _, rfl⟩ | ⟨rfl, _, rfl⟩ <;> kernel_rfl
theorem isi_0 (p : Pap tb c fs w ys nms den) (k : Nat) : isiAny (O8 tb k) (.ins c fs) [.own 0] = some true := by
  rcases p.kind with ⟨rfl, _, rfl⟩ | ⟨rfl, _, rfl⟩ | ⟨rfl, _, rfl⟩ | ⟨rfl, _, rfl⟩ | ⟨rfl, _, rfl⟩ <;> kernel_rfl
/-- its word and its parts, as text -/
theorem rep_word (p : Pap tb c fs w ys nms den) : ∃ R, priP .repr [.lst [.str w, .tup ys]] = some (.str R) ∧ eqP (.str R) (.str R) = some true := by
  obtain ⟨ds, g⟩ := parts_d p.good
  have hw : ∃ d, Gd 5 2000 (.str w) d := by
    rcases p.kind with ⟨_, rfl, _⟩ | ⟨_, rfl, _⟩ | ⟨_, rfl, _⟩ | ⟨_, rfl, _⟩ | ⟨_, rfl, _⟩ <;>
      exact ⟨.str _, rfl, by decide +kernel, by decide, rfl, rfl, tt_lit _ (by decide +kernel) (by decide +kernel)⟩
  have hp : ∃ d, Gd 5 10000 (.tup ys) d := by
    refine ⟨_, (gd_tup g).mono (by decide) ?_⟩
    have : ys.length * (tsz 3 + 2) ≤ 3 * (tsz 3 + 2) := Nat.mul_le_mul_right _ p.few
    have : 3 * (tsz 3 + 2) + 3 ≤ 10000 := by decide
    omega
  obtain ⟨ds2, g2⟩ := gds_of (n := 5) (M := 10000) (ys := [.str w, .tup ys]) fun y hy => by
    rcases List.mem_cons.mp hy with q | q
    · rw [q]
      obtain ⟨d, h⟩ := hw
      exact ⟨d, h.mono (Nat.le_refl _) (by decide)⟩
    · rw [List.mem_singleton.mp q]
      exact hp
  obtain ⟨h1, h2⟩ := repr_gd (gd_lst g2) (by decide) (by show 2 * (10000 + 2) + 3 ≤ 100000; decide)
  exact ⟨_, h1, h2⟩
theorem rep_parts (p : Pap tb c fs w ys nms den) : ∃ R, priP .repr [.lst ys] = some (.str R) ∧ eqP (.str R) (.str R) = some true := by
  obtain ⟨ds, g⟩ := parts_d p.good
  have : ys.length * (tsz 3 + 2) ≤ 3 * (tsz 3 + 2) := Nat.mul_le_mul_right _ p.few
  obtain ⟨h1, h2⟩ := repr_gd (gd_lst g) (by decide) (by
    have : 3 * (tsz 3 + 2) + 3 ≤ 100000 := by decide
    omega)
  exact ⟨_, h1, h2⟩
/-- the two papers' parts -/
theorem parts_eq (p : Pap tb c1 fs1 w1 ys1 nms1 den1) (q : Pap tb c2 fs2 w2 ys2 nms2 den2) : ∃ k, eqP (.tup ys1) (.tup ys2) = some k ∧ eqP (.tup ys2) (.tup ys1) = some k := by
  obtain ⟨ds1, g1⟩ := parts_d p.good
  obtain ⟨ds2, g2⟩ := parts_d q.good
  have m1 : ys1.length * (tsz 3 + 2) ≤ 3 * (tsz 3 + 2) := Nat.mul_le_mul_right _ p.few
  have m2 : ys2.length * (tsz 3 + 2) ≤ 3 * (tsz 3 + 2) := Nat.mul_le_mul_right _ q.few
  have t1 : Gd 5 (3 * (tsz 3 + 2) + 3) (.tup ys1) (.tuple ds1) := (gd_tup g1).mono (by decide) (by omega)
  have t2 : Gd 5 (3 * (tsz 3 + 2) + 3) (.tup ys2) (.tuple ds2) := (gd_tup g2).mono (by decide) (by omega)
  refine ⟨_, eq_gd t1 t2 (by decide), ?_⟩
  rw [eq_gd t2 t1 (by decide), PySem.W.eqv_comm]
/-- paper == other, run -/
theorem eq_run (p : Pap tb c1 fs1 w1 ys1 nms1 den1) (q : Pap tb c2 fs2 w2 ys2 nms2 den2) {k : Bool} (hk : eqP (.tup ys1) (.tup ys2) = some k) : runP (L08.fns tb) L08.or 11 3 [.p (.ins c1 fs1), .p (.ins c2 fs2)] [] = .ok (.p (.bl (decide (c1 = c2) && k))) [] := by
  have hn : eqP (.str ((O8 tb 10).cnm c1)) (.str ((O8 tb 10).cnm c2)) = some (decide (c1 = c2)) := by
    rcases p.kind with ⟨rfl, _⟩ | ⟨rfl, _⟩ | ⟨rfl, _⟩ | ⟨rfl, _⟩ | ⟨rfl, _⟩ <;> rcases q.kind with ⟨rfl, _⟩ | ⟨rfl, _⟩ | ⟨rfl, _⟩ | ⟨rfl, _⟩ | ⟨rfl, _⟩ <;> kernel_rfl
  have i1 : ∀ S, insOf S (.p (.ins c1 fs1)) = some c1 := fun _ => rfl
  have i2 : ∀ S, insOf S (.p (.ins c2 fs2)) = some c2 := fun _ => rfl
  have en := fun (neg : Bool) (S : Store) => eqW_str (O := O8 tb 10) (neg := neg) (S := S) hn
  have ep := fun (S : Store) => eqW_of (O := O8 tb 10) (neg := false) (S := S) (x := .p (.tup ys1)) (y := .p (.tup ys2)) rfl rfl rfl hk
  refine (run8 (k := 10) (h08_3 tb) rfl).trans ?_
  unfold runB
  by_cases hc : c1 = c2
  · have hw : eqP (.str w1) (.str w2) = some true := by
      rcases p.kind with ⟨rfl, rfl, _⟩ | ⟨rfl, rfl, _⟩ | ⟨rfl, rfl, _⟩ | ⟨rfl, rfl, _⟩ | ⟨rfl, rfl, _⟩ <;> rcases q.kind with ⟨rfl, rfl, _⟩ | ⟨rfl, rfl, _⟩ | ⟨rfl, rfl, _⟩ | ⟨rfl, rfl, _⟩ | ⟨rfl, rfl, _⟩ <;> first | (exact absurd hc (by decide)) | kernel_rfl
    have ew := fun (S : Store) => eqW_str (O := O8 tb 10) (neg := false) (S := S) hw
    have d : decide (c1 = c2) = true := decide_eq_true hc
    simp only [O8_run, exSs, exS, evT, ev_var, ev_cst, ev_bin, ev_neg, ev_cmp, ev_eqo, ev_boo, ev_chn, ev_and, ev_or, ev_not, ev_ife, ev_tup, ev_lst, ev_newl, ev_sub, ev_slc, ev_ixi, ev_att, ev_pri, ev_isi, ev_call, ev_make, ev_meth, ev_sup, ev_bm, ev_frz, ev_cname, ev_opr, ev_one, ev_lamc, evEs, FD.R.bind, FD.R.out, List.map_cons, List.map_nil, List.length_cons, List.length_nil, List.replicate, List.cons_append, List.nil_append, List.getElem?_cons_zero, List.getElem?_cons_succ, c3_0, c3_1, c3_2, of_some, view_p, view_b, views_1, views_2, pri_int, pri_intb, pri_lenl, pri_tupl, pri_tupt, pri_lstt, opW_i, unW_i, cmp_gt, cmp_ge, cmp_lt, uo_abs, uo_neg, bin_add, bin_sub, map_some', nm_if, tru_b, List.set_cons_succ, List.set_cons_zero, Nat.reduceAdd, Nat.reduceSub, Nat.reduceLT, Int.reduceLE, Int.reduceToNat, and_true, true_and, decide_true, decide_false, if_true, if_false, ite_true, ite_false, Bool.false_eq_true, Nat.zero_add, Nat.lt_irrefl, Int.reduceNeg, Int.reduceLT, Nat.zero_lt_succ, Int.le_refl, xor_f, xor_t, pureWs_p, pureWs_0, sizeLine, Nat.reducePow, Nat.reduceLeDiff, Nat.zero_le, isi_0 q 10, i1, i2, en, d, Bool.not_true, Bool.not_false, att_w _ p.word, att_w _ q.word, att_w _ p.parts, att_w _ q.parts, ew, ep, Bool.true_and]
  · have d : decide (c1 = c2) = false := decide_eq_false hc
    simp only [O8_run, exSs, exS, evT, ev_var, ev_cst, ev_bin, ev_neg, ev_cmp, ev_eqo, ev_boo, ev_chn, ev_and, ev_or, ev_not, ev_ife, ev_tup, ev_lst, ev_newl, ev_sub, ev_slc, ev_ixi, ev_att, ev_pri, ev_isi, ev_call, ev_make, ev_meth, ev_sup, ev_bm, ev_frz, ev_cname, ev_opr, ev_one, ev_lamc, evEs, FD.R.bind, FD.R.out, List.map_cons, List.map_nil, List.length_cons, List.length_nil, List.replicate, List.cons_append, List.nil_append, List.getElem?_cons_zero, List.getElem?_cons_succ, c3_0, c3_1, c3_2, of_some, view_p, view_b, views_1, views_2, pri_int, pri_intb, pri_lenl, pri_tupl, pri_tupt, pri_lstt, opW_i, unW_i, cmp_gt, cmp_ge, cmp_lt, uo_abs, uo_neg, bin_add, bin_sub, map_some', nm_if, tru_b, List.set_cons_succ, List.set_cons_zero, Nat.reduceAdd, Nat.reduceSub, Nat.reduceLT, Int.reduceLE, Int.reduceToNat, and_true, true_and, decide_true, decide_false, if_true, if_false, ite_true, ite_false, Bool.false_eq_true, Nat.zero_add, Nat.lt_irrefl, Int.reduceNeg, Int.reduceLT, Nat.zero_lt_succ, Int.le_refl, xor_f, xor_t, pureWs_p, pureWs_0, sizeLine, Nat.reducePow, Nat.reduceLeDiff, Nat.zero_le, isi_0 q 10, i1, i2, en, d, Bool.not_true, Bool.not_false, Bool.false_and]
/-- the other one is asked first -/
def sw (c1 c2 : Nat) : Bool := decide (c1 ≠ c2) && (c1 == 0 || (c1 == 1 && c2 == 4))
/-- paper == other -/
theorem eq_pap (p : Pap tb c1 fs1 w1 ys1 nms1 den1) (q : Pap tb c2 fs2 w2 ys2 nms2 den2) {k : Bool} (hk : eqP (.tup ys1) (.tup ys2) = some k) (hk2 : eqP (.tup ys2) (.tup ys1) = some k) (neg : Bool) (S : Store) :
    eqW (O8 tb 11) neg (.p (.ins c1 fs1)) (.p (.ins c2 fs2)) S = .ok (decide (c1 = c2) && k) S := by
  have ask : askEq (O8 tb 11) S (.p (.ins c1 fs1)) (.p (.ins c2 fs2)) = some ((3, [.a 0, .a 1]), (if sw c1 c2 = true then W.p (.ins c2 fs2) else W.p (.ins c1 fs1)), (if sw c1 c2 = true then W.p (.ins c1 fs1) else W.p (.ins c2 fs2))) := by
    rcases p.kind with ⟨rfl, _⟩ | ⟨rfl, _⟩ | ⟨rfl, _⟩ | ⟨rfl, _⟩ | ⟨rfl, _⟩ <;> rcases q.kind with ⟨rfl, _⟩ | ⟨rfl, _⟩ | ⟨rfl, _⟩ | ⟨rfl, _⟩ | ⟨rfl, _⟩ <;> kernel_rfl
  have e1 := call_2 (run := arr [.a 0, .a 1] (runP (L08.fns tb) L08.or 11 3)) (S := S) (eq_run p q hk)
  have e2 := call_2 (run := arr [.a 0, .a 1] (runP (L08.fns tb) L08.or 11 3)) (S := S) (eq_run q p hk2)
  have ec : decide (c2 = c1) = decide (c1 = c2) := by
    by_cases h : c1 = c2
    · rw [h]
    · rw [decide_eq_false h, decide_eq_false fun z => h z.symm]
  rw [ec] at e2
  show eqI (O8 tb 11) (.p (.ins c1 fs1)) (.p (.ins c2 fs2)) S = _
  unfold eqI
  rw [ask]
  cases sw c1 c2
  · show boolR (callW (arr [.a 0, .a 1] (runP (L08.fns tb) L08.or 11 3)) [.p (.ins c1 fs1), .p (.ins c2 fs2)] S) = _
    rw [e1]
    rfl
  · show boolR (callW (arr [.a 0, .a 1] (runP (L08.fns tb) L08.or 11 3)) [.p (.ins c2 fs2), .p (.ins c1 fs1)] S) = _
    rw [e2]
    rfl
theorem call_law {run : List W → Store → R W} {ns : List Int} {a r a' r' : Int} {q : P} {T : Cell} (h : run [.c 0] [pen ns a r] = .ok (.p q) [pen ns a' r']) : callW (arr [.a 0] run) [.c 1] [T, pen ns a r] = .ok (.p q) [T, pen ns a' r'] := by
  show callG (arr [.a 0] run) [1] [pen ns a r] [.c 0] [T, pen ns a r] = _
  unfold callG
  have e : arr [.a 0] run [.c 0] [pen ns a r] = .ok (.p q) [pen ns a' r'] := h
  rw [e]
  rfl
theorem bt_tup (ts : Tgs) (xs : List P) (ρ : Env) : bindTg (.tup ts) (.p (.tup xs)) ρ = bindTg.bindTgs ts (xs.map W.p) ρ := by
  rw [bindTg]
theorem bt_cons (i : Nat) (ts : Tgs) (x : W) (xs : List W) (ρ : Env) : bindTg.bindTgs (.cons (.nm i) ts) (x :: xs) ρ = if i < ρ.length then bindTg.bindTgs ts xs (ρ.set i (some x)) else none := by
  rw [bindTg.bindTgs, nm_if]
  split <;> rename_i h
  · split at h
    · rename_i z
      cases h
      rw [if_pos z]
    · cases h
  · split at h
    · cases h
    · rename_i z
      rw [if_neg z]
theorem bt_nil (ρ : Env) : bindTg.bindTgs .nil [] ρ = some ρ := by
  rw [bindTg.bindTgs]
/-- one paper -/
theorem cond2 (p : Pap tb c fs w ys nms den) {ρ : Env} (h3 : ρ[3]? = some (some (.p (.ins c fs)))) (h4 : ρ[4]? = some (some (.p (.str w)))) (h5 : ρ[5]? = some (some (.p (.tup ys)))) (h7 : ρ[7]? = some (some (.p (.bl den)))) :
    evT (O8 tb 11) (.or (.eqo true (.pri .repr (.cons (.lst (.cons (.att (.var 3) "word") (.cons (.att (.var 3) "parts") .nil))) .nil)) (.pri .repr (.cons (.lst (.cons (.var 4) (.cons (.var 5) .nil))) .nil))) (.or (.eqo false (.boo (.var 3)) (.var 7)) (.or (.eqo true (.isi (.var 3) [.own 1]) (.var 7)) (.not (.e (.isi (.var 3) [.own 0])))))) ρ S = .ok false S := by
  obtain ⟨R, r1, r2⟩ := rep_word p
  have er := fun (neg : Bool) (S : Store) => eqW_str (O := O8 tb 11) (neg := neg) (S := S) r2
  have e3 : ((!den) == den) = false := by cases den <;> rfl
  have e4 : (den == den) = true := by cases den <;> rfl
  simp only [O8_run, exSs, exS, evT, ev_var, ev_cst, ev_bin, ev_neg, ev_cmp, ev_eqo, ev_boo, ev_chn, ev_and, ev_or, ev_not, ev_ife, ev_tup, ev_lst, ev_newl, ev_sub, ev_slc, ev_ixi, ev_att, ev_pri, ev_isi, ev_call, ev_make, ev_meth, ev_sup, ev_bm, ev_frz, ev_cname, ev_opr, ev_one, ev_lamc, evEs, FD.R.bind, FD.R.out, List.map_cons, List.map_nil, List.length_cons, List.length_nil, List.replicate, List.cons_append, List.nil_append, List.getElem?_cons_zero, List.getElem?_cons_succ, c3_0, c3_1, c3_2, of_some, view_p, view_b, views_1, views_2, pri_int, pri_intb, pri_lenl, pri_tupl, pri_tupt, pri_lstt, opW_i, unW_i, cmp_gt, cmp_ge, cmp_lt, uo_abs, uo_neg, bin_add, bin_sub, map_some', nm_if, tru_b, List.set_cons_succ, List.set_cons_zero, Nat.reduceAdd, Nat.reduceSub, Nat.reduceLT, Int.reduceLE, Int.reduceToNat, and_true, true_and, decide_true, decide_false, if_true, if_false, ite_true, ite_false, Bool.false_eq_true, Nat.zero_add, Nat.lt_irrefl, Int.reduceNeg, Int.reduceLT, Nat.zero_lt_succ, Int.le_refl, xor_f, xor_t, pureWs_p, pureWs_0, sizeLine, Nat.reducePow, Nat.reduceLeDiff, Nat.zero_le, h3, h4, h5, h7, att_w _ p.word, att_w _ p.parts, r1, er, tru_pap p, isi_1 p 11, isi_0 p 11, bl_eq, e3, e4, Bool.not_true, Bool.not_false]
theorem cond3 (p : Pap tb c fs w ys nms den) {ρ : Env} (h3 : ρ[3]? = some (some (.p (.ins c fs)))) (h4 : ρ[4]? = some (some (.p (.str w)))) (h5 : ρ[5]? = some (some (.p (.tup ys)))) (h6 : ρ[6]? = some (some (.p (.lst nms)))) :
    evT (O8 tb 11) (.and (.eqo true (.var 6) (.lst .nil)) (.eqo true (.pri .repr (.cons (.call 13 (.cons (.var 3) (.cons (.var 4) .nil)) .nil [.a 0, .a 1]) .nil)) (.pri .repr (.cons (.pri .list (.cons (.var 5) .nil)) .nil)))) ρ S = .ok false S := by
  obtain ⟨R, r1, r2⟩ := rep_parts p
  have er := fun (neg : Bool) (S : Store) => eqW_str (O := O8 tb 11) (neg := neg) (S := S) r2
  rcases p.att with rfl | ⟨a1, a2⟩
  · have en : ∀ S, eqW (O8 tb 11) true (.p (.lst [])) (.p (.lst [])) S = .ok true S := fun S => eqW_of rfl rfl rfl (by kernel_rfl)
    simp only [O8_run, exSs, exS, evT, ev_var, ev_cst, ev_bin, ev_neg, ev_cmp, ev_eqo, ev_boo, ev_chn, ev_and, ev_or, ev_not, ev_ife, ev_tup, ev_lst, ev_newl, ev_sub, ev_slc, ev_ixi, ev_att, ev_pri, ev_isi, ev_call, ev_make, ev_meth, ev_sup, ev_bm, ev_frz, ev_cname, ev_opr, ev_one, ev_lamc, evEs, FD.R.bind, FD.R.out, List.map_cons, List.map_nil, List.length_cons, List.length_nil, List.replicate, List.cons_append, List.nil_append, List.getElem?_cons_zero, List.getElem?_cons_succ, c3_0, c3_1, c3_2, of_some, view_p, view_b, views_1, views_2, pri_int, pri_intb, pri_lenl, pri_tupl, pri_tupt, pri_lstt, opW_i, unW_i, cmp_gt, cmp_ge, cmp_lt, uo_abs, uo_neg, bin_add, bin_sub, map_some', nm_if, tru_b, List.set_cons_succ, List.set_cons_zero, Nat.reduceAdd, Nat.reduceSub, Nat.reduceLT, Int.reduceLE, Int.reduceToNat, and_true, true_and, decide_true, decide_false, if_true, if_false, ite_true, ite_false, Bool.false_eq_true, Nat.zero_add, Nat.lt_irrefl, Int.reduceNeg, Int.reduceLT, Nat.zero_lt_succ, Int.le_refl, xor_f, xor_t, pureWs_p, pureWs_0, sizeLine, Nat.reducePow, Nat.reduceLeDiff, Nat.zero_le, h3, h4, h5, h6, en, Bool.not_true, Bool.not_false]
  · have en : ∀ S, eqW (O8 tb 11) true (.p (.lst nms)) (.p (.lst [])) S = .ok false S := fun S => eqW_of rfl rfl rfl a1
    have c13 := fun S => call_2 (run := arr [.a 0, .a 1] (runP (L08.fns tb) L08.or 11 13)) (S := S) (a2 10)
    simp only [O8_run, exSs, exS, evT, ev_var, ev_cst, ev_bin, ev_neg, ev_cmp, ev_eqo, ev_boo, ev_chn, ev_and, ev_or, ev_not, ev_ife, ev_tup, ev_lst, ev_newl, ev_sub, ev_slc, ev_ixi, ev_att, ev_pri, ev_isi, ev_call, ev_make, ev_meth, ev_sup, ev_bm, ev_frz, ev_cname, ev_opr, ev_one, ev_lamc, evEs, FD.R.bind, FD.R.out, List.map_cons, List.map_nil, List.length_cons, List.length_nil, List.replicate, List.cons_append, List.nil_append, List.getElem?_cons_zero, List.getElem?_cons_succ, c3_0, c3_1, c3_2, of_some, view_p, view_b, views_1, views_2, pri_int, pri_intb, pri_lenl, pri_tupl, pri_tupt, pri_lstt, opW_i, unW_i, cmp_gt, cmp_ge, cmp_lt, uo_abs, uo_neg, bin_add, bin_sub, map_some', nm_if, tru_b, List.set_cons_succ, List.set_cons_zero, Nat.reduceAdd, Nat.reduceSub, Nat.reduceLT, Int.reduceLE, Int.reduceToNat, and_true, true_and, decide_true, decide_false, if_true, if_false, ite_true, ite_false, Bool.false_eq_true, Nat.zero_add, Nat.lt_irrefl, Int.reduceNeg, Int.reduceLT, Nat.zero_lt_succ, Int.le_refl, xor_f, xor_t, pureWs_p, pureWs_0, sizeLine, Nat.reducePow, Nat.reduceLeDiff, Nat.zero_le, h3, h4, h5, h6, en, c13, List.append_nil, r1, er, Bool.not_true, Bool.not_false]
/-- two papers -/
theorem cond5 (p : Pap tb c1 fs1 w1 ys1 nms1 den1) (q : Pap tb c2 fs2 w2 ys2 nms2 den2) {ρ : Env} (h3 : ρ[3]? = some (some (.p (.ins c1 fs1)))) (h4 : ρ[4]? = some (some (.p (.str w1)))) (h5 : ρ[5]? = some (some (.p (.tup ys1)))) (h7 : ρ[7]? = some (some (.p (.bl den1))))
    (h8 : ρ[8]? = some (some (.p (.ins c2 fs2)))) (h9 : ρ[9]? = some (some (.p (.str w2)))) (h10 : ρ[10]? = some (some (.p (.tup ys2)))) (h12 : ρ[12]? = some (some (.p (.bl den2)))) :
    evT (O8 tb 11) (.or (.eqo true (.eqo false (.var 3) (.var 8)) (.and (.eqo false (.var 9) (.var 4)) (.and (.eqo false (.var 10) (.var 5)) (.eqo false (.var 12) (.var 7))))) (.eqo false (.eqo true (.var 3) (.var 8)) (.eqo false (.var 3) (.var 8)))) ρ S = .ok false S := by
  obtain ⟨k, k1, k2⟩ := parts_eq p q
  have eq := fun (neg : Bool) (S : Store) => eq_pap p q k1 k2 neg S
  have ep := fun (S : Store) => eqW_of (O := O8 tb 11) (neg := false) (S := S) (x := .p (.tup ys2)) (y := .p (.tup ys1)) rfl rfl rfl k2
  have hw : eqP (.str w2) (.str w1) = some (decide (w2 = w1)) := by
    rcases p.kind with ⟨_, rfl, _⟩ | ⟨_, rfl, _⟩ | ⟨_, rfl, _⟩ | ⟨_, rfl, _⟩ | ⟨_, rfl, _⟩ <;> rcases q.kind with ⟨_, rfl, _⟩ | ⟨_, rfl, _⟩ | ⟨_, rfl, _⟩ | ⟨_, rfl, _⟩ | ⟨_, rfl, _⟩ <;> kernel_rfl
  have ew := fun (S : Store) => eqW_str (O := O8 tb 11) (neg := false) (S := S) hw
  have key : (decide (w2 = w1) && (den2 == den1)) = decide (c1 = c2) := by
    rcases p.kind with ⟨rfl, rfl, rfl⟩ | ⟨rfl, rfl, rfl⟩ | ⟨rfl, rfl, rfl⟩ | ⟨rfl, rfl, rfl⟩ | ⟨rfl, rfl, rfl⟩ <;> rcases q.kind with ⟨rfl, rfl, rfl⟩ | ⟨rfl, rfl, rfl⟩ | ⟨rfl, rfl, rfl⟩ | ⟨rfl, rfl, rfl⟩ | ⟨rfl, rfl, rfl⟩ <;> decide +kernel
  have e5 : ∀ b : Bool, ((!b) == b) = false := fun b => by cases b <;> rfl
  have e6 : ∀ b : Bool, (b == b) = true := fun b => by cases b <;> rfl
  rw [← key] at eq
  generalize decide (w2 = w1) = u at *
  generalize hv : (den2 == den1) = v at *
  have tf : (true == false) = false := rfl
  have ft : (false == true) = false := rfl
  cases u <;> cases v <;> cases k <;> simp only [O8_run, exSs, exS, evT, ev_var, ev_cst, ev_bin, ev_neg, ev_cmp, ev_eqo, ev_boo, ev_chn, ev_and, ev_or, ev_not, ev_ife, ev_tup, ev_lst, ev_newl, ev_sub, ev_slc, ev_ixi, ev_att, ev_pri, ev_isi, ev_call, ev_make, ev_meth, ev_sup, ev_bm, ev_frz, ev_cname, ev_opr, ev_one, ev_lamc, evEs, FD.R.bind, FD.R.out, List.map_cons, List.map_nil, List.length_cons, List.length_nil, List.replicate, List.cons_append, List.nil_append, List.getElem?_cons_zero, List.getElem?_cons_succ, c3_0, c3_1, c3_2, of_some, view_p, view_b, views_1, views_2, pri_int, pri_intb, pri_lenl, pri_tupl, pri_tupt, pri_lstt, opW_i, unW_i, cmp_gt, cmp_ge, cmp_lt, uo_abs, uo_neg, bin_add, bin_sub, map_some', nm_if, tru_b, List.set_cons_succ, List.set_cons_zero, Nat.reduceAdd, Nat.reduceSub, Nat.reduceLT, Int.reduceLE, Int.reduceToNat, and_true, true_and, decide_true, decide_false, if_true, if_false, ite_true, ite_false, Bool.false_eq_true, Nat.zero_add, Nat.lt_irrefl, Int.reduceNeg, Int.reduceLT, Nat.zero_lt_succ, Int.le_refl, xor_f, xor_t, pureWs_p, pureWs_0, sizeLine, Nat.reducePow, Nat.reduceLeDiff, Nat.zero_le, hv, tf, ft, h3, h4, h5, h7, h8, h9, h10, h12, eq, ew, ep, bl_eq, e5, e6, Bool.not_true, Bool.not_false, Bool.true_and, Bool.false_and, Bool.and_false, Bool.and_true, Bool.and_self]
end
end FD

set_option Elab.async false
set_option linter.all false
set_option autoImplicit false
set_option maxRecDepth 100000
set_option maxHeartbeats 4000000
/-! K08k: the plain law of k08. -/
namespace FD
open PySem PySem.Spec PyProof.Rows L2
section
variable {O : Or} {ρ ρ1 : Env} {S S1 : Store}
theorem ss_nx {s : Sm} {r : List Sm} (h : exS O s ρ S = .nx ρ1 S1) : exSs O (s :: r) ρ S = exSs O r ρ1 S1 := by
  rw [exSs, h]
theorem ss_rt {s : Sm} {r : List Sm} {x : W} (h : exS O s ρ S = .rt x S1) : exSs O (s :: r) ρ S = .rt x S1 := by
  rw [exSs, h]
theorem s_asg {tg : Tg} {e : E} {x : W} (h : evE O e ρ S = .ok x S1) (hb : bindTg tg x ρ = some ρ1) : exS O (.asg tg e) ρ S = .nx ρ1 S1 := by
  rw [exS, h]
  show (match bindTg tg x ρ with
    | some ρ1 => Out.nx ρ1 S1
    | none => .bad) = _
  rw [hb]
theorem s_ifs_f {t : T} {a : List Sm} (h : evT O t ρ S = .ok false S1) : exS O (.ifs t a []) ρ S = .nx ρ S1 := by
  rw [exS, h]
  show (if false = true then exSs O a ρ S1 else exSs O [] ρ S1) = _
  rw [if_neg (by decide), exSs]
theorem s_for {it : It} {tg : Tg} {b : List Sm} {xs : List W} (h : evIt O it ρ S = .ok xs S1) : exS O (.for_ it tg b) ρ S = forL tg (exSs O b) xs ρ S1 := by
  rw [exS, h]
end
def Vec (x0 : Option W) (ρ : Env) : Prop := ∃ r2 r3 r4 r5 r6 r7 r8 r9 r10 r11 r12 r13 r14 r15 r16 : Option W, ρ = [x0, some (.c 1), r2, r3, r4, r5, r6, r7, r8, r9, r10, r11, r12, r13, r14, r15, r16]
theorem body_ok (tb : Addr) {ns : List Int} (hb : Bits ns) {T : Cell} {x0 : Option W} {ρ : Env} (hv : Vec x0 ρ) {a r : Int} (h0 : 0 ≤ a) (h1 : a + 600 ≤ 100000) :
    ∃ ρ' a' r', exSs (O8 tb 11) b14 ρ [T, pen ns a r] = .nx ρ' [T, pen ns a' r'] ∧ Vec x0 ρ' ∧ a ≤ a' ∧ a' ≤ a + 600 := by
  obtain ⟨r2, r3, r4, r5, r6, r7, r8, r9, r10, r11, r12, r13, r14, r15, r16, rfl⟩ := hv
  obtain ⟨c1, fs1, w1, ys1, nms1, den1, a1, r1, e1, p1, b1, b2⟩ := made_all tb hb (a := a) (r := r) h0 (by omega)
  obtain ⟨c2, fs2, w2, ys2, nms2, den2, a2, r2', e2, p2, b3, b4⟩ := made_all tb hb (a := a1) (r := r1) (by omega) (by omega)
  have m1 : evE (O8 tb 11) (.call 12 (.cons (.var 1) .nil) .nil [.a 0]) [x0, some (.c 1), r2, r3, r4, r5, r6, r7, r8, r9, r10, r11, r12, r13, r14, r15, r16] [T, pen ns a r] = .ok (.p (.tup [.ins c1 fs1, .str w1, .tup ys1, .lst nms1, .bl den1])) [T, pen ns a1 r1] := by
    simp only [O8_run, exSs, exS, evT, ev_var, ev_cst, ev_bin, ev_neg, ev_cmp, ev_eqo, ev_boo, ev_chn, ev_and, ev_or, ev_not, ev_ife, ev_tup, ev_lst, ev_newl, ev_sub, ev_slc, ev_ixi, ev_att, ev_pri, ev_isi, ev_call, ev_make, ev_meth, ev_sup, ev_bm, ev_frz, ev_cname, ev_opr, ev_one, ev_lamc, evEs, FD.R.bind, FD.R.out, List.map_cons, List.map_nil, List.length_cons, List.length_nil, List.replicate, List.cons_append, List.nil_append, List.getElem?_cons_zero, List.getElem?_cons_succ, c3_0, c3_1, c3_2, of_some, view_p, view_b, views_1, views_2, pri_int, pri_intb, pri_lenl, pri_tupl, pri_tupt, pri_lstt, opW_i, unW_i, cmp_gt, cmp_ge, cmp_lt, uo_abs, uo_neg, bin_add, bin_sub, map_some', nm_if, tru_b, List.set_cons_succ, List.set_cons_zero, Nat.reduceAdd, Nat.reduceSub, Nat.reduceLT, Int.reduceLE, Int.reduceToNat, and_true, true_and, decide_true, decide_false, if_true, if_false, ite_true, ite_false, Bool.false_eq_true, Nat.zero_add, Nat.lt_irrefl, Int.reduceNeg, Int.reduceLT, Nat.zero_lt_succ, Int.le_refl, xor_f, xor_t, pureWs_p, pureWs_0, sizeLine, Nat.reducePow, Nat.reduceLeDiff, Nat.zero_le, List.append_nil, call_law e1]
  have m2 : evE (O8 tb 11) (.call 12 (.cons (.var 1) .nil) .nil [.a 0]) [x0, some (.c 1), r2, some (.p (.ins c1 fs1)), some (.p (.str w1)), some (.p (.tup ys1)), some (.p (.lst nms1)), some (.p (.bl den1)), r8, r9, r10, r11, r12, r13, r14, r15, r16] [T, pen ns a1 r1] = .ok (.p (.tup [.ins c2 fs2, .str w2, .tup ys2, .lst nms2, .bl den2])) [T, pen ns a2 r2'] := by
    simp only [O8_run, exSs, exS, evT, ev_var, ev_cst, ev_bin, ev_neg, ev_cmp, ev_eqo, ev_boo, ev_chn, ev_and, ev_or, ev_not, ev_ife, ev_tup, ev_lst, ev_newl, ev_sub, ev_slc, ev_ixi, ev_att, ev_pri, ev_isi, ev_call, ev_make, ev_meth, ev_sup, ev_bm, ev_frz, ev_cname, ev_opr, ev_one, ev_lamc, evEs, FD.R.bind, FD.R.out, List.map_cons, List.map_nil, List.length_cons, List.length_nil, List.replicate, List.cons_append, List.nil_append, List.getElem?_cons_zero, List.getElem?_cons_succ, c3_0, c3_1, c3_2, of_some, view_p, view_b, views_1, views_2, pri_int, pri_intb, pri_lenl, pri_tupl, pri_tupt, pri_lstt, opW_i, unW_i, cmp_gt, cmp_ge, cmp_lt, uo_abs, uo_neg, bin_add, bin_sub, map_some', nm_if, tru_b, List.set_cons_succ, List.set_cons_zero, Nat.reduceAdd, Nat.reduceSub, Nat.reduceLT, Int.reduceLE, Int.reduceToNat, and_true, true_and, decide_true, decide_false, if_true, if_false, ite_true, ite_false, Bool.false_eq_true, Nat.zero_add, Nat.lt_irrefl, Int.reduceNeg, Int.reduceLT, Nat.zero_lt_succ, Int.le_refl, xor_f, xor_t, pureWs_p, pureWs_0, sizeLine, Nat.reducePow, Nat.reduceLeDiff, Nat.zero_le, List.append_nil, call_law e2]
  have t1 : bindTg (.tup (.cons (.nm 3) (.cons (.nm 4) (.cons (.nm 5) (.cons (.nm 6) (.cons (.nm 7) .nil)))))) (.p (.tup [.ins c1 fs1, .str w1, .tup ys1, .lst nms1, .bl den1])) [x0, some (.c 1), r2, r3, r4, r5, r6, r7, r8, r9, r10, r11, r12, r13, r14, r15, r16] = some [x0, some (.c 1), r2, some (.p (.ins c1 fs1)), some (.p (.str w1)), some (.p (.tup ys1)), some (.p (.lst nms1)), some (.p (.bl den1)), r8, r9, r10, r11, r12, r13, r14, r15, r16] := by
    simp only [O8_run, exSs, exS, evT, ev_var, ev_cst, ev_bin, ev_neg, ev_cmp, ev_eqo, ev_boo, ev_chn, ev_and, ev_or, ev_not, ev_ife, ev_tup, ev_lst, ev_newl, ev_sub, ev_slc, ev_ixi, ev_att, ev_pri, ev_isi, ev_call, ev_make, ev_meth, ev_sup, ev_bm, ev_frz, ev_cname, ev_opr, ev_one, ev_lamc, evEs, FD.R.bind, FD.R.out, List.map_cons, List.map_nil, List.length_cons, List.length_nil, List.replicate, List.cons_append, List.nil_append, List.getElem?_cons_zero, List.getElem?_cons_succ, c3_0, c3_1, c3_2, of_some, view_p, view_b, views_1, views_2, pri_int, pri_intb, pri_lenl, pri_tupl, pri_tupt, pri_lstt, opW_i, unW_i, cmp_gt, cmp_ge, cmp_lt, uo_abs, uo_neg, bin_add, bin_sub, map_some', nm_if, tru_b, List.set_cons_succ, List.set_cons_zero, Nat.reduceAdd, Nat.reduceSub, Nat.reduceLT, Int.reduceLE, Int.reduceToNat, and_true, true_and, decide_true, decide_false, if_true, if_false, ite_true, ite_false, Bool.false_eq_true, Nat.zero_add, Nat.lt_irrefl, Int.reduceNeg, Int.reduceLT, Nat.zero_lt_succ, Int.le_refl, xor_f, xor_t, pureWs_p, pureWs_0, sizeLine, Nat.reducePow, Nat.reduceLeDiff, Nat.zero_le, bt_tup, bt_cons, bt_nil]
  have t2 : bindTg (.tup (.cons (.nm 8) (.cons (.nm 9) (.cons (.nm 10) (.cons (.nm 11) (.cons (.nm 12) .nil)))))) (.p (.tup [.ins c2 fs2, .str w2, .tup ys2, .lst nms2, .bl den2])) [x0, some (.c 1), r2, some (.p (.ins c1 fs1)), some (.p (.str w1)), some (.p (.tup ys1)), some (.p (.lst nms1)), some (.p (.bl den1)), r8, r9, r10, r11, r12, r13, r14, r15, r16] = some [x0, some (.c 1), r2, some (.p (.ins c1 fs1)), some (.p (.str w1)), some (.p (.tup ys1)), some (.p (.lst nms1)), some (.p (.bl den1)), some (.p (.ins c2 fs2)), some (.p (.str w2)), some (.p (.tup ys2)), some (.p (.lst nms2)), some (.p (.bl den2)), r13, r14, r15, r16] := by
    simp only [O8_run, exSs, exS, evT, ev_var, ev_cst, ev_bin, ev_neg, ev_cmp, ev_eqo, ev_boo, ev_chn, ev_and, ev_or, ev_not, ev_ife, ev_tup, ev_lst, ev_newl, ev_sub, ev_slc, ev_ixi, ev_att, ev_pri, ev_isi, ev_call, ev_make, ev_meth, ev_sup, ev_bm, ev_frz, ev_cname, ev_opr, ev_one, ev_lamc, evEs, FD.R.bind, FD.R.out, List.map_cons, List.map_nil, List.length_cons, List.length_nil, List.replicate, List.cons_append, List.nil_append, List.getElem?_cons_zero, List.getElem?_cons_succ, c3_0, c3_1, c3_2, of_some, view_p, view_b, views_1, views_2, pri_int, pri_intb, pri_lenl, pri_tupl, pri_tupt, pri_lstt, opW_i, unW_i, cmp_gt, cmp_ge, cmp_lt, uo_abs, uo_neg, bin_add, bin_sub, map_some', nm_if, tru_b, List.set_cons_succ, List.set_cons_zero, Nat.reduceAdd, Nat.reduceSub, Nat.reduceLT, Int.reduceLE, Int.reduceToNat, and_true, true_and, decide_true, decide_false, if_true, if_false, ite_true, ite_false, Bool.false_eq_true, Nat.zero_add, Nat.lt_irrefl, Int.reduceNeg, Int.reduceLT, Nat.zero_lt_succ, Int.le_refl, xor_f, xor_t, pureWs_p, pureWs_0, sizeLine, Nat.reducePow, Nat.reduceLeDiff, Nat.zero_le, bt_tup, bt_cons, bt_nil]
  refine ⟨[x0, some (.c 1), r2, some (.p (.ins c1 fs1)), some (.p (.str w1)), some (.p (.tup ys1)), some (.p (.lst nms1)), some (.p (.bl den1)), some (.p (.ins c2 fs2)), some (.p (.str w2)), some (.p (.tup ys2)), some (.p (.lst nms2)), some (.p (.bl den2)), r13, r14, r15, r16], a2, r2', ?_, ⟨_, _, _, _, _, _, _, _, _, _, _, _, _, _, _, rfl⟩, by omega, by omega⟩
  unfold b14
  rw [ss_nx (s_asg m1 t1), ss_nx (s_ifs_f (cond2 p1 rfl rfl rfl rfl)), ss_nx (s_ifs_f (cond3 p1 rfl rfl rfl rfl)), ss_nx (s_asg m2 t2), ss_nx (s_ifs_f (cond5 p1 p2 rfl rfl rfl rfl rfl rfl rfl rfl)), exSs]
theorem loop_ok (tb : Addr) {ns : List Int} (hb : Bits ns) {T : Cell} {x0 : Option W} : ∀ (xs : List W) (ρ : Env) (a r : Int), Vec x0 ρ → 0 ≤ a → a + 600 * xs.length ≤ 100000 →
    ∃ ρ' a' r', forL (.nm 2) (exSs (O8 tb 11) b14) xs ρ [T, pen ns a r] = .nx ρ' [T, pen ns a' r'] ∧ Vec x0 ρ'
  | [], ρ, a, r, hv, _, _ => ⟨ρ, a, r, rfl, hv⟩
  | x :: xs, ρ, a, r, hv, h0, h1 => by
    rw [List.length_cons] at h1
    obtain ⟨r2, r3, r4, r5, r6, r7, r8, r9, r10, r11, r12, r13, r14, r15, r16, rfl⟩ := hv
    have hv1 : Vec x0 [x0, some (.c 1), some x, r3, r4, r5, r6, r7, r8, r9, r10, r11, r12, r13, r14, r15, r16] := ⟨_, _, _, _, _, _, _, _, _, _, _, _, _, _, _, rfl⟩
    obtain ⟨ρ2, a1, r1, e1, v1, b1, b2⟩ := body_ok tb hb (T := T) hv1 (a := a) (r := r) h0 (by omega)
    obtain ⟨ρ', a', r', e2, v2⟩ := loop_ok tb hb (T := T) xs ρ2 a1 r1 v1 (by omega) (by omega)
    have t1 : bindTg (.nm 2) x [x0, some (.c 1), r2, r3, r4, r5, r6, r7, r8, r9, r10, r11, r12, r13, r14, r15, r16] = some [x0, some (.c 1), some x, r3, r4, r5, r6, r7, r8, r9, r10, r11, r12, r13, r14, r15, r16] := by
      rw [nm_if]
      rfl
    refine ⟨ρ', a', r', ?_, v2⟩
    unfold forL
    rw [t1]
    dsimp only
    rw [e1]
    exact e2
end FD

set_option Elab.async false
set_option linter.all false
set_option autoImplicit false
set_option maxRecDepth 100000
set_option maxHeartbeats 0
/-! K08l: the plain law of k08: its last lines. -/
namespace FD
open PySem PySem.Spec PyProof.Rows L2
def fs08 : List Fn := [c08_0, c08_1, c08_2, c08_3, c08_4, c08_5, c08_6, c08_7, c08_8, c08_9, c08_10, c08_11, c08_12, c08_13, c08_14]
theorem fns08 (tb : Addr) : L08.fns tb = fs08 := by kernel_rfl
theorem tail_ok (tb : Addr) {T C : Cell} {x0 : Option W} {ρ : Env} (hv : Vec x0 ρ) : ∃ S', exSs (O8 tb 11) t14 ρ [T, C] = .rt (.p (.bl true)) S' := by
  obtain ⟨r2, r3, r4, r5, r6, r7, r8, r9, r10, r11, r12, r13, r14, r15, r16, rfl⟩ := hv
  unfold O8
  rw [fns08]
  exact ⟨[T, C, .lst [.p (.int 2), .p (.int 3), .p (.int 4)], .lst [.p (.int 1), .c 2]], by kernel_rfl⟩
end FD

set_option Elab.async false
set_option linter.all false
set_option autoImplicit false
set_option maxRecDepth 100000
set_option maxHeartbeats 4000000
/-! K08m: the plain law of k08. -/
namespace FD
open PySem PySem.Spec PyProof.Rows L2
theorem cut_all {xs : List P} (h : xs.length ≤ 63) : cutP xs none (some 63) = xs := by
  unfold cutP
  have e1 : HT.sIx xs.length 0 none = 0 := rfl
  have e2 : HT.sIx xs.length xs.length (some 63) = xs.length := by
    rw [show (some 63 : Option Int) = some ((63 : Nat) : Int) from rfl, HT.sIx_nat]
    omega
  rw [e1, e2, List.drop_zero, Nat.sub_zero, List.take_length]
theorem slc_fz {xs : List P} (h : xs.length ≤ 63) : slcP (.fz xs) .non (.int 63) = some (.lst xs) := by
  show some (P.lst (cutP xs none (some 63))) = _
  rw [cut_all h]
theorem pen_run (tb : Addr) (k : Nat) {ns : List Int} (h : ns.length ≤ 63) : runP (L08.fns tb) L08.or (k + 1) 8 [.p (.fz (ns.map P.int))] [] = .ok (.c 0) [pen ns 0 0] := by
  have hl : (ns.map P.int).length ≤ 63 := by rw [List.length_map]; exact h
  have h1 : evIt (O8 tb k) (.seq (.slc (.var 0) (.cst .non) (.ixi (.cst (.int 63))))) [some (.p (.fz (ns.map P.int))), none] [] = .ok ((ns.map P.int).map W.p) [] := by
    have e : evE (O8 tb k) (.slc (.var 0) (.cst .non) (.ixi (.cst (.int 63)))) [some (.p (.fz (ns.map P.int))), none] [] = .ok (.p (.lst (ns.map P.int))) [] := by
      simp only [O8_run, exSs, exS, evT, ev_var, ev_cst, ev_bin, ev_neg, ev_cmp, ev_eqo, ev_boo, ev_chn, ev_and, ev_or, ev_not, ev_ife, ev_tup, ev_lst, ev_newl, ev_sub, ev_slc, ev_ixi, ev_att, ev_pri, ev_isi, ev_call, ev_make, ev_meth, ev_sup, ev_bm, ev_frz, ev_cname, ev_opr, ev_one, ev_lamc, evEs, FD.R.bind, FD.R.out, List.map_cons, List.map_nil, List.length_cons, List.length_nil, List.replicate, List.cons_append, List.nil_append, List.getElem?_cons_zero, List.getElem?_cons_succ, c3_0, c3_1, c3_2, of_some, view_p, view_b, views_1, views_2, pri_int, pri_intb, pri_lenl, pri_tupl, pri_tupt, pri_lstt, opW_i, unW_i, cmp_gt, cmp_ge, cmp_lt, uo_abs, uo_neg, bin_add, bin_sub, map_some', nm_if, tru_b, List.set_cons_succ, List.set_cons_zero, Nat.reduceAdd, Nat.reduceSub, Nat.reduceLT, Int.reduceLE, Int.reduceToNat, and_true, true_and, decide_true, decide_false, if_true, if_false, ite_true, ite_false, Bool.false_eq_true, Nat.zero_add, Nat.lt_irrefl, Int.reduceNeg, Int.reduceLT, Nat.zero_lt_succ, Int.le_refl, xor_f, xor_t, pureWs_p, pureWs_0, sizeLine, Nat.reducePow, Nat.reduceLeDiff, Nat.zero_le, view1_p, slc_fz hl]
    unfold evIt
    rw [e]
    rfl
  have h2 := comp_items (tg := .nm 1) (e := evE (O8 tb k) (.pri .int (.cons (.var 1) .nil))) (ρ := [some (.p (.fz (ns.map P.int))), none]) (S := []) (f := id) (fun y => ⟨[some (.p (.fz (ns.map P.int))), some (.p y)], by rw [nm_if]; rfl⟩) (ns.map P.int) [] (fun x hx ρ1 hb => by
    rw [nm_if] at hb
    cases hb
    obtain ⟨i, hi, rfl⟩ := List.mem_map.mp hx
    simp only [O8_run, exSs, exS, evT, ev_var, ev_cst, ev_bin, ev_neg, ev_cmp, ev_eqo, ev_boo, ev_chn, ev_and, ev_or, ev_not, ev_ife, ev_tup, ev_lst, ev_newl, ev_sub, ev_slc, ev_ixi, ev_att, ev_pri, ev_isi, ev_call, ev_make, ev_meth, ev_sup, ev_bm, ev_frz, ev_cname, ev_opr, ev_one, ev_lamc, evEs, FD.R.bind, FD.R.out, List.map_cons, List.map_nil, List.length_cons, List.length_nil, List.replicate, List.cons_append, List.nil_append, List.getElem?_cons_zero, List.getElem?_cons_succ, c3_0, c3_1, c3_2, of_some, view_p, view_b, views_1, views_2, pri_int, pri_intb, pri_lenl, pri_tupl, pri_tupt, pri_lstt, opW_i, unW_i, cmp_gt, cmp_ge, cmp_lt, uo_abs, uo_neg, bin_add, bin_sub, map_some', nm_if, tru_b, List.set_cons_succ, List.set_cons_zero, Nat.reduceAdd, Nat.reduceSub, Nat.reduceLT, Int.reduceLE, Int.reduceToNat, and_true, true_and, decide_true, decide_false, if_true, if_false, ite_true, ite_false, Bool.false_eq_true, Nat.zero_add, Nat.lt_irrefl, Int.reduceNeg, Int.reduceLT, Nat.zero_lt_succ, Int.le_refl, xor_f, xor_t, pureWs_p, pureWs_0, sizeLine, Nat.reducePow, Nat.reduceLeDiff, Nat.zero_le, List.append_nil]
    rfl) (by rw [List.length_nil]; omega)
  rw [List.map_id, List.nil_append] at h2
  have g := evE_comp (v := 1) h1 h2
  rw [run8 (h08_8 tb) rfl]
  unfold runB
  simp only [O8_run, exSs, exS, evT, ev_var, ev_cst, ev_bin, ev_neg, ev_cmp, ev_eqo, ev_boo, ev_chn, ev_and, ev_or, ev_not, ev_ife, ev_tup, ev_lst, ev_newl, ev_sub, ev_slc, ev_ixi, ev_att, ev_pri, ev_isi, ev_call, ev_make, ev_meth, ev_sup, ev_bm, ev_frz, ev_cname, ev_opr, ev_one, ev_lamc, evEs, FD.R.bind, FD.R.out, List.map_cons, List.map_nil, List.length_cons, List.length_nil, List.replicate, List.cons_append, List.nil_append, List.getElem?_cons_zero, List.getElem?_cons_succ, c3_0, c3_1, c3_2, of_some, view_p, view_b, views_1, views_2, pri_int, pri_intb, pri_lenl, pri_tupl, pri_tupt, pri_lstt, opW_i, unW_i, cmp_gt, cmp_ge, cmp_lt, uo_abs, uo_neg, bin_add, bin_sub, map_some', nm_if, tru_b, List.set_cons_succ, List.set_cons_zero, Nat.reduceAdd, Nat.reduceSub, Nat.reduceLT, Int.reduceLE, Int.reduceToNat, and_true, true_and, decide_true, decide_false, if_true, if_false, ite_true, ite_false, Bool.false_eq_true, Nat.zero_add, Nat.lt_irrefl, Int.reduceNeg, Int.reduceLT, Nat.zero_lt_succ, Int.le_refl, xor_f, xor_t, pureWs_p, pureWs_0, sizeLine, Nat.reducePow, Nat.reduceLeDiff, Nat.zero_le, g]
theorem plain08 : L08.Plain 12 14 := by
  intro tb ns hl hb
  have e8 := pen_run tb 10 hl
  have e8 : runP (L08.fns tb) L08.or 11 8 [.p (.fz (ns.map P.int))] [] = .ok (.c 0) [pen ns 0 0] := e8
  have c8 : evE (O8 tb 11) (.call 8 (.cons (.var 0) .nil) .nil [.a 0]) [some (.p (.fz (ns.map P.int))), none, none, none, none, none, none, none, none, none, none, none, none, none, none, none, none] [.tab tb lawQ] = .ok (.c 1) [.tab tb lawQ, pen ns 0 0] := by
    have q : callW (arr [.a 0] (runP (L08.fns tb) L08.or 11 8)) [.p (.fz (ns.map P.int))] [.tab tb lawQ] = .ok (.c 1) [.tab tb lawQ, pen ns 0 0] := by
      show callG (arr [.a 0] (runP (L08.fns tb) L08.or 11 8)) [] [] [.p (.fz (ns.map P.int))] [.tab tb lawQ] = _
      have e : arr [.a 0] (runP (L08.fns tb) L08.or 11 8) [.p (.fz (ns.map P.int))] [] = .ok (.c 0) [pen ns 0 0] := e8
      unfold callG
      rw [e]
      rfl
    simp only [O8_run, exSs, exS, evT, ev_var, ev_cst, ev_bin, ev_neg, ev_cmp, ev_eqo, ev_boo, ev_chn, ev_and, ev_or, ev_not, ev_ife, ev_tup, ev_lst, ev_newl, ev_sub, ev_slc, ev_ixi, ev_att, ev_pri, ev_isi, ev_call, ev_make, ev_meth, ev_sup, ev_bm, ev_frz, ev_cname, ev_opr, ev_one, ev_lamc, evEs, FD.R.bind, FD.R.out, List.map_cons, List.map_nil, List.length_cons, List.length_nil, List.replicate, List.cons_append, List.nil_append, List.getElem?_cons_zero, List.getElem?_cons_succ, c3_0, c3_1, c3_2, of_some, view_p, view_b, views_1, views_2, pri_int, pri_intb, pri_lenl, pri_tupl, pri_tupt, pri_lstt, opW_i, unW_i, cmp_gt, cmp_ge, cmp_lt, uo_abs, uo_neg, bin_add, bin_sub, map_some', nm_if, tru_b, List.set_cons_succ, List.set_cons_zero, Nat.reduceAdd, Nat.reduceSub, Nat.reduceLT, Int.reduceLE, Int.reduceToNat, and_true, true_and, decide_true, decide_false, if_true, if_false, ite_true, ite_false, Bool.false_eq_true, Nat.zero_add, Nat.lt_irrefl, Int.reduceNeg, Int.reduceLT, Nat.zero_lt_succ, Int.le_refl, xor_f, xor_t, pureWs_p, pureWs_0, sizeLine, Nat.reducePow, Nat.reduceLeDiff, Nat.zero_le, List.append_nil, q]
  have hr : evIt (O8 tb 11) (.rng (.cst (.int 8))) [some (.p (.fz (ns.map P.int))), some (.c 1), none, none, none, none, none, none, none, none, none, none, none, none, none, none, none] [.tab tb lawQ, pen ns 0 0] = .ok (rngL 0 8) [.tab tb lawQ, pen ns 0 0] := evIt_rng (i := 8) (by simp only [O8_run, exSs, exS, evT, ev_var, ev_cst, ev_bin, ev_neg, ev_cmp, ev_eqo, ev_boo, ev_chn, ev_and, ev_or, ev_not, ev_ife, ev_tup, ev_lst, ev_newl, ev_sub, ev_slc, ev_ixi, ev_att, ev_pri, ev_isi, ev_call, ev_make, ev_meth, ev_sup, ev_bm, ev_frz, ev_cname, ev_opr, ev_one, ev_lamc, evEs, FD.R.bind, FD.R.out, List.map_cons, List.map_nil, List.length_cons, List.length_nil, List.replicate, List.cons_append, List.nil_append, List.getElem?_cons_zero, List.getElem?_cons_succ, c3_0, c3_1, c3_2, of_some, view_p, view_b, views_1, views_2, pri_int, pri_intb, pri_lenl, pri_tupl, pri_tupt, pri_lstt, opW_i, unW_i, cmp_gt, cmp_ge, cmp_lt, uo_abs, uo_neg, bin_add, bin_sub, map_some', nm_if, tru_b, List.set_cons_succ, List.set_cons_zero, Nat.reduceAdd, Nat.reduceSub, Nat.reduceLT, Int.reduceLE, Int.reduceToNat, and_true, true_and, decide_true, decide_false, if_true, if_false, ite_true, ite_false, Bool.false_eq_true, Nat.zero_add, Nat.lt_irrefl, Int.reduceNeg, Int.reduceLT, Nat.zero_lt_succ, Int.le_refl, xor_f, xor_t, pureWs_p, pureWs_0, sizeLine, Nat.reducePow, Nat.reduceLeDiff, Nat.zero_le, List.append_nil]) (by decide) (by decide)
  obtain ⟨ρ', a', r', l1, l2⟩ := loop_ok tb hb (T := .tab tb lawQ) (x0 := some (.p (.fz (ns.map P.int)))) (rngL 0 8) [some (.p (.fz (ns.map P.int))), some (.c 1), none, none, none, none, none, none, none, none, none, none, none, none, none, none, none] 0 0 ⟨_, _, _, _, _, _, _, _, _, _, _, _, _, _, _, rfl⟩ (by decide) (by rw [rngL_len]; decide)
  obtain ⟨S', t⟩ := tail_ok tb (T := .tab tb lawQ) (C := pen ns a' r') l2
  refine ⟨S', (run8 (k := 11) (h14 tb) rfl).trans ?_⟩
  unfold runB
  have b1 : bindTg (.nm 1) (.c 1) [some (.p (.fz (ns.map P.int))), none, none, none, none, none, none, none, none, none, none, none, none, none, none, none, none] = some [some (.p (.fz (ns.map P.int))), some (.c 1), none, none, none, none, none, none, none, none, none, none, none, none, none, none, none] := by
    rw [nm_if]
    rfl
  have run : exSs (O8 tb 11) (.asg (.nm 1) (.call 8 (.cons (.var 0) .nil) .nil [.a 0]) :: .for_ (.rng (.cst (.int 8))) (.nm 2) b14 :: t14) [some (.p (.fz (ns.map P.int))), none, none, none, none, none, none, none, none, none, none, none, none, none, none, none, none] [.tab tb lawQ] = .rt (.p (.bl true)) S' := by
    rw [ss_nx (s_asg c8 b1), ss_nx ((s_for hr).trans l1), t]
  show (match exSs (O8 tb 11) (.asg (.nm 1) (.call 8 (.cons (.var 0) .nil) .nil [.a 0]) :: .for_ (.rng (.cst (.int 8))) (.nm 2) b14 :: t14) [some (.p (.fz (ns.map P.int))), none, none, none, none, none, none, none, none, none, none, none, none, none, none, none, none] [.tab tb lawQ] with
    | .nx _ S1 => R.ok (W.p P.non) S1
    | .rt x S1 => R.ok x S1
    | .ex e _ S1 => R.ex e S1
    | _ => R.bad) = _
  rw [run]
end FD

set_option Elab.async false
set_option linter.all false
set_option autoImplicit false
set_option maxRecDepth 100000
set_option maxHeartbeats 0
open PySem PySem.W PySem.Calls PyProof.Rows FD
theorem k08_of (plain : L08.Plain 12 14) : PySem.Challenge.rw_leastprice_k08_papers_keep_what_they_tel.Holds := by
  w_on; o_law
  refine HandSHeadRun.head_any (r := OpenLaw.row PySem.Challenge.rw_leastprice_k08_papers_keep_what_they_tel) (q := view (OpenLaw.row PySem.Challenge.rw_leastprice_k08_papers_keep_what_they_tel).prog [16]) (H := FD.hk08) (ob := FD.ob08) (M := 4000) (loose := FD.loose08) (d := HandSHeadRun.topDef (OpenLaw.row PySem.Challenge.rw_leastprice_k08_papers_keep_what_they_tel).prog 16) (kwd := []) FD.ob08_eq
    (by kernel_rfl) (fun s => by kernel_rfl) FD.run08 (by kernel_rfl) (by kernel_rfl) (by kernel_rfl) (by rfl) (by first | assumption | decide +kernel) (by decide +kernel) ⟨rfl, rfl, rfl, rfl, rfl, by decide +kernel⟩ ?hw ?hc
  case hw => w_witness2
  case hc => exact law_walk (L := L08) (m := 12) (by rfl) rfl (by kernel_rfl) (by kernel_rfl) tx08 bd08 fn08 bo08 ⟨rfl, by decide, by decide⟩ plain

theorem PySem.Challenge.cw_leastprice_k08_papers_keep_what_they_tel_holds : PySem.Challenge.rw_leastprice_k08_papers_keep_what_they_tel.Holds := by
  exact k08_of FD.plain08
