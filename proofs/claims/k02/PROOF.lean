import PyProof.Rows.All
import Wide.All
import OpenK.AllK
import Wide.FinOn
import HandS.ForMost
import HandS.Walk
import HandS.Deep
import HandS.Lambda
import HandS.IsInst
import HandS.Style
import HandS.SetFor
import KE.LtData
import KE.DataFind
import PyProof.NeKinds
import HandS.More
import HandS.Conv
import HandS.NoneIn
import KE.DataCmp
import HandS.ForExc
import HandS.ExcCtx
import HandS.ExcInit
import HandS.ExcInitHot
import HandS.CallSlots
import HandS.ClsMeth
import HandS.HotCalls
import HandS.Comp
import HandS.ExcIs
import HandS.ExcField
import HandS.Text
import HandS.Strs
import HandS.Dict
import HandS.ExcOwn
import HandS.EndTab
import PySem.Challenge.RW_keyedtime_k02_readings_and_widths_refuse
set_option Elab.async false
set_option linter.all false
set_option maxRecDepth 100000
set_option maxHeartbeats 2000000
/-! The value layer: what a reading of HandS does, told by values without a heap. -/
namespace VL
open PySem L2

/-- a value of the program, as a tree -/
inductive PV where
  | non | bl (b : Bool) | int (i : Int) | str (s : Str)
  | lst (xs : List PV) | tup (xs : List PV)
  | ins (c : Str) (ns : List Str) (ps : List PV)
  | dic (ks : List Str) (ps : List PV)
  | opq (a : Addr)

/-- a tuple that stands (nothing is locked), or a written one -/
def SqU (K : PySem.W.Frag) (H : Hp) (a : Addr) (xs : List V) : Prop :=
  H a = some (.tup xs) ∨
    ∃ (o : Obj) (its : Array Value) (n : Nat), K.lookup a = some o ∧ o.cls = .type "tuple" ∧ o.data = .seq its n ∧ its.size ≤ sizeLine ∧ Vals xs its.toList
theorem SqU.of {K : PySem.W.Frag} {H : Hp} {a : Addr} {xs : List V} (h : H a = some (.tup xs)) : SqU K H a xs := .inl h
mutual
/-- v, in the part G of the heap, is the tree p -/
inductive Rep (K : PySem.W.Frag) (cl : Str → Option Addr) (G : Hp) : V → PV → Prop
  | non : Rep K cl G .non .non
  | bl (b : Bool) : Rep K cl G (.bl b) (.bl b)
  | int (i : Int) : Rep K cl G (.int i) (.int i)
  | str (s : Str) : Rep K cl G (.str s) (.str s)
  | lst {a : Addr} {vs : List V} {ps : List PV} : G a = some (.lst vs) → RepL K cl G vs ps → Rep K cl G (.ref a) (.lst ps)
  | tup {a : Addr} {vs : List V} {ps : List PV} : SqU K G a vs → RepL K cl G vs ps → Rep K cl G (.ref a) (.tup ps)
  | ins {a C dx : Addr} {c : Str} {ns : List Str} {vs : List V} {ps : List PV} : cl c = some C → G a = some (.ins C dx (ns.zip vs)) → ns.length = vs.length → RepL K cl G vs ps → Rep K cl G (.ref a) (.ins c ns ps)
  | dic {a : Addr} {ks : List Str} {vs : List V} {ps : List PV} : G a = some (.dK ((ks.map Sum.inr).zip vs)) → ks.length = vs.length → RepL K cl G vs ps → Rep K cl G (.ref a) (.dic ks ps)
  | opq (a : Addr) : Rep K cl G (.ref a) (.opq a)
inductive RepL (K : PySem.W.Frag) (cl : Str → Option Addr) (G : Hp) : List V → List PV → Prop
  | nil : RepL K cl G [] []
  | cons {v : V} {vs : List V} {p : PV} {ps : List PV} : Rep K cl G v p → RepL K cl G vs ps → RepL K cl G (v :: vs) (p :: ps)
end

theorem Rd.mono {H H' : Hp} {a : Addr} {u : HO} (e : Same H H') (h : Rd H a u) : Rd H' a u := by
  rcases h with h | ⟨o, h⟩
  · exact .inl (e _ _ h)
  · exact .inr ⟨o, e _ _ h⟩
theorem sqL_mono {K : PySem.W.Frag} {H H' : Hp} {a : Addr} {xs : List V} (e : Same H H') (h : SqL K H a xs) : SqL K H' a xs := by
  rcases h with h | h
  · exact .inl (Rd.mono e h)
  · exact .inr h
theorem sqU_mono {K : PySem.W.Frag} {H H' : Hp} {a : Addr} {xs : List V} (e : Same H H') (h : SqU K H a xs) : SqU K H' a xs := by
  rcases h with h | h
  · exact .inl (e _ _ h)
  · exact .inr h
theorem sqT_mono {K : PySem.W.Frag} {H H' : Hp} {a : Addr} {xs : List V} (e : Same H H') (h : SqU K H a xs) : SqT K H' a xs := by
  rcases h with h | h
  · exact .inl (.inl (e _ _ h))
  · exact .inr h

section
variable {K : PySem.W.Frag} {cl : Str → Option Addr} {G G' : Hp}
mutual
theorem Rep.mono (e : Same G G') : ∀ (p : PV) (v : V), Rep K cl G v p → Rep K cl G' v p
  | .non, _, h => by cases h; exact .non
  | .bl b, _, h => by cases h; exact .bl b
  | .int i, _, h => by cases h; exact .int i
  | .str s, _, h => by cases h; exact .str s
  | .lst ps, _, h => by cases h with | lst a b => exact .lst (e _ _ a) (RepL.mono e ps _ b)
  | .tup ps, _, h => by cases h with | tup a b => exact .tup (sqU_mono e a) (RepL.mono e ps _ b)
  | .ins c ns ps, _, h => by cases h with | ins q a l b => exact .ins q (e _ _ a) l (RepL.mono e ps _ b)
  | .dic ks ps, _, h => by cases h with | dic a l b => exact .dic (e _ _ a) l (RepL.mono e ps _ b)
  | .opq a, _, h => by cases h; exact .opq a
theorem RepL.mono (e : Same G G') : ∀ (ps : List PV) (vs : List V), RepL K cl G vs ps → RepL K cl G' vs ps
  | [], _, h => by cases h; exact .nil
  | p :: ps, _, h => by cases h with | cons a b => exact .cons (Rep.mono e p _ a) (RepL.mono e ps _ b)
end
theorem RepL.len : ∀ {ps : List PV} {vs : List V}, RepL K cl G vs ps → vs.length = ps.length
  | _, _, .nil => rfl
  | _, _, .cons _ t => by rw [List.length_cons, List.length_cons, RepL.len t]
theorem RepL.get : ∀ {ps : List PV} {vs : List V} {i : Nat} {p : PV}, RepL K cl G vs ps → ps[i]? = some p → ∃ v, vs[i]? = some v ∧ Rep K cl G v p
  | _, _, _, _, .nil, e => by simp at e
  | _, _, 0, _, .cons r _, e => by
    simp at e
    subst e
    exact ⟨_, rfl, r⟩
  | _, _, i + 1, p, .cons _ t, e => by
    obtain ⟨v, h1, h2⟩ := RepL.get (i := i) (p := p) t (by simpa using e)
    exact ⟨v, by simpa using h1, h2⟩
theorem RepL.get' : ∀ {ps : List PV} {vs : List V} {i : Nat} {v : V}, RepL K cl G vs ps → vs[i]? = some v → ∃ p, ps[i]? = some p ∧ Rep K cl G v p
  | _, _, _, _, .nil, e => by simp at e
  | _, _, 0, _, .cons r _, e => by
    simp at e
    subst e
    exact ⟨_, rfl, r⟩
  | _, _, i + 1, p, .cons _ t, e => by
    obtain ⟨v, h1, h2⟩ := RepL.get' (i := i) (v := p) t (by simpa using e)
    exact ⟨v, by simpa using h1, h2⟩
theorem RepL.append : ∀ {ps qs : List PV} {vs us : List V}, RepL K cl G vs ps → RepL K cl G us qs → RepL K cl G (vs ++ us) (ps ++ qs)
  | _, _, _, _, .nil, s => s
  | _, _, _, _, .cons r t, s => .cons r (RepL.append t s)
theorem RepL.take : ∀ {ps : List PV} {vs : List V} (n : Nat), RepL K cl G vs ps → RepL K cl G (vs.take n) (ps.take n)
  | _, _, 0, _ => .nil
  | _, _, _ + 1, .nil => .nil
  | _, _, n + 1, .cons r t => .cons r (RepL.take n t)
theorem RepL.drop : ∀ {ps : List PV} {vs : List V} (n : Nat), RepL K cl G vs ps → RepL K cl G (vs.drop n) (ps.drop n)
  | _, _, 0, r => r
  | _, _, _ + 1, .nil => .nil
  | _, _, n + 1, .cons _ t => RepL.drop n t
theorem RepL.set {v : V} {p : PV} (r : Rep K cl G v p) : ∀ {ps : List PV} {vs : List V} (i : Nat), RepL K cl G vs ps → RepL K cl G (vs.set i v) (ps.set i p)
  | _, _, _, .nil => .nil
  | _, _, 0, .cons _ t => .cons r t
  | _, _, i + 1, .cons q t => .cons q (RepL.set r i t)
theorem RepL.eraseIdx : ∀ {ps : List PV} {vs : List V} (i : Nat), RepL K cl G vs ps → RepL K cl G (vs.eraseIdx i) (ps.eraseIdx i)
  | _, _, _, .nil => .nil
  | _, _, 0, .cons _ t => t
  | _, _, i + 1, .cons q t => .cons q (RepL.eraseIdx i t)
theorem RepL.snoc {v : V} {p : PV} {ps : List PV} {vs : List V} (h : RepL K cl G vs ps) (r : Rep K cl G v p) : RepL K cl G (vs ++ [v]) (ps ++ [p]) := h.append (.cons r .nil)
theorem RepL.ints : ∀ (ns : List Int), RepL K cl G (ns.map V.int) (ns.map PV.int)
  | [] => .nil
  | n :: ns => .cons (.int n) (RepL.ints ns)
theorem RepL.ints_inv : ∀ {ns : List Int} {vs : List V}, RepL K cl G vs (ns.map PV.int) → vs = ns.map V.int
  | [], _, h => by cases h; rfl
  | n :: ns, _, h => by
    cases h with
    | cons a b =>
      cases a
      rw [RepL.ints_inv b]
      rfl
theorem RepL.strs_inv : ∀ {ns : List Str} {vs : List V}, RepL K cl G vs (ns.map PV.str) → vs = ns.map V.str
  | [], _, h => by cases h; rfl
  | n :: ns, _, h => by
    cases h with
    | cons a b =>
      cases a
      rw [RepL.strs_inv b]
      rfl
end

/-- what an expression gives: a tree, or a list (dict) of one's own, by its place in the store -/
inductive W where
  | v (p : PV) | l (k : Nat) | o (v : V) | ik (c f : Str) (k : Nat) | im (c : Str) (fs : List (Str × Nat))
/-- a lambda's words -/
structure Lf where
  qual : Str
  params : Arguments
  body : Expr
  scope : Scope
  cl : List (Str × Addr)
  c : Addr
/-- the lambda stands at f -/
def LamO (f : Addr) (L : Lf) : HO := .ext fun h => ∃ pm ctv : Value, h.get? f = some (PySem.W.kla_obj "<lambda>" L.qual L.params L.body L.scope L.cl pm L.c ctv)
/-- what is one's own: a list that may change, one that may not any more, one that is walked, a dict by tuples, the dice -/
inductive Cell where
  | lst (ps : List PV) | frz (ps : List PV) | lk (ps : List PV) | dT (ks : List (List Int)) | dK (ks : List Str) (ps : List PV) | dice | lkT (ks : List (List Int)) | pin (B : Hp) | tab (P : Addr) (q : Str) (ls : List (Addr × Lf))
abbrev Sl := List (Option W)
abbrev Sto := List Cell

/-- the dice's numbers -/
def DiceOk (ds : List Int) : Prop := 2 ≤ ds.length ∧ ds.length ≤ 100 ∧ ∀ x ∈ ds, 0 ≤ x
def DiceAt (H : Hp) (a : Addr) : Prop := ∃ ds : List Int, H a = some (.lst (ds.map V.int)) ∧ DiceOk ds

/-- an instance's fields, each a cell of one's own -/
def ImAt (al : List Addr) : List (Str × Nat) → List (Str × V) → Prop
  | [], [] => True
  | (f, k) :: r, (g, u) :: r' => f = g ∧ (∃ a, al[k]? = some a ∧ u = .ref a) ∧ ImAt al r r'
  | _, _ => False
theorem ImAt.pre {al al' : List Addr} (e : ∀ (k : Nat) (a : Addr), al[k]? = some a → al'[k]? = some a) : ∀ {fs : List (Str × Nat)} {vs : List (Str × V)}, ImAt al fs vs → ImAt al' fs vs
  | [], [], _ => trivial
  | (f, k) :: r, (g, u) :: r', ⟨h1, ⟨a, h2, h3⟩, h4⟩ => ⟨h1, ⟨a, e _ _ h2, h3⟩, ImAt.pre e h4⟩
  | [], _ :: _, h => h.elim
  | _ :: _, [], h => h.elim
section
variable (K : PySem.W.Frag) (cl : Str → Option Addr)
def RepW (al : List Addr) (G : Hp) (v : V) : W → Prop
  | .v p => Rep K cl G v p
  | .l k => ∃ a, al[k]? = some a ∧ v = .ref a
  | .o u => v = u
  | .ik c f k => ∃ (x C dx a : Addr), v = .ref x ∧ cl c = some C ∧ G x = some (.ins C dx [(f, .ref a)]) ∧ al[k]? = some a
  | .im c fs => ∃ (x C dx : Addr) (vs : List (Str × V)), v = .ref x ∧ cl c = some C ∧ G x = some (.ins C dx vs) ∧ ImAt al fs vs
def CellOk (F G H : Hp) (a : Addr) : Cell → Prop
  | .lst ps => F a = none ∧ ∃ vs, H a = some (.lst vs) ∧ RepL K cl G vs ps
  | .frz ps => ∃ vs, G a = some (.lst vs) ∧ RepL K cl G vs ps
  | .lk ps => G a = none ∧ ∃ vs, F a = some (.lst vs) ∧ RepL K cl G vs ps
  | .dT ks => F a = none ∧ H a = some (.dT (ks.map fun k => (k.map Sum.inl, .bl true)))
  | .dK ks ps => F a = none ∧ ∃ vs, H a = some (.dK ((ks.map Sum.inr).zip vs)) ∧ ks.length = vs.length ∧ RepL K cl G vs ps
  | .dice => F a = none ∧ DiceAt H a
  | .lkT ks => G a = none ∧ ∃ od, F a = some (.frz od (.dT (ks.map fun k => (k.map Sum.inl, .bl true))))
  | .pin B => (∃ o, G a = some o) ∧ Same B G
  | .tab P q ls => F a = none ∧ a = P ∧ (∀ x ∈ ls, G x.1 = some (LamO x.1 x.2) ∧ G x.2.c = some (LamX.CodeO x.2.c q)) ∧ ∃ ps : Array Value, H a = some (.tbl ps) ∧ TriplesOk ps.toList ∧ ∀ (pos : Pos) (cv : Value), codeAmong pos ps.toList = some cv → ∃ c, cv = .ref c ∧ G c = some (LamX.CodeO c q)
/-- the state: G what the trees stand in, F what is to be kept, H all -/
structure SOk (F G H : Hp) (σ : L2.St) (al : List Addr) (sl : Sl) (st : Sto) : Prop where
  gf : Same G F
  fh : Same F H
  slots : ∀ (i : Nat) (x : W), sl[i]? = some (some x) → ∃ v, σ[i]? = some (some v) ∧ RepW K cl al G v x
  len : σ.length = sl.length
  cells : ∀ (k : Nat) (c : Cell), st[k]? = some c → ∃ a, al[k]? = some a ∧ CellOk K cl F G H a c
  nd : ∀ (k j : Nat) (a : Addr), al[k]? = some a → al[j]? = some a → k = j
  live : ∀ (k : Nat) (a : Addr), al[k]? = some a → ∃ o, H a = some o
  cnt : al.length = st.length
end
/-- what may come of it: the kept is kept, the trees stand, what is new of them was free (or is a tuple) -/
structure Gr (F G : Hp) (al : List Addr) (st : Sto) (F' G' : Hp) (al' : List Addr) (st' : Sto) : Prop where
  ff : Same F F'
  gg : Same G G'
  new : ∀ a o, G' a = some o → G a = some o ∨ F a = none ∨ ∃ xs, o = .tup xs
  pre : ∀ (k : Nat) (a : Addr), al[k]? = some a → al'[k]? = some a
  dice : ∀ (k : Nat), st[k]? = some .dice → st'[k]? = some .dice
theorem Gr.refl {F G : Hp} {al : List Addr} {st : Sto} : Gr F G al st F G al st := ⟨Same.refl _, Same.refl _, fun _ _ h => .inl h, fun _ _ h => h, fun _ h => h⟩
theorem Gr.trans {F G F1 G1 F2 G2 : Hp} {al al1 al2 : List Addr} {st st1 st2 : Sto} (a : Gr F G al st F1 G1 al1 st1) (b : Gr F1 G1 al1 st1 F2 G2 al2 st2) : Gr F G al st F2 G2 al2 st2 :=
  ⟨a.ff.trans b.ff, a.gg.trans b.gg, fun x o h => by
    rcases b.new x o h with q | q | q
    · exact a.new x o q
    · exact .inr (.inl (a.ff.free q))
    · exact .inr (.inr q), fun k x h => b.pre k x (a.pre k x h), fun k h => b.dice k (a.dice k h)⟩
section
variable {K : PySem.W.Frag} {cl : Str → Option Addr} {F G H F' G' H' : Hp} {σ : L2.St} {al al' : List Addr} {sl : Sl} {st st' : Sto}
theorem RepW.mono {v : V} {x : W} (e : Same G G') (h : RepW K cl al G v x) : RepW K cl al G' v x := by
  cases x with
  | v p => exact Rep.mono e p v h
  | l k => exact h
  | o u => exact h
  | ik c f k =>
    obtain ⟨x, C, dx, a, h1, h2, h3, h4⟩ := h
    exact ⟨x, C, dx, a, h1, h2, e _ _ h3, h4⟩
  | im c fs =>
    obtain ⟨x, C, dx, vs, h1, h2, h3, h4⟩ := h
    exact ⟨x, C, dx, vs, h1, h2, e _ _ h3, h4⟩
theorem RepW.pre {v : V} {x : W} (e : ∀ (k : Nat) (a : Addr), al[k]? = some a → al'[k]? = some a) (h : RepW K cl al G v x) : RepW K cl al' G v x := by
  cases x with
  | v p => exact h
  | l k =>
    obtain ⟨a, h1, h2⟩ := h
    exact ⟨a, e _ _ h1, h2⟩
  | o u => exact h
  | ik c f k =>
    obtain ⟨x, C, dx, a, h1, h2, h3, h4⟩ := h
    exact ⟨x, C, dx, a, h1, h2, h3, e _ _ h4⟩
  | im c fs =>
    obtain ⟨x, C, dx, vs, h1, h2, h3, h4⟩ := h
    exact ⟨x, C, dx, vs, h1, h2, h3, h4.pre e⟩
theorem RepW.gr {v : V} {x : W} (e : Gr F G al st F' G' al' st') (h : RepW K cl al G v x) : RepW K cl al' G' v x := (h.mono e.gg).pre e.pre

theorem CellOk.mono {a : Addr} {c : Cell} (h : CellOk K cl F G H a c) (sF : Same F F') (sG : Same G G') (kH : c ≠ .dice → ∀ o, H a = some o → H' a = some o) (kF : F a = none → F' a = none) (kG : F a ≠ none → G a = none → G' a = none)
    (kD : c = .dice → DiceAt H' a) : CellOk K cl F' G' H' a c := by
  cases c with
  | lst ps =>
    obtain ⟨f, vs, e, r⟩ := h
    exact ⟨kF f, vs, kH (by intro z; cases z) _ e, RepL.mono sG _ _ r⟩
  | frz ps =>
    obtain ⟨vs, e, r⟩ := h
    exact ⟨vs, sG _ _ e, RepL.mono sG _ _ r⟩
  | lk ps =>
    obtain ⟨g, vs, e, r⟩ := h
    exact ⟨kG (by rw [e]; intro z; cases z) g, vs, sF _ _ e, RepL.mono sG _ _ r⟩
  | dT ks =>
    obtain ⟨f, e⟩ := h
    exact ⟨kF f, kH (by intro z; cases z) _ e⟩
  | dK ks ps =>
    obtain ⟨f, vs, e, l, r⟩ := h
    exact ⟨kF f, vs, kH (by intro z; cases z) _ e, l, RepL.mono sG _ _ r⟩
  | dice => exact ⟨kF h.1, kD rfl⟩
  | lkT ks =>
    obtain ⟨g, od, e⟩ := h
    exact ⟨kG (by rw [e]; intro z; cases z) g, od, sF _ _ e⟩
  | pin B =>
    obtain ⟨⟨o, e⟩, sB⟩ := h
    exact ⟨⟨o, sG _ _ e⟩, sB.trans sG⟩
  | tab P q ls =>
    obtain ⟨f, ap, hl, ps, e, t, r⟩ := h
    exact ⟨kF f, ap, fun x hx => ⟨sG _ _ (hl x hx).1, sG _ _ (hl x hx).2⟩, ps, kH (by intro z; cases z) _ e, t, fun pos cv hc => (r pos cv hc).imp fun c z => ⟨z.1, sG _ _ z.2⟩⟩
/-- what stands at a place of one's own -/
theorem CellOk.there {a : Addr} {c : Cell} (h : CellOk K cl F G H a c) (f : F a = none) (gf : Same G F) : (∃ vs, H a = some (.lst vs)) ∨ (∃ ks, H a = some (.dT ks)) ∨ (∃ ks, H a = some (.dK ks)) ∨ ∃ ps, H a = some (.tbl ps) := by
  cases c with
  | lst ps =>
    obtain ⟨_, vs, e, _⟩ := h
    exact .inl ⟨vs, e⟩
  | frz ps =>
    obtain ⟨vs, e, _⟩ := h
    rw [gf _ _ e] at f
    cases f
  | lk ps =>
    obtain ⟨_, vs, e, _⟩ := h
    rw [e] at f
    cases f
  | dT ks => exact .inr (.inl ⟨_, h.2⟩)
  | dK ks ps =>
    obtain ⟨_, vs, e, _⟩ := h
    exact .inr (.inr (.inl ⟨_, e⟩))
  | dice =>
    obtain ⟨_, ds, e, _⟩ := h
    exact .inl ⟨_, e⟩
  | lkT ks =>
    obtain ⟨_, od, e⟩ := h
    rw [e] at f
    cases f
  | pin B =>
    obtain ⟨⟨o, e⟩, _⟩ := h
    rw [gf _ _ e] at f
    cases f
  | tab P q ls =>
    obtain ⟨_, _, _, ps, e, _⟩ := h
    exact .inr (.inr (.inr ⟨_, e⟩))
theorem CellOk.notTup {a : Addr} {c : Cell} {xs : List V} (h : CellOk K cl F G H a c) (f : F a = none) (gf : Same G F) : H a ≠ some (.tup xs) := by
  rcases h.there f gf with ⟨_, e⟩ | ⟨_, e⟩ | ⟨_, e⟩ | ⟨_, e⟩ <;> rw [e] <;> intro z <;> cases z
theorem SOk.cell {k : Nat} {a : Addr} (S : SOk K cl F G H σ al sl st) (h : al[k]? = some a) : ∃ c, st[k]? = some c ∧ CellOk K cl F G H a c := by
  have hk : k < st.length := by rw [← S.cnt]; exact (List.getElem?_eq_some_iff.mp h).1
  obtain ⟨b, h1, h2⟩ := S.cells k st[k] (by simp [hk])
  rw [h] at h1
  cases h1
  exact ⟨_, by simp [hk], h2⟩
theorem same_upd {A B : Hp} {p : Addr} {o : HO} (s : Same A B) : Same (upd A p o) (upd B p o) := fun b u e => by
  by_cases q : b = p
  · subst q; rw [upd_same] at e ⊢; exact e
  · rw [upd_ne q] at e ⊢; exact s b u e
theorem same_new {A : Hp} {p : Addr} {o : HO} (h : A p = none) : Same A (upd A p o) := fun b u e => by rw [upd_ne (ne_of_none e h)]; exact e
/-- a new object, a part of a tree -/
theorem SOk.new {p : Addr} {o : HO} (S : SOk K cl F G H σ al sl st) (hp : H p = none) : SOk K cl (upd F p o) (upd G p o) (upd H p o) σ al sl st ∧ Gr F G al st (upd F p o) (upd G p o) al st := by
  have hF := S.fh.free hp
  have hG := S.gf.free hF
  have sG : Same G (upd G p o) := same_new hG
  have sF : Same F (upd F p o) := same_new hF
  have sH : Same H (upd H p o) := same_new hp
  refine ⟨⟨same_upd S.gf, same_upd S.fh, fun i x h => ?_, S.len, fun k c h => ?_, S.nd, fun k a h => ?_, S.cnt⟩, ⟨sF, sG, fun a u e => ?_, fun _ _ h => h, fun _ h => h⟩⟩
  · obtain ⟨v, h1, h2⟩ := S.slots i x h
    exact ⟨v, h1, h2.mono sG⟩
  · obtain ⟨a, h1, h2⟩ := S.cells k c h
    obtain ⟨u, hu⟩ := S.live k a h1
    have ne : a ≠ p := ne_of_none hu hp
    refine ⟨a, h1, h2.mono sF sG (fun _ o e => sH _ _ e) (fun f => by rw [upd_ne ne]; exact f) (fun _ g => by rw [upd_ne ne]; exact g) fun z => ?_⟩
    subst z
    obtain ⟨_, ds, e, d⟩ := h2
    exact ⟨ds, sH _ _ e, d⟩
  · obtain ⟨u, hu⟩ := S.live k a h
    exact ⟨u, sH _ _ hu⟩
  · by_cases q : a = p
    · subst q; exact .inr (.inl hF)
    · rw [upd_ne q] at e; exact .inl e
/-- a new object, one's own -/
theorem SOk.newCell {p : Addr} {o : HO} {c : Cell} (S : SOk K cl F G H σ al sl st) (hp : H p = none) (hc : CellOk K cl F G (upd H p o) p c) :
    SOk K cl F G (upd H p o) σ (al ++ [p]) sl (st ++ [c]) ∧ Gr F G al st F G (al ++ [p]) (st ++ [c]) := by
  have sH : Same H (upd H p o) := same_new hp
  have pre : ∀ (k : Nat) (a : Addr), al[k]? = some a → (al ++ [p])[k]? = some a := fun k a h => by
    rw [List.getElem?_append_left (List.getElem?_eq_some_iff.mp h).1]
    exact h
  have hF : F p = none := S.fh.free hp
  have inv : ∀ (k : Nat) (a : Addr), (al ++ [p])[k]? = some a → al[k]? = some a ∨ (k = al.length ∧ a = p) := fun k a h => by
    by_cases hk : k < al.length
    · rw [List.getElem?_append_left hk] at h
      exact .inl h
    · rw [List.getElem?_append_right (by omega)] at h
      have hk' := (List.getElem?_eq_some_iff.mp h).1
      simp at hk'
      have e : k = al.length := by omega
      subst e
      simp at h
      exact .inr ⟨rfl, h.symm⟩
  have nal : ∀ (k : Nat), al[k]? ≠ some p := fun k h => by
    obtain ⟨u, hu⟩ := S.live k p h
    rw [hp] at hu
    cases hu
  refine ⟨⟨S.gf, S.fh.trans sH, fun i x h => ?_, S.len, fun k c' h => ?_, fun k j a h1 h2 => ?_, fun k a h => ?_, ?_⟩, ⟨Same.refl _, Same.refl _, fun _ _ h => .inl h, pre, fun k h => ?_⟩⟩
  · obtain ⟨v, h1, h2⟩ := S.slots i x h
    exact ⟨v, h1, h2.pre pre⟩
  · by_cases hk : k < st.length
    · rw [List.getElem?_append_left hk] at h
      obtain ⟨a, h1, h2⟩ := S.cells k c' h
      refine ⟨a, pre _ _ h1, h2.mono (Same.refl _) (Same.refl _) (fun _ o e => sH _ _ e) (fun f => f) (fun _ g => g) fun z => ?_⟩
      subst z
      obtain ⟨_, ds, e, d⟩ := h2
      exact ⟨ds, sH _ _ e, d⟩
    · rw [List.getElem?_append_right (by omega)] at h
      have hk' : k - st.length = 0 := by
        have := (List.getElem?_eq_some_iff.mp h).1
        simp at this
        omega
      rw [hk'] at h
      have e : c = c' := by simpa using h
      subst e
      refine ⟨p, ?_, hc⟩
      rw [List.getElem?_append_right (by rw [S.cnt]; omega), S.cnt, hk']
      rfl
  · rcases inv k a h1 with q | ⟨q, e⟩
    · rcases inv j a h2 with r | ⟨r, e'⟩
      · exact S.nd k j a q r
      · rw [e'] at q
        exact (nal k q).elim
    · rcases inv j a h2 with r | ⟨r, e'⟩
      · rw [e] at r
        exact (nal j r).elim
      · rw [q, r]
  · rcases inv k a h with q | ⟨q, e⟩
    · obtain ⟨u, hu⟩ := S.live k a q
      exact ⟨u, sH _ _ hu⟩
    · rw [e]
      exact ⟨o, upd_same⟩
  · simp [S.cnt]
  · rw [List.getElem?_append_left (List.getElem?_eq_some_iff.mp h).1]
    exact h
/-- one's own is written -/
theorem SOk.write {k : Nat} {a : Addr} {o : HO} {c c' : Cell} (S : SOk K cl F G H σ al sl st) (hk : st[k]? = some c) (ha : al[k]? = some a) (f : F a = none) (hc : CellOk K cl F G (upd H a o) a c') (nd : c ≠ .dice) :
    SOk K cl F G (upd H a o) σ al sl (st.set k c') ∧ Gr F G al st F G al (st.set k c') := by
  have hks : k < st.length := (List.getElem?_eq_some_iff.mp hk).1
  refine ⟨⟨S.gf, fun b u e => ?_, S.slots, S.len, fun j d h => ?_, S.nd, fun j b h => ?_, by rw [List.length_set]; exact S.cnt⟩, ⟨Same.refl _, Same.refl _, fun _ _ h => .inl h, fun _ _ h => h, fun j h => ?_⟩⟩
  · rw [upd_ne (ne_of_none e f)]
    exact S.fh _ _ e
  · by_cases hj : j = k
    · subst hj
      rw [List.getElem?_set_self hks] at h
      cases h
      exact ⟨a, ha, hc⟩
    · rw [List.getElem?_set_ne (Ne.symm hj)] at h
      obtain ⟨b, h1, h2⟩ := S.cells j d h
      have ne : b ≠ a := fun z => hj (S.nd j k a (z ▸ h1) ha)
      refine ⟨b, h1, h2.mono (Same.refl _) (Same.refl _) (fun _ o e => by rw [upd_ne ne]; exact e) (fun f => f) (fun _ g => g) fun z => ?_⟩
      subst z
      obtain ⟨_, ds, e, dd⟩ := h2
      exact ⟨ds, by rw [upd_ne ne]; exact e, dd⟩
  · by_cases hb : b = a
    · subst hb; exact ⟨o, upd_same⟩
    · rw [upd_ne hb]; exact S.live j b h
  · by_cases hj : j = k
    · subst hj
      rw [hk] at h
      cases h
      exact (nd rfl).elim
    · rw [List.getElem?_set_ne (Ne.symm hj)]; exact h
/-- the dice's own list is written -/
theorem SOk.writeD {k : Nat} {a : Addr} {o : HO} (S : SOk K cl F G H σ al sl st) (hk : st[k]? = some .dice) (ha : al[k]? = some a) (hc : DiceAt (upd H a o) a) : SOk K cl F G (upd H a o) σ al sl st := by
  obtain ⟨b, hb, f, _⟩ := S.cells k _ hk
  rw [ha] at hb
  cases hb
  refine ⟨S.gf, fun b u e => ?_, S.slots, S.len, fun j d h => ?_, S.nd, fun j b h => ?_, S.cnt⟩
  · rw [upd_ne (ne_of_none e f)]
    exact S.fh _ _ e
  · obtain ⟨b, h1, h2⟩ := S.cells j d h
    by_cases hj : b = a
    · subst hj
      have e := S.nd _ _ _ h1 ha
      subst e
      rw [hk] at h
      cases h
      exact ⟨b, h1, f, hc⟩
    · refine ⟨b, h1, h2.mono (Same.refl _) (Same.refl _) (fun _ o e => by rw [upd_ne hj]; exact e) (fun f => f) (fun _ g => g) fun z => ?_⟩
      subst z
      obtain ⟨_, ds, e, dd⟩ := h2
      exact ⟨ds, by rw [upd_ne hj]; exact e, dd⟩
  · by_cases hb : b = a
    · subst hb; exact ⟨o, upd_same⟩
    · rw [upd_ne hb]; exact S.live j b h
/-- a list of one's own becomes a tree's part -/
theorem SOk.freeze {k : Nat} {ps : List PV} (S : SOk K cl F G H σ al sl st) (hk : st[k]? = some (.lst ps)) :
    ∃ F' G', SOk K cl F' G' H σ al sl (st.set k (.frz ps)) ∧ Gr F G al st F' G' al (st.set k (.frz ps)) := by
  have hks : k < st.length := (List.getElem?_eq_some_iff.mp hk).1
  obtain ⟨a, ha, f, vs, e, r⟩ := S.cells k _ hk
  have g : G a = none := S.gf.free f
  refine ⟨upd F a (.lst vs), upd G a (.lst vs), ⟨same_upd S.gf, fun b u q => ?_, fun i x h => ?_, S.len, fun j d h => ?_, S.nd, S.live, by rw [List.length_set]; exact S.cnt⟩, ⟨same_new f, same_new g, fun b u q => ?_, fun _ _ h => h, fun j h => ?_⟩⟩
  · by_cases hb : b = a
    · subst hb; rw [upd_same] at q; rw [e]; exact q
    · rw [upd_ne hb] at q; exact S.fh _ _ q
  · obtain ⟨v, h1, h2⟩ := S.slots i x h
    exact ⟨v, h1, h2.mono (same_new g)⟩
  · by_cases hj : j = k
    · subst hj
      rw [List.getElem?_set_self hks] at h
      cases h
      exact ⟨a, ha, vs, upd_same, RepL.mono (same_new g) _ _ r⟩
    · rw [List.getElem?_set_ne (Ne.symm hj)] at h
      obtain ⟨b, h1, h2⟩ := S.cells j d h
      have ne : b ≠ a := fun z => hj (S.nd j k a (z ▸ h1) ha)
      refine ⟨b, h1, h2.mono (same_new f) (same_new g) (fun _ o e => e) (fun f => by rw [upd_ne ne]; exact f) (fun _ g => by rw [upd_ne ne]; exact g) fun z => ?_⟩
      subst z
      exact h2.2
  · by_cases hb : b = a
    · subst hb; exact .inr (.inl f)
    · rw [upd_ne hb] at q; exact .inl q
  · by_cases hj : j = k
    · subst hj
      rw [hk] at h
      cases h
    · rw [List.getElem?_set_ne (Ne.symm hj)]; exact h
/-- a list of one's own is locked for a walk -/
theorem SOk.lock {k : Nat} {ps : List PV} (S : SOk K cl F G H σ al sl st) (hk : st[k]? = some (.lst ps)) :
    ∃ F' a vs, al[k]? = some a ∧ F' a = some (.lst vs) ∧ F a = none ∧ F' = upd F a (.lst vs) ∧ RepL K cl G vs ps ∧ SOk K cl F' G H σ al sl (st.set k (.lk ps)) ∧ Gr F G al st F' G al (st.set k (.lk ps)) := by
  have hks : k < st.length := (List.getElem?_eq_some_iff.mp hk).1
  obtain ⟨a, ha, f, vs, e, r⟩ := S.cells k _ hk
  have g : G a = none := S.gf.free f
  refine ⟨upd F a (.lst vs), a, vs, ha, upd_same, f, rfl, r, ⟨S.gf.trans (same_new f), fun b u q => ?_, S.slots, S.len, fun j d h => ?_, S.nd, S.live, by rw [List.length_set]; exact S.cnt⟩, ⟨same_new f, Same.refl _, fun b u q => .inl q, fun _ _ h => h, fun j h => ?_⟩⟩
  · by_cases hb : b = a
    · subst hb; rw [upd_same] at q; rw [e]; exact q
    · rw [upd_ne hb] at q; exact S.fh _ _ q
  · by_cases hj : j = k
    · subst hj
      rw [List.getElem?_set_self hks] at h
      cases h
      exact ⟨a, ha, g, vs, upd_same, r⟩
    · rw [List.getElem?_set_ne (Ne.symm hj)] at h
      obtain ⟨b, h1, h2⟩ := S.cells j d h
      have ne : b ≠ a := fun z => hj (S.nd j k a (z ▸ h1) ha)
      refine ⟨b, h1, h2.mono (same_new f) (Same.refl _) (fun _ o e => e) (fun f => by rw [upd_ne ne]; exact f) (fun _ g => g) fun z => ?_⟩
      subst z
      exact h2.2
  · by_cases hj : j = k
    · subst hj
      rw [hk] at h
      cases h
    · rw [List.getElem?_set_ne (Ne.symm hj)]; exact h
/-- .. and unlocked: F the frame ahead of the lock -/
theorem SOk.unlock {k : Nat} {ps : List PV} {a : Addr} {F0 G0 : Hp} {al0 : List Addr} {st0 : Sto} {vs : List V} (S : SOk K cl F G H σ al sl st) (hk : st[k]? = some (.lk ps)) (ha : al[k]? = some a)
    (h0 : F0 a = none) (g : Gr (upd F0 a (.lst vs)) G0 al0 st0 F G al st) :
    ∃ F', SOk K cl F' G H σ al sl (st.set k (.lst ps)) ∧ Same F0 F' ∧ (∀ b o, G b = some o → G0 b = some o ∨ F0 b = none ∨ ∃ xs, o = .tup xs) := by
  have hks : k < st.length := (List.getElem?_eq_some_iff.mp hk).1
  obtain ⟨b, hb, ga, us, e, r⟩ := S.cells k _ hk
  rw [ha] at hb
  cases hb
  refine ⟨fun b => if b = a then none else F b, ⟨fun b u q => ?_, fun b u q => ?_, S.slots, S.len, fun j d h => ?_, S.nd, S.live, by rw [List.length_set]; exact S.cnt⟩, fun b u q => ?_, fun b o q => ?_⟩
  · have ne : b ≠ a := fun z => by rw [z, ga] at q; cases q
    show (if b = a then none else F b) = some u
    rw [if_neg ne]
    exact S.gf _ _ q
  · by_cases hb : b = a
    · have q' : (if b = a then none else F b) = some u := q
      rw [if_pos hb] at q'; cases q'
    · have q' : (if b = a then none else F b) = some u := q
      rw [if_neg hb] at q'
      exact S.fh _ _ q'
  · by_cases hj : j = k
    · subst hj
      rw [List.getElem?_set_self hks] at h
      cases h
      exact ⟨a, ha, if_pos rfl, us, S.fh _ _ e, r⟩
    · rw [List.getElem?_set_ne (Ne.symm hj)] at h
      obtain ⟨b, h1, h2⟩ := S.cells j d h
      have ne : b ≠ a := fun z => hj (S.nd j k a (z ▸ h1) ha)
      refine ⟨b, h1, ?_⟩
      cases d with
      | lst ps =>
        obtain ⟨f, vs, e, r⟩ := h2
        exact ⟨by show (if b = a then none else F b) = none; rw [if_neg ne]; exact f, vs, e, r⟩
      | frz ps => exact h2
      | lk ps =>
        obtain ⟨g, vs, e, r⟩ := h2
        exact ⟨g, vs, by show (if b = a then none else F b) = _; rw [if_neg ne]; exact e, r⟩
      | dT ks => exact ⟨by show (if b = a then none else F b) = none; rw [if_neg ne]; exact h2.1, h2.2⟩
      | dK ks ps => exact ⟨by show (if b = a then none else F b) = none; rw [if_neg ne]; exact h2.1, h2.2⟩
      | dice => exact ⟨by show (if b = a then none else F b) = none; rw [if_neg ne]; exact h2.1, h2.2⟩
      | lkT ks =>
        obtain ⟨g, od, e⟩ := h2
        exact ⟨g, od, by show (if b = a then none else F b) = _; rw [if_neg ne]; exact e⟩
      | pin B => exact h2
      | tab P q ls => exact ⟨by show (if b = a then none else F b) = none; rw [if_neg ne]; exact h2.1, h2.2⟩
  · have ne : b ≠ a := ne_of_none q h0
    show (if b = a then none else F b) = some u
    rw [if_neg ne]
    exact g.ff _ _ (by rw [upd_ne ne]; exact q)
  · rcases g.new b o q with z | z | z
    · exact .inl z
    · exact .inr (.inl ((same_new h0).free z))
    · exact .inr (.inr z)
/-- a dict of one's own is locked for a walk -/
theorem SOk.lockT {k : Nat} {ks : List (List Int)} (S : SOk K cl F G H σ al sl st) (hk : st[k]? = some (.dT ks)) :
    ∃ a, al[k]? = some a ∧ F a = none ∧ H a = some (.dT (ks.map fun k => (k.map Sum.inl, .bl true))) ∧ ∀ od, SOk K cl (upd F a (.frz od (.dT (ks.map fun k => (k.map Sum.inl, .bl true))))) G (upd H a (.frz od (.dT (ks.map fun k => (k.map Sum.inl, .bl true))))) σ al sl (st.set k (.lkT ks)) ∧
      Gr F G al st (upd F a (.frz od (.dT (ks.map fun k => (k.map Sum.inl, .bl true))))) G al (st.set k (.lkT ks)) := by
  have hks : k < st.length := (List.getElem?_eq_some_iff.mp hk).1
  obtain ⟨a, ha, f, e⟩ := S.cells k _ hk
  have g : G a = none := S.gf.free f
  refine ⟨a, ha, f, e, fun od => ⟨⟨S.gf.trans (same_new f), same_upd S.fh, S.slots, S.len, fun j d h => ?_, S.nd, fun j b h => ?_, by rw [List.length_set]; exact S.cnt⟩, ⟨same_new f, Same.refl _, fun b u q => .inl q, fun _ _ h => h, fun j h => ?_⟩⟩⟩
  · by_cases hj : j = k
    · subst hj
      rw [List.getElem?_set_self hks] at h
      cases h
      exact ⟨a, ha, g, od, upd_same⟩
    · rw [List.getElem?_set_ne (Ne.symm hj)] at h
      obtain ⟨b, h1, h2⟩ := S.cells j d h
      have ne : b ≠ a := fun z => hj (S.nd j k a (z ▸ h1) ha)
      refine ⟨b, h1, h2.mono (same_new f) (Same.refl _) (fun _ o e => by rw [upd_ne ne]; exact e) (fun f => by rw [upd_ne ne]; exact f) (fun _ g => g) fun z => ?_⟩
      subst z
      obtain ⟨_, ds, e, dd⟩ := h2
      exact ⟨ds, by rw [upd_ne ne]; exact e, dd⟩
  · by_cases hb : b = a
    · subst hb; exact ⟨_, upd_same⟩
    · rw [upd_ne hb]; exact S.live j b h
  · by_cases hj : j = k
    · subst hj
      rw [hk] at h
      cases h
    · rw [List.getElem?_set_ne (Ne.symm hj)]; exact h
/-- .. and unlocked -/
theorem SOk.unlockT {k : Nat} {ks : List (List Int)} {a : Addr} {od : Obj} {F0 G0 : Hp} {al0 : List Addr} {st0 : Sto} (S : SOk K cl F G H σ al sl st) (hk : st[k]? = some (.lkT ks)) (ha : al[k]? = some a)
    (h0 : F0 a = none) (g : Gr (upd F0 a (.frz od (.dT (ks.map fun k => (k.map Sum.inl, .bl true))))) G0 al0 st0 F G al st) :
    ∃ F', SOk K cl F' G (upd H a (.dT (ks.map fun k => (k.map Sum.inl, .bl true)))) σ al sl (st.set k (.dT ks)) ∧ F' a = none ∧ Same F0 F' ∧ (∀ b o, G b = some o → G0 b = some o ∨ F0 b = none ∨ ∃ xs, o = .tup xs) := by
  have hks : k < st.length := (List.getElem?_eq_some_iff.mp hk).1
  obtain ⟨b, hb, ga, od', e⟩ := S.cells k _ hk
  rw [ha] at hb
  cases hb
  refine ⟨fun b => if b = a then none else F b, ⟨fun b u q => ?_, fun b u q => ?_, S.slots, S.len, fun j d h => ?_, S.nd, fun j b h => ?_, by rw [List.length_set]; exact S.cnt⟩, if_pos rfl, fun b u q => ?_, fun b o q => ?_⟩
  · have ne : b ≠ a := fun z => by rw [z, ga] at q; cases q
    show (if b = a then none else F b) = some u
    rw [if_neg ne]
    exact S.gf _ _ q
  · by_cases hb : b = a
    · have q' : (if b = a then none else F b) = some u := q
      rw [if_pos hb] at q'; cases q'
    · have q' : (if b = a then none else F b) = some u := q
      rw [if_neg hb] at q'
      rw [upd_ne hb]
      exact S.fh _ _ q'
  · by_cases hj : j = k
    · subst hj
      rw [List.getElem?_set_self hks] at h
      cases h
      exact ⟨a, ha, if_pos rfl, upd_same⟩
    · rw [List.getElem?_set_ne (Ne.symm hj)] at h
      obtain ⟨b, h1, h2⟩ := S.cells j d h
      have ne : b ≠ a := fun z => hj (S.nd j k a (z ▸ h1) ha)
      have fe : (if b = a then none else F b) = F b := if_neg ne
      refine ⟨b, h1, ?_⟩
      cases d with
      | lst ps =>
        obtain ⟨f, vs, e, r⟩ := h2
        exact ⟨fe.trans f, vs, by rw [upd_ne ne]; exact e, r⟩
      | frz ps => exact h2
      | lk ps =>
        obtain ⟨g, vs, e, r⟩ := h2
        exact ⟨g, vs, fe.trans e, r⟩
      | dT ks => exact ⟨fe.trans h2.1, by rw [upd_ne ne]; exact h2.2⟩
      | dK ks ps =>
        obtain ⟨f, vs, e, l, r⟩ := h2
        exact ⟨fe.trans f, vs, by rw [upd_ne ne]; exact e, l, r⟩
      | dice =>
        obtain ⟨f, ds, e, dd⟩ := h2
        exact ⟨fe.trans f, ds, by rw [upd_ne ne]; exact e, dd⟩
      | lkT ks =>
        obtain ⟨g, od, e⟩ := h2
        exact ⟨g, od, fe.trans e⟩
      | pin B => exact h2
      | tab P q ls =>
        obtain ⟨f, ap, hl, ps, e, r⟩ := h2
        exact ⟨fe.trans f, ap, hl, ps, by rw [upd_ne ne]; exact e, r⟩
  · by_cases hb : b = a
    · subst hb; exact ⟨_, upd_same⟩
    · rw [upd_ne hb]; exact S.live j b h
  · have ne : b ≠ a := ne_of_none q h0
    show (if b = a then none else F b) = some u
    rw [if_neg ne]
    exact g.ff _ _ (by rw [upd_ne ne]; exact q)
  · rcases g.new b o q with z | z | z
    · exact .inl z
    · exact .inr (.inl ((same_new h0).free z))
    · exact .inr (.inr z)
open Classical in
/-- behind a call: what is one's own is as it was -/
theorem SOk.after {G1 H1 : Hp} (S : SOk K cl F G H σ al sl st) (sG : Same G G1) (gh : Same G1 H1) (sF : Same F H1)
    (new : ∀ a o, G1 a = some o → G a = some o ∨ H a = none ∨ ∃ xs, o = .tup xs)
    (own : ∀ (k : Nat) (a : Addr) (c : Cell), st[k]? = some c → al[k]? = some a → F a = none → c ≠ .dice → H1 a = H a) (dice : ∀ (k : Nat) (a : Addr), st[k]? = some .dice → al[k]? = some a → DiceAt H1 a) :
    ∃ F1, Same F1 H1 ∧ SOk K cl F1 G1 H1 σ al sl st ∧ Gr F G al st F1 G1 al st := by
  have kind : ∀ (k : Nat) (a : Addr) (xs : List V), al[k]? = some a → F a = none → H1 a ≠ some (.tup xs) := fun k a xs h f => by
    obtain ⟨c, h1, h2⟩ := S.cell h
    by_cases hc : c = .dice
    · subst hc
      obtain ⟨ds, e, _⟩ := dice k a h1 h
      rw [e]
      intro z
      cases z
    · rw [own k a c h1 h f hc]
      exact h2.notTup f S.gf
  have lv : ∀ (k : Nat) (a : Addr), al[k]? = some a → ∃ o, H1 a = some o := fun k a h => by
    obtain ⟨c, h1, h2⟩ := S.cell h
    obtain ⟨o, ho⟩ := S.live k a h
    cases f : F a with
    | some u => exact ⟨u, sF _ _ f⟩
    | none =>
      by_cases hc : c = .dice
      · subst hc
        obtain ⟨ds, e, _⟩ := dice k a h1 h
        exact ⟨_, e⟩
      · exact ⟨o, by rw [own k a c h1 h f hc]; exact ho⟩
  refine ⟨fun a => if (∃ k : Nat, al[k]? = some a) ∧ F a = none then none else H1 a, fun b u q => ?_, ⟨fun b u q => ?_, fun b u q => ?_, fun i x h => ?_, S.len, fun k c h => ?_, S.nd, lv, S.cnt⟩, ⟨fun b u q => ?_, sG, fun b u q => ?_, fun _ _ h => h, fun _ h => h⟩⟩
  · have q' : (if (∃ k : Nat, al[k]? = some b) ∧ F b = none then none else H1 b) = some u := q
    split at q'
    · cases q'
    · exact q'
  · show (if (∃ k : Nat, al[k]? = some b) ∧ F b = none then none else H1 b) = some u
    rw [if_neg, gh _ _ q]
    rintro ⟨⟨k, hk⟩, f⟩
    rcases new b u q with z | z | ⟨xs, z⟩
    · rw [S.gf _ _ z] at f; cases f
    · obtain ⟨o, ho⟩ := S.live k b hk
      rw [z] at ho; cases ho
    · subst z
      exact kind k b xs hk f (gh _ _ q)
  · have q' : (if (∃ k : Nat, al[k]? = some b) ∧ F b = none then none else H1 b) = some u := q
    split at q'
    · cases q'
    · exact q'
  · obtain ⟨v, h1, h2⟩ := S.slots i x h
    exact ⟨v, h1, h2.mono sG⟩
  · obtain ⟨a, h1, h2⟩ := S.cells k c h
    refine ⟨a, h1, ?_⟩
    have nF : F a = none → (if (∃ k : Nat, al[k]? = some a) ∧ F a = none then none else H1 a) = none := fun f => if_pos ⟨⟨k, h1⟩, f⟩
    cases c with
    | lst ps =>
      obtain ⟨f, vs, e, r⟩ := h2
      exact ⟨nF f, vs, by rw [own k a _ h h1 f (by intro z; cases z)]; exact e, RepL.mono sG _ _ r⟩
    | frz ps =>
      obtain ⟨vs, e, r⟩ := h2
      exact ⟨vs, sG _ _ e, RepL.mono sG _ _ r⟩
    | lk ps =>
      obtain ⟨g, vs, e, r⟩ := h2
      refine ⟨?_, vs, ?_, RepL.mono sG _ _ r⟩
      · cases q : G1 a with
        | none => rfl
        | some u =>
          rcases new a u q with z | z | ⟨xs, z⟩
          · rw [g] at z; cases z
          · rw [S.fh _ _ e] at z; cases z
          · subst z
            have z1 := sF _ _ e
            rw [gh _ _ q] at z1
            cases z1
      · show (if (∃ k : Nat, al[k]? = some a) ∧ F a = none then none else H1 a) = _
        rw [if_neg, sF _ _ e]
        rintro ⟨_, f⟩
        rw [e] at f; cases f
    | dT ks =>
      obtain ⟨f, e⟩ := h2
      exact ⟨nF f, by rw [own k a _ h h1 f (by intro z; cases z)]; exact e⟩
    | dK ks ps =>
      obtain ⟨f, vs, e, l, r⟩ := h2
      exact ⟨nF f, vs, by rw [own k a _ h h1 f (by intro z; cases z)]; exact e, l, RepL.mono sG _ _ r⟩
    | dice => exact ⟨nF h2.1, dice k a h h1⟩
    | lkT ks =>
      obtain ⟨g, od, e⟩ := h2
      refine ⟨?_, od, ?_⟩
      · cases q : G1 a with
        | none => rfl
        | some u =>
          rcases new a u q with z | z | ⟨xs, z⟩
          · rw [g] at z; cases z
          · rw [S.fh _ _ e] at z; cases z
          · subst z
            have z1 := sF _ _ e
            rw [gh _ _ q] at z1
            cases z1
      · show (if (∃ k : Nat, al[k]? = some a) ∧ F a = none then none else H1 a) = _
        rw [if_neg, sF _ _ e]
        rintro ⟨_, f⟩
        rw [e] at f; cases f
    | pin B =>
      obtain ⟨⟨o, e⟩, sB⟩ := h2
      exact ⟨⟨o, sG _ _ e⟩, sB.trans sG⟩
    | tab P q ls =>
      obtain ⟨f, ap, hl, ps, e, t, r⟩ := h2
      exact ⟨nF f, ap, fun x hx => ⟨sG _ _ (hl x hx).1, sG _ _ (hl x hx).2⟩, ps, by rw [own k a _ h h1 f (by intro z; cases z)]; exact e, t, fun pos cv hc => (r pos cv hc).imp fun c z => ⟨z.1, sG _ _ z.2⟩⟩
  · show (if (∃ k : Nat, al[k]? = some b) ∧ F b = none then none else H1 b) = some u
    rw [if_neg, sF _ _ q]
    rintro ⟨_, f⟩
    rw [q] at f; cases f
  · rcases new b u q with z | z | z
    · exact .inl z
    · exact .inr (.inl (S.fh.free z))
    · exact .inr (.inr z)
open Classical in
/-- tuples that stand in the heap become parts of trees -/
theorem SOk.addTups {bs : List Addr} (S : SOk K cl F G H σ al sl st) (hb : ∀ b ∈ bs, ∃ xs, H b = some (.tup xs)) :
    ∃ F1 G1, SOk K cl F1 G1 H σ al sl st ∧ Gr F G al st F1 G1 al st ∧ ∀ b ∈ bs, G1 b = H b := by
  have sG : Same G (fun b => if b ∈ bs then H b else G b) := fun b u e => by
    show (if b ∈ bs then H b else G b) = some u
    split
    · exact S.fh _ _ (S.gf _ _ e)
    · exact e
  have gh : Same (fun b => if b ∈ bs then H b else G b) H := fun b u e => by
    have e' : (if b ∈ bs then H b else G b) = some u := e
    split at e'
    · exact e'
    · exact S.fh _ _ (S.gf _ _ e')
  obtain ⟨F1, _, S1, g1⟩ := S.after sG gh S.fh (fun b u e => by
    have e' : (if b ∈ bs then H b else G b) = some u := e
    split at e'
    · rename_i hm
      obtain ⟨xs, hx⟩ := hb b hm
      rw [hx] at e'
      cases e'
      exact .inr (.inr ⟨xs, rfl⟩)
    · exact .inl e') (fun _ _ _ _ _ _ _ => rfl) fun k a h1 h2 => by
    obtain ⟨b, hb, _, d⟩ := S.cells k _ h1
    rw [h2] at hb
    cases hb
    exact d
  exact ⟨F1, _, S1, g1, fun b hm => if_pos hm⟩
/-- a slot is set -/
theorem SOk.set {i : Nat} {v : V} {x : W} (S : SOk K cl F G H σ al sl st) (r : RepW K cl al G v x) : SOk K cl F G H (σ.set i (some v)) al (sl.set i (some x)) st := by
  refine ⟨S.gf, S.fh, fun j y h => ?_, by rw [List.length_set, List.length_set]; exact S.len, S.cells, S.nd, S.live, S.cnt⟩
  by_cases hj : j = i
  · subst hj
    have hl : j < sl.length := by
      have := (List.getElem?_eq_some_iff.mp h).1
      rw [List.length_set] at this
      exact this
    rw [List.getElem?_set_self hl] at h
    cases h
    exact ⟨v, List.getElem?_set_self (by rw [S.len]; exact hl), r⟩
  · rw [List.getElem?_set_ne (Ne.symm hj)] at h
    obtain ⟨u, h1, h2⟩ := S.slots j y h
    exact ⟨u, by rw [List.getElem?_set_ne (Ne.symm hj)]; exact h1, h2⟩
/-- a slot is forgotten -/
theorem SOk.gone {i : Nat} (S : SOk K cl F G H σ al sl st) : SOk K cl F G H (σ.set i none) al (sl.set i none) st := by
  refine ⟨S.gf, S.fh, fun j y h => ?_, by rw [List.length_set, List.length_set]; exact S.len, S.cells, S.nd, S.live, S.cnt⟩
  by_cases hj : j = i
  · subst hj
    have hl : j < sl.length := by
      have := (List.getElem?_eq_some_iff.mp h).1
      rw [List.length_set] at this
      exact this
    rw [List.getElem?_set_self hl] at h
    cases h
  · rw [List.getElem?_set_ne (Ne.symm hj)] at h
    obtain ⟨u, h1, h2⟩ := S.slots j y h
    exact ⟨u, by rw [List.getElem?_set_ne (Ne.symm hj)]; exact h1, h2⟩
def wipeS (sl : Sl) : List Nat → Sl
  | [] => sl
  | v :: vs => (wipeS sl vs).set v none
theorem SOk.wipe (S : SOk K cl F G H σ al sl st) : ∀ vs : List Nat, SOk K cl F G H (L2.wipe σ vs) al (wipeS sl vs) st
  | [] => S
  | v :: vs => (SOk.wipe S vs).gone
/-- back behind a block: the slots as they were -/
theorem SOk.back {F1 G1 H1 : Hp} {σ1 : L2.St} {al1 : List Addr} {sl1 : Sl} {st1 : Sto} (S : SOk K cl F G H σ al sl st) (S1 : SOk K cl F1 G1 H1 σ1 al1 sl1 st1) (g : Gr F G al st F1 G1 al1 st1) : SOk K cl F1 G1 H1 σ al1 sl st1 :=
  ⟨S1.gf, S1.fh, fun i x h => by
    obtain ⟨v, h1, h2⟩ := S.slots i x h
    exact ⟨v, h1, h2.gr g⟩, S.len, S1.cells, S1.nd, S1.live, S1.cnt⟩
end
end VL

set_option Elab.async false
set_option linter.all false
set_option maxRecDepth 100000
set_option maxHeartbeats 2000000
/-! The value layer: the judgements and the rules of expressions. -/
namespace VL
open PySem L2

abbrev WE := Sl → Sto → (W → Sto → Prop) → Prop
abbrev WT := Sl → Sto → (Bool → Sto → Prop) → Prop
abbrev WA := Sl → Sto → (List W → Sto → Prop) → Prop
abbrev W2 := W → W → Sto → (W → Sto → Prop) → Prop
abbrev W1 := W → Sto → (W → Sto → Prop) → Prop
abbrev WL := List W → Sto → (W → Sto → Prop) → Prop
structure PEnds where
  nx : Sl → Sto → Prop
  rt : PV → Sto → Prop
  bk : Sl → Sto → Prop := fun _ _ => False
  ct : Sl → Sto → Prop := fun _ _ => False
abbrev WS := PEnds → Sl → Sto → Prop
abbrev WG := W → Sl → Sto → (Sl → Sto → Prop) → Prop
abbrev WGs := List PV → Sl → Sto → (Sl → Sto → Prop) → Prop

section
variable (K : PySem.W.Frag) (cl : Str → Option Addr)
def RepWs (al : List Addr) (G : Hp) : List V → List W → Prop
  | [], [] => True
  | v :: vs, x :: xs => RepW K cl al G v x ∧ RepWs al G vs xs
  | _, _ => False
/-- what is wanted of a value -/
def QOk (F G : Hp) (σ : L2.St) (al : List Addr) (sl : Sl) (st : Sto) (R : W → Sto → Prop) (Q : VK) : Prop :=
  ∀ v x st' F' G' H', R x st' → Gr F G al st F' G' al st' → SOk K cl F' G' H' σ al sl st' → RepW K cl al G' v x → Q v H'
def QOkT (F G : Hp) (σ : L2.St) (al : List Addr) (sl : Sl) (st : Sto) (R : Bool → Sto → Prop) (Q : Bool → Hp → Prop) : Prop :=
  ∀ b st' F' G' H', R b st' → Gr F G al st F' G' al st' → SOk K cl F' G' H' σ al sl st' → Q b H'
def QOkA (F G : Hp) (σ : L2.St) (al : List Addr) (sl : Sl) (st : Sto) (R : List W → Sto → Prop) (Q : List V → Hp → Prop) : Prop :=
  ∀ vs xs st' F' G' H', R xs st' → Gr F G al st F' G' al st' → SOk K cl F' G' H' σ al sl st' → RepWs K cl al G' vs xs → Q vs H'
def SE (te : TE) (w : WE) : Prop := ∀ sl st R, w sl st R → ∀ F G H σ al, SOk K cl F G H σ al sl st → ∀ Q : VK, QOk K cl F G σ al sl st R Q → te σ H Q
def STt (t : TT) (w : WT) : Prop := ∀ sl st R, w sl st R → ∀ F G H σ al, SOk K cl F G H σ al sl st → ∀ Q, QOkT K cl F G σ al sl st R Q → t σ H Q
def SA (t : TA) (w : WA) : Prop := ∀ sl st R, w sl st R → ∀ F G H σ al, SOk K cl F G H σ al sl st → ∀ Q, QOkA K cl F G σ al sl st R Q → t σ H Q
def SR (r : R2) (w : W2) : Prop := ∀ x y sl st R, w x y st R → ∀ F G H σ al, SOk K cl F G H σ al sl st → ∀ v u, RepW K cl al G v x → RepW K cl al G u y → ∀ Q, QOk K cl F G σ al sl st R Q → r v u H Q
def SU (r : V → Hp → VK → Prop) (w : W1) : Prop := ∀ x sl st R, w x st R → ∀ F G H σ al, SOk K cl F G H σ al sl st → ∀ v, RepW K cl al G v x → ∀ Q, QOk K cl F G σ al sl st R Q → r v H Q
def SC (r : List V → Hp → VK → Prop) (w : WL) : Prop := ∀ xs sl st R, w xs st R → ∀ F G H σ al, SOk K cl F G H σ al sl st → ∀ vs, RepWs K cl al G vs xs → ∀ Q, QOk K cl F G σ al sl st R Q → r vs H Q
end

section
variable {K : PySem.W.Frag} {cl : Str → Option Addr} {F G H F' G' : Hp} {σ : L2.St} {al al' : List Addr} {sl : Sl} {st st' : Sto}
theorem QOk.gr {R : W → Sto → Prop} {Q : VK} (g : Gr F G al st F' G' al st') (q : QOk K cl F G σ al sl st R Q) : QOk K cl F' G' σ al sl st' R Q :=
  fun v x st'' F'' G'' H'' r g' S rv => q v x st'' F'' G'' H'' r (g.trans g') S rv
theorem QOkT.gr {R : Bool → Sto → Prop} {Q : Bool → Hp → Prop} (g : Gr F G al st F' G' al st') (q : QOkT K cl F G σ al sl st R Q) : QOkT K cl F' G' σ al sl st' R Q :=
  fun v st'' F'' G'' H'' r g' S => q v st'' F'' G'' H'' r (g.trans g') S
theorem QOkA.gr {R : List W → Sto → Prop} {Q : List V → Hp → Prop} (g : Gr F G al st F' G' al st') (q : QOkA K cl F G σ al sl st R Q) : QOkA K cl F' G' σ al sl st' R Q :=
  fun v x st'' F'' G'' H'' r g' S rv => q v x st'' F'' G'' H'' r (g.trans g') S rv
theorem QOk.at {R : W → Sto → Prop} {Q : VK} {v : V} {x : W} (q : QOk K cl F G σ al sl st R Q) (r : R x st) (S : SOk K cl F G H σ al sl st) (rv : RepW K cl al G v x) : Q v H := q v x st F G H r .refl S rv
theorem QOkT.at {R : Bool → Sto → Prop} {Q : Bool → Hp → Prop} {b : Bool} (q : QOkT K cl F G σ al sl st R Q) (r : R b st) (S : SOk K cl F G H σ al sl st) : Q b H := q b st F G H r .refl S
theorem RepWs.mono (e : Same G G') : ∀ {xs : List W} {vs : List V}, RepWs K cl al G vs xs → RepWs K cl al G' vs xs
  | [], [], _ => trivial
  | x :: xs, v :: vs, h => ⟨h.1.mono e, RepWs.mono e h.2⟩
  | [], _ :: _, h => h.elim
  | _ :: _, [], h => h.elim

/-! ### constants, names -/
def wVar (i : Nat) : WE := fun sl st R => match sl[i]? with
  | some (some x) => R x st
  | _ => False
def wC (p : PV) : WE := fun _ st R => R (.v p) st
theorem se_var {i : Nat} : SE K cl (tVar i) (wVar i) := by
  intro sl st R h F G H σ al S Q q
  unfold wVar at h
  split at h
  · rename_i x e
    obtain ⟨v, h1, h2⟩ := S.slots i x e
    exact ⟨v, h1, q.at h S h2⟩
  · exact h.elim
theorem se_c {v : V} {p : PV} (hp : ∀ G, Rep K cl G v p) : SE K cl (tC v) (wC p) := fun sl st R h F G H σ al S Q q => q.at h S (hp G)

/-! ### operators -/
def wOp (w : W2) (wa wb : WE) : WE := fun sl st R => wa sl st fun x st1 => wb sl st1 fun y st2 => w x y st2 R
def wUn (w : W1) (wa : WE) : WE := fun sl st R => wa sl st fun x st1 => w x st1 R
theorem se_op {r : R2} {w : W2} {ta tb : TE} {wa wb : WE} (hr : SR K cl r w) (ha : SE K cl ta wa) (hb : SE K cl tb wb) : SE K cl (tOp r ta tb) (wOp w wa wb) := by
  intro sl st R h F G H σ al S Q q
  refine ha sl st _ h F G H σ al S _ fun v x st1 F1 G1 H1 h1 g1 S1 r1 => ?_
  refine hb sl st1 _ h1 F1 G1 H1 σ al S1 _ fun u y st2 F2 G2 H2 h2 g2 S2 r2 => ?_
  exact hr x y sl st2 R h2 F2 G2 H2 σ al S2 v u (r1.mono g2.gg) r2 Q (q.gr (g1.trans g2))
theorem se_un {r : V → Hp → VK → Prop} {w : W1} {ta : TE} {wa : WE} (hr : SU K cl r w) (ha : SE K cl ta wa) : SE K cl (tUn r ta) (wUn w wa) := by
  intro sl st R h F G H σ al S Q q
  refine ha sl st _ h F G H σ al S _ fun v x st1 F1 G1 H1 h1 g1 S1 r1 => ?_
  exact hr x sl st1 R h1 F1 G1 H1 σ al S1 v r1 Q (q.gr g1)
/-- by two ints -/
def wI (C : Int → Int → Prop) (g : Int → Int → PV) : W2 := fun x y st R => match x, y with
  | .v (.int i), .v (.int j) => C i j ∧ R (.v (g i j)) st
  | _, _ => False
def wI0 (g : Int → Int → PV) : W2 := fun x y st R => match x, y with
  | .v (.int i), .v (.int j) => R (.v (g i j)) st
  | _, _ => False
theorem sr_I {C : Int → Int → Prop} {g : Int → Int → V} {g' : Int → Int → PV} (h : ∀ i j G, Rep K cl G (g i j) (g' i j)) : SR K cl (rI C g) (wI C g') := by
  intro x y sl st R hw F G H σ al S v u rv ru Q q
  unfold wI at hw
  split at hw
  · rename_i i j
    cases rv
    cases ru
    exact ⟨i, j, rfl, rfl, hw.1, q.at hw.2 S (h i j G)⟩
  · exact hw.elim
theorem sr_I0 {g : Int → Int → V} {g' : Int → Int → PV} (h : ∀ i j G, Rep K cl G (g i j) (g' i j)) : SR K cl (rI0 g) (wI0 g') := by
  intro x y sl st R hw F G H σ al S v u rv ru Q q
  unfold wI0 at hw
  split at hw
  · rename_i i j
    cases rv
    cases ru
    exact ⟨i, j, rfl, rfl, q.at hw S (h i j G)⟩
  · exact hw.elim
theorem SR.or1 {r r' : R2} {w : W2} (h : SR K cl r w) : SR K cl (fun x y H Q => r x y H Q ∨ r' x y H Q) w := fun x y sl st R hw F G H σ al S v u rv ru Q q => .inl (h x y sl st R hw F G H σ al S v u rv ru Q q)
theorem SR.or2 {r r' : R2} {w : W2} (h : SR K cl r' w) : SR K cl (fun x y H Q => r x y H Q ∨ r' x y H Q) w := fun x y sl st R hw F G H σ al S v u rv ru Q q => .inr (h x y sl st R hw F G H σ al S v u rv ru Q q)
/-- the items of a list, a value's or one's own -/
def items (x : W) (st : Sto) : Option (List PV) := match x with
  | .v (.lst ps) => some ps
  | .l k => match st[k]? with
    | some (.lst ps) => some ps
    | some (.frz ps) => some ps
    | some (.lk ps) => some ps
    | _ => none
  | _ => none
theorem items_at {x : W} {v : V} {ps : List PV} (S : SOk K cl F G H σ al sl st) (r : RepW K cl al G v x) (h : items x st = some ps) : ∃ a vs, v = .ref a ∧ H a = some (.lst vs) ∧ RepL K cl G vs ps := by
  cases x with
  | v p =>
    cases p with
    | lst qs =>
      cases h
      cases r with
      | lst e l => exact ⟨_, _, rfl, S.fh _ _ (S.gf _ _ e), l⟩
    | _ => cases h
  | l k =>
    obtain ⟨a, h1, rfl⟩ := r
    obtain ⟨c, h2, h3⟩ := S.cell h1
    unfold items at h
    simp only [h2] at h
    cases c with
    | lst qs =>
      cases h
      obtain ⟨_, vs, e, l⟩ := h3
      exact ⟨a, vs, rfl, e, l⟩
    | frz qs =>
      cases h
      obtain ⟨vs, e, l⟩ := h3
      exact ⟨a, vs, rfl, S.fh _ _ (S.gf _ _ e), l⟩
    | lk qs =>
      cases h
      obtain ⟨_, vs, e, l⟩ := h3
      exact ⟨a, vs, rfl, S.fh _ _ e, l⟩
    | _ => cases h
  | o u => cases h
  | ik c f k => cases h
  | im c fs => cases h
/-- a new list, as a value -/
theorem QOk.newL {R : W → Sto → Prop} {Q : VK} {p : Addr} {vs : List V} {ps : List PV} (q : QOk K cl F G σ al sl st R Q) (S : SOk K cl F G H σ al sl st) (hp : H p = none) (r : RepL K cl G vs ps) (h : R (.v (.lst ps)) st) : Q (.ref p) (upd H p (.lst vs)) := by
  obtain ⟨S', g⟩ := S.new (o := .lst vs) hp
  exact q (.ref p) _ _ _ _ _ h g S' (.lst upd_same (RepL.mono g.gg _ _ r))
theorem QOk.newT {R : W → Sto → Prop} {Q : VK} {p : Addr} {vs : List V} {ps : List PV} (q : QOk K cl F G σ al sl st R Q) (S : SOk K cl F G H σ al sl st) (hp : H p = none) (r : RepL K cl G vs ps) (h : R (.v (.tup ps)) st) : Q (.ref p) (upd H p (.tup vs)) := by
  obtain ⟨S', g⟩ := S.new (o := .tup vs) hp
  exact q (.ref p) _ _ _ _ _ h g S' (.tup (SqU.of upd_same) (RepL.mono g.gg _ _ r))

/-- + : ints, texts, lists -/
def rAddAny : R2 := fun x y H Q => rI0 (fun i j => .int (i + j)) x y H Q ∨ ((∃ i j, x = .str i ∧ y = .str j ∧ i.length + j.length ≤ sizeLine ∧ Q (.str (i ++ j)) H) ∨ rCat x y H Q)
theorem op_addAny {X : Cx} : OpR X (binaryOp .Add) rAddAny := OpR.or op_add (OpR.or op_add_str op_cat)
def wAdd : W2 := fun x y st R => match x, y with
  | .v (.int i), .v (.int j) => R (.v (.int (i + j))) st
  | .v (.str i), .v (.str j) => i.length + j.length ≤ sizeLine ∧ R (.v (.str (i ++ j))) st
  | x, y => match items x st, items y st with
    | some ps, some qs => ps.length + qs.length ≤ sizeLine ∧ R (.v (.lst (ps ++ qs))) st
    | _, _ => False
theorem sr_add : SR K cl rAddAny wAdd := by
  intro x y sl st R hw F G H σ al S v u rv ru Q q
  unfold wAdd at hw
  split at hw
  · rename_i i j
    cases rv
    cases ru
    exact .inl ⟨i, j, rfl, rfl, q.at hw S (.int _)⟩
  · rename_i i j
    cases rv
    cases ru
    exact .inr (.inl ⟨i, j, rfl, rfl, hw.1, q.at hw.2 S (.str _)⟩)
  · split at hw
    · rename_i ps qs e1 e2
      obtain ⟨a, vs, rfl, h1, l1⟩ := items_at S rv e1
      obtain ⟨b, us, rfl, h2, l2⟩ := items_at S ru e2
      refine .inr (.inr ⟨a, b, vs, us, rfl, rfl, h1, h2, ?_, fun p hp => q.newL S hp (l1.append l2) hw.2⟩)
      rw [l1.len, l2.len]
      exact hw.1
    · exact hw.elim
/-- * : ints, a list -/
def rMulAny : R2 := fun x y H Q => rI CMul (fun i j => .int (i * j)) x y H Q ∨ rRep x y H Q
theorem op_mulAny {X : Cx} : OpR X (binaryOp .Mult) rMulAny := OpR.or op_mul op_rep
theorem RepL.rep {vs : List V} {ps : List PV} (h : RepL K cl G vs ps) : ∀ k : Nat, RepL K cl G (List.replicate k vs).flatten (List.replicate k ps).flatten
  | 0 => .nil
  | k + 1 => by
    rw [List.replicate_succ, List.replicate_succ, List.flatten_cons, List.flatten_cons]
    exact h.append (RepL.rep h k)
def wMul : W2 := fun x y st R => match x, y with
  | .v (.int i), .v (.int j) => CMul i j ∧ R (.v (.int (i * j))) st
  | x, .v (.int k) => match items x st with
    | some ps => (-(2 ^ 63) ≤ k ∧ k < 2 ^ 63 ∧ ps.length * k.toNat ≤ sizeLine) ∧ R (.v (.lst (List.replicate k.toNat ps).flatten)) st
    | _ => False
  | _, _ => False
theorem sr_mul : SR K cl rMulAny wMul := by
  intro x y sl st R hw F G H σ al S v u rv ru Q q
  unfold wMul at hw
  split at hw
  · rename_i i j
    cases rv
    cases ru
    exact .inl ⟨i, j, rfl, rfl, hw.1, q.at hw.2 S (.int _)⟩
  · rename_i k _
    split at hw
    · rename_i ps e1
      obtain ⟨a, vs, rfl, h1, l1⟩ := items_at S rv e1
      cases ru
      obtain ⟨⟨b1, b2, b3⟩, hw⟩ := hw
      exact .inr ⟨a, k, vs, rfl, rfl, h1, b1, b2, by rw [l1.len]; exact b3, fun p hp => q.newL S hp (l1.rep _) hw⟩
    · exact hw.elim
  · exact hw.elim
/-- // by a divisor that is not great -/
def wFdiv : W2 := wI CDivN fun i j => .int (i.fdiv j)
theorem sr_fdiv : SR K cl (rI CDivN fun i j => .int (i.fdiv j)) wFdiv := sr_I fun _ _ _ => .int _
def wMod : W2 := wI (fun _ j => j ≠ 0) fun i j => .int (i.fmod j)
theorem sr_mod : SR K cl (rI (fun _ j => j ≠ 0) fun i j => .int (i.fmod j)) wMod := sr_I fun _ _ _ => .int _
def wSub : W2 := wI0 fun i j => .int (i - j)
theorem sr_sub : SR K cl (rI0 fun i j => .int (i - j)) wSub := sr_I0 fun _ _ _ => .int _
def wPow : W2 := wI CPow fun i j => .int (i ^ j.toNat)
theorem sr_pow : SR K cl (rI CPow fun i j => .int (i ^ j.toNat)) wPow := sr_I fun _ _ _ => .int _
def wNeg : W1 := fun x st R => match x with
  | .v (.int i) => R (.v (.int (-i))) st
  | _ => False
theorem su_neg : SU K cl (rU fun i => .int (-i)) wNeg := by
  intro x sl st R hw F G H σ al S v rv Q q
  unfold wNeg at hw
  split at hw
  · rename_i i
    cases rv
    exact ⟨i, rfl, q.at hw S (.int _)⟩
  · exact hw.elim

/-! ### comparisons -/
def wLe : W2 := wI0 fun i j => .bl (decide (i ≤ j))
theorem sr_le : SR K cl (rI0 fun i j => .bl (decide (i ≤ j))) wLe := sr_I0 fun _ _ _ => .bl _
def wGt : W2 := wI0 fun i j => .bl (decide (j < i))
theorem sr_gt : SR K cl (rI0 fun i j => .bl (decide (j < i))) wGt := sr_I0 fun _ _ _ => .bl _
def wGe : W2 := wI0 fun i j => .bl (decide (j ≤ i))
theorem sr_ge : SR K cl (rI0 fun i j => .bl (decide (j ≤ i))) wGe := sr_I0 fun _ _ _ => .bl _
def wLt : W2 := wI0 fun i j => .bl (decide (i < j))
theorem sr_lt : SR K cl (rI0 fun i j => .bl (decide (i < j))) wLt := sr_I0 fun _ _ _ => .bl _

/-! a tree as data -/
mutual
def toD : PV → PyData
  | .non => .none
  | .bl b => .bool b
  | .int i => .int i
  | .str s => .str s
  | .lst ps => .list (toDs ps)
  | .tup ps => .tuple (toDs ps)
  | .ins _ _ _ => .none
  | .dic _ _ => .none
  | .opq _ => .none
def toDs : List PV → List PyData
  | [] => []
  | p :: ps => toD p :: toDs ps
end
mutual
/-- data of ints, texts, None, lists and tuples, no True or False in it; texts not too long -/
def dat : PV → Bool
  | .non => true
  | .bl _ => false
  | .int _ => true
  | .str s => SeqAt.shaped (.str s)
  | .lst ps => dats ps
  | .tup ps => dats ps
  | .ins _ _ _ => false
  | .dic _ _ => false
  | .opq _ => false
def dats : List PV → Bool
  | [] => true
  | p :: ps => dat p && dats ps
end
mutual
theorem rep_dp (gh : Same G H) : ∀ (p : PV) (v : V), dat p = true → Rep K cl G v p → Dp K H v (toD p)
  | .non, _, _, h => by cases h; exact .non
  | .bl b, _, d, _ => by simp [dat] at d
  | .int i, _, _, h => by cases h; exact .int i
  | .str s, _, _, h => by cases h; exact .str s
  | .lst ps, _, d, h => by
    cases h with
    | lst a b => exact .lst (SqL.of (gh _ _ a)) (rep_dps gh ps _ (by simpa [dat] using d) b)
  | .tup ps, _, d, h => by
    cases h with
    | tup a b => exact .tup (sqT_mono gh a) (rep_dps gh ps _ (by simpa [dat] using d) b)
  | .ins _ _ _, _, d, _ => by simp [dat] at d
  | .dic _ _, _, d, _ => by simp [dat] at d
  | .opq _, _, d, _ => by simp [dat] at d
theorem rep_dps (gh : Same G H) : ∀ (ps : List PV) (vs : List V), dats ps = true → RepL K cl G vs ps → DpAll K H vs (toDs ps)
  | [], _, _, h => by cases h; exact .nil
  | p :: ps, _, d, h => by
    have d' : dat p = true ∧ dats ps = true := by simpa [dats] using d
    cases h with
    | cons a b => exact .cons (rep_dp gh p _ d'.1 a) (rep_dps gh ps _ d'.2 b)
end
mutual
theorem lay_of : ∀ p : PV, dat p = true → (toD p).canLay0 = true
  | .non, _ => rfl
  | .bl b, d => by simp [dat] at d
  | .int i, _ => rfl
  | .str s, d => SeqAt.canLay_of_shaped (show SeqAt.shaped (.str s) = true by simpa [dat] using d)
  | .lst ps, d => by
    have := lays_of ps (by simpa [dat] using d)
    simpa [toD, PyData.canLay0] using this
  | .tup ps, d => by
    have := lays_of ps (by simpa [dat] using d)
    simpa [toD, PyData.canLay0] using this
  | .ins _ _ _, d => by simp [dat] at d
  | .dic _ _, d => by simp [dat] at d
  | .opq _, d => by simp [dat] at d
theorem lays_of : ∀ ps : List PV, dats ps = true → PyData.canLayAll0 (toDs ps) = true
  | [], _ => rfl
  | p :: ps, d => by
    have d' : dat p = true ∧ dats ps = true := by simpa [dats] using d
    simp [toDs, PyData.canLayAll0, lay_of p d'.1, lays_of ps d'.2]
end
mutual
theorem toD_inj : ∀ p q : PV, dat p = true → dat q = true → (PyData.eqv (toD p) (toD q) = true ↔ p = q)
  | .non, q, _, dq => by cases q <;> simp [dat, toD, PyData.eqv] at dq ⊢
  | .bl b, _, d, _ => by simp [dat] at d
  | .int i, q, _, dq => by cases q <;> simp [dat, toD, PyData.eqv] at dq ⊢
  | .str s, q, _, dq => by cases q <;> simp [dat, toD, PyData.eqv] at dq ⊢
  | .lst ps, q, dp, dq => by
    cases q with
    | lst qs =>
      have := toDs_inj ps qs (by simpa [dat] using dp) (by simpa [dat] using dq)
      simp only [toD, PyData.eqv, this, PV.lst.injEq]
    | _ => simp [dat, toD, PyData.eqv] at dq ⊢
  | .tup ps, q, dp, dq => by
    cases q with
    | tup qs =>
      have := toDs_inj ps qs (by simpa [dat] using dp) (by simpa [dat] using dq)
      simp only [toD, PyData.eqv, this, PV.tup.injEq]
    | _ => simp [dat, toD, PyData.eqv] at dq ⊢
  | .ins _ _ _, _, d, _ => by simp [dat] at d
  | .dic _ _, _, d, _ => by simp [dat] at d
  | .opq _, _, d, _ => by simp [dat] at d
theorem toDs_inj : ∀ ps qs : List PV, dats ps = true → dats qs = true → (PyData.eqvAll (toDs ps) (toDs qs) = true ↔ ps = qs)
  | [], [], _, _ => by simp [toDs, PyData.eqvAll]
  | [], _ :: _, _, _ => by simp [toDs, PyData.eqvAll]
  | _ :: _, [], _, _ => by simp [toDs, PyData.eqvAll]
  | p :: ps, q :: qs, dp, dq => by
    have dp' : dat p = true ∧ dats ps = true := by simpa [dats] using dp
    have dq' : dat q = true ∧ dats qs = true := by simpa [dats] using dq
    simp only [toDs, PyData.eqvAll, Bool.and_eq_true, toD_inj p q dp'.1 dq'.1, toDs_inj ps qs dp'.2 dq'.2, List.cons.injEq]
end
open Classical in
theorem eqv_dec (p q : PV) (dp : dat p = true) (dq : dat q = true) : PyData.eqv (toD p) (toD q) = decide (p = q) := by
  by_cases h : p = q
  · rw [decide_eq_true h]; exact (toD_inj p q dp dq).mpr h
  · rw [decide_eq_false h]
    cases e : PyData.eqv (toD p) (toD q) with
    | false => rfl
    | true => exact (h ((toD_inj p q dp dq).mp e)).elim
/-- not too deep -/
def dep (p : PV) : Prop := (toD p).depth ≤ 64
theorem shaped_of {p : PV} (d : dat p = true) (h : dep p) : SeqAt.shaped (toD p) = true := by
  unfold SeqAt.shaped
  have h' : (toD p).depth ≤ 64 := h
  rw [lay_of p d, decide_eq_true h']
  rfl
/-- as a value, one's own list as a list -/
def asV (x : W) (st : Sto) : Option PV := match x with
  | .v p => some p
  | .l k => (items (.l k) st).map PV.lst
  | .o _ => none
  | .ik _ _ _ => none
  | .im _ _ => none
theorem asV_dp {x : W} {v : V} {p : PV} (S : SOk K cl F G H σ al sl st) (r : RepW K cl al G v x) (h : asV x st = some p) (d : dat p = true) : Dp K H v (toD p) := by
  cases x with
  | v q =>
    cases h
    exact rep_dp (S.gf.trans S.fh) p v d r
  | l k =>
    have h' : (items (.l k) st).map PV.lst = some p := h
    cases e : items (.l k) st with
    | none => rw [e] at h'; cases h'
    | some ps =>
      rw [e] at h'
      cases h'
      obtain ⟨a, vs, rfl, h1, l1⟩ := items_at S r e
      exact .lst (SqL.of h1) (rep_dps (S.gf.trans S.fh) ps vs (by simpa [dat] using d) l1)
  | o u => cases h
  | ik c f k => cases h
  | im c fs => cases h
/-- ==, != : numbers, texts, truths; data -/
def rEqAny (K : PySem.W.Frag) : R2 := fun x y H Q => rEq x y H Q ∨ rEqD K x y H Q
theorem op_eqAny {X : Cx} (hu : X.A.units + 64 < cLine) : OpR X (compareOp .Eq) (rEqAny X.K) := OpR.or op_eq (op_eqD hu)
def rNeAny (K : PySem.W.Frag) : R2 := fun x y H Q => rNe x y H Q ∨ rNeD K x y H Q
theorem op_neAny {X : Cx} (hu : X.A.units + 64 < cLine) : OpR X (compareOp .NotEq) (rNeAny X.K) := OpR.or op_ne (op_neD hu)
open Classical in
def wEqB (f : Bool → Bool) : W2 := fun x y st R => match x, y with
  | .v (.int i), .v (.int j) => R (.v (.bl (f (decide (i = j))))) st
  | .v (.str i), .v (.str j) => R (.v (.bl (f (decide (i = j))))) st
  | .v (.bl i), .v (.bl j) => R (.v (.bl (f (decide (i = j))))) st
  | x, y => match asV x st, asV y st with
    | some p, some q => (dat p = true ∧ dat q = true ∧ dep p ∧ dep q) ∧ R (.v (.bl (f (decide (p = q))))) st
    | _, _ => False
def wEq : W2 := wEqB id
def wNe : W2 := wEqB not
theorem decV_int {i j : Int} : decide (V.int i = V.int j) = decide (i = j) := by
  by_cases h : i = j <;> simp [h]
theorem decV_str {i j : Str} : decide (V.str i = V.str j) = decide (i = j) := by
  by_cases h : i = j <;> simp [h]
theorem decV_bl {i j : Bool} : decide (V.bl i = V.bl j) = decide (i = j) := by
  by_cases h : i = j <;> simp [h]
theorem sr_eq : SR K cl (rEqAny K) wEq := by
  intro x y sl st R hw F G H σ al S v u rv ru Q q
  unfold wEq wEqB at hw
  split at hw
  · cases rv; cases ru
    exact .inl ⟨rfl, by rw [decV_int]; exact q.at hw S (.bl _)⟩
  · cases rv; cases ru
    exact .inl ⟨rfl, by rw [decV_str]; exact q.at hw S (.bl _)⟩
  · cases rv; cases ru
    exact .inl ⟨rfl, by rw [decV_bl]; exact q.at hw S (.bl _)⟩
  · split at hw
    · rename_i p p' e1 e2
      obtain ⟨⟨d1, d2, s1, s2⟩, hw⟩ := hw
      refine .inr ⟨toD p, toD p', asV_dp S rv e1 d1, asV_dp S ru e2 d2, shaped_of d1 s1, shaped_of d2 s2, ?_⟩
      rw [eqv_dec p p' d1 d2]
      exact q.at hw S (.bl _)
    · exact hw.elim
theorem sr_ne : SR K cl (rNeAny K) wNe := by
  intro x y sl st R hw F G H σ al S v u rv ru Q q
  unfold wNe wEqB at hw
  split at hw
  · cases rv; cases ru
    exact .inl ⟨rfl, by rw [decV_int]; exact q.at hw S (.bl _)⟩
  · cases rv; cases ru
    exact .inl ⟨rfl, by rw [decV_str]; exact q.at hw S (.bl _)⟩
  · cases rv; cases ru
    exact .inl ⟨rfl, by rw [decV_bl]; exact q.at hw S (.bl _)⟩
  · split at hw
    · rename_i p p' e1 e2
      obtain ⟨⟨d1, d2, s1, s2⟩, hw⟩ := hw
      refine .inr ⟨toD p, toD p', asV_dp S rv e1 d1, asV_dp S ru e2 d2, shaped_of d1 s1, shaped_of d2 s2, ?_⟩
      rw [eqv_dec p p' d1 d2]
      exact q.at hw S (.bl _)
    · exact hw.elim
def wIsN (f : Bool → Bool) : W2 := fun x y st R => match x, y with
  | .v .non, .v .non => R (.v (.bl (f true))) st
  | .o _, _ => False
  | _, .v .non => R (.v (.bl (f false))) st
  | _, _ => False
theorem repW_non {v : V} {x : W} (r : RepW K cl al G v x) (hx : ∀ u, x ≠ .o u) : decide (v = .non) = match x with | .v .non => true | _ => false := by
  cases x with
  | v p => cases r <;> rfl
  | l k => obtain ⟨a, _, rfl⟩ := r; rfl
  | o u => exact (hx u rfl).elim
  | ik c f k => obtain ⟨_, _, _, _, rfl, _⟩ := r; rfl
  | im c fs => obtain ⟨_, _, _, _, rfl, _⟩ := r; rfl
theorem sr_isN : SR K cl (fun x y H Q => y = .non ∧ Q (.bl (decide (x = .non))) H) (wIsN id) := by
  intro x y sl st R hw F G H σ al S v u rv ru Q q
  unfold wIsN at hw
  split at hw
  · cases rv; cases ru
    exact ⟨rfl, q.at hw S (.bl _)⟩
  · exact hw.elim
  · rename_i hx ho
    cases ru
    refine ⟨rfl, ?_⟩
    rw [repW_non rv ho]
    split
    · exact (hx rfl).elim
    · exact q.at hw S (.bl _)
  · exact hw.elim
theorem sr_notN : SR K cl (fun x y H Q => y = .non ∧ Q (.bl (!decide (x = .non))) H) (wIsN not) := by
  intro x y sl st R hw F G H σ al S v u rv ru Q q
  unfold wIsN at hw
  split at hw
  · cases rv; cases ru
    exact ⟨rfl, q.at hw S (.bl _)⟩
  · exact hw.elim
  · rename_i hx ho
    cases ru
    refine ⟨rfl, ?_⟩
    rw [repW_non rv ho]
    split
    · exact (hx rfl).elim
    · exact q.at hw S (.bl _)
  · exact hw.elim

/-! ### subscripts, slices -/
def idx {α : Type} (xs : List α) (i : Int) : Option α := if 0 ≤ i then xs[i.toNat]? else if -(xs.length : Int) ≤ i then xs[(i + xs.length).toNat]? else none
theorem atI_idx {α β : Type} {xs : List α} {ys : List β} {i : Int} {y : β} (hl : xs.length = ys.length) (h : idx ys i = some y) : ∃ j : Nat, ys[j]? = some y ∧ ∀ x, xs[j]? = some x → atI xs i = some x := by
  unfold idx at h
  split at h
  · refine ⟨i.toNat, h, fun x hx => ?_⟩
    have hj := (List.getElem?_eq_some_iff.mp hx).1
    unfold atI ixN
    rw [if_pos (by assumption), if_pos (by omega)]
    exact hx
  · split at h
    · refine ⟨_, h, fun x hx => ?_⟩
      unfold atI ixN
      rw [if_neg (by assumption), if_pos (by omega), hl]
      exact hx
    · cases h
def wIx : W2 := fun x y st R => match x, y with
  | .v (.tup ps), .v (.int i) => ∃ p, idx ps i = some p ∧ R (.v p) st
  | .v (.str z), .v (.int i) => ∃ c, z.length ≤ sizeLine ∧ idx z.cps.toList i = some c ∧ R (.v (.str ⟨#[c]⟩)) st
  | x, .v (.int i) => match items x st with
    | some ps => ∃ p, idx ps i = some p ∧ R (.v p) st
    | none => False
  | _, _ => False
theorem sr_ix : SR K cl (rIx K) wIx := by
  intro x y sl st R hw F G H σ al S v u rv ru Q q
  unfold wIx at hw
  split at hw
  · rename_i ps i
    obtain ⟨p, hp, hw⟩ := hw
    cases ru
    cases rv with
    | @tup a vs _ e l =>
      obtain ⟨j, hj, hx⟩ := atI_idx l.len hp
      obtain ⟨v, hv, r⟩ := l.get hj
      exact .inr (.inl ⟨a, vs, i, v, rfl, rfl, sqT_mono (S.gf.trans S.fh) e, hx v hv, q.at hw S r⟩)
  · rename_i z i
    obtain ⟨c, hz, hp, hw⟩ := hw
    cases ru
    cases rv
    obtain ⟨j, hj, hx⟩ := atI_idx rfl hp
    exact .inr (.inr ⟨z, i, c, rfl, rfl, hz, hx c hj, q.at hw S (.str _)⟩)
  · rename_i i _ _
    split at hw
    · rename_i ps e
      obtain ⟨p, hp, hw⟩ := hw
      cases ru
      obtain ⟨a, vs, rfl, h1, l⟩ := items_at S rv e
      obtain ⟨j, hj, hx⟩ := atI_idx l.len hp
      obtain ⟨v, hv, r⟩ := l.get hj
      exact .inl ⟨a, vs, i, v, rfl, rfl, SqL.of h1, hx v hv, q.at hw S r⟩
    · exact hw.elim
  · exact hw.elim
abbrev WO := Sl → Sto → (Option Int → Sto → Prop) → Prop
def SO (K : PySem.W.Frag) (cl : Str → Option Addr) (t : TO) (w : WO) : Prop := ∀ sl st R, w sl st R → ∀ F G H σ al, SOk K cl F G H σ al sl st → ∀ Q : Option Int → Hp → Prop,
  (∀ o st' F' G' H', R o st' → Gr F G al st F' G' al st' → SOk K cl F' G' H' σ al sl st' → Q o H') → t σ H Q
def wNoPart : WO := fun _ st R => R none st
def wPart (w : WE) : WO := fun sl st R => w sl st fun x st' => match x with
  | .v (.int i) => R (some i) st'
  | _ => False
theorem so_none : SO K cl tNoPart wNoPart := fun sl st R h F G H σ al S Q q => q none st F G H h .refl S
theorem so_some {te : TE} {w : WE} (h : SE K cl te w) : SO K cl (tPart te) (wPart w) := by
  intro sl st R hw F G H σ al S Q q
  refine h sl st _ hw F G H σ al S _ fun v x st1 F1 G1 H1 h1 g1 S1 r1 => ?_
  dsimp only at h1
  split at h1
  · rename_i i
    cases r1
    exact ⟨i, rfl, q _ _ _ _ _ h1 g1 S1⟩
  · exact h1.elim
def cutP (ps : List PV) (lo hi : Option Int) : List PV := (ps.drop (HT.sIx ps.length 0 lo)).take (HT.sIx ps.length ps.length hi - HT.sIx ps.length 0 lo)
theorem RepL.cut {vs : List V} {ps : List PV} (h : RepL K cl G vs ps) (lo hi : Option Int) : RepL K cl G (cutV vs lo hi) (cutP ps lo hi) := by
  unfold cutV cutP
  rw [h.len]
  exact (h.drop _).take _
/-- a slice of a list, a new list -/
def wSlL (wa : WE) (wl wh : WO) : WE := fun sl st R => wa sl st fun x st1 => wl sl st1 fun l st2 => wh sl st2 fun u st3 => match items x st3 with
  | some ps => R (.v (.lst (cutP ps l u))) st3
  | none => False
theorem se_slL {te : TE} {tl th : TO} {w : WE} {wl wh : WO} (h : SE K cl te w) (hl : SO K cl tl wl) (hh : SO K cl th wh) : SE K cl (tSl (rSlL K) te tl th) (wSlL w wl wh) := by
  intro sl st R hw F G H σ al S Q q
  refine h sl st _ hw F G H σ al S _ fun v x st1 F1 G1 H1 h1 g1 S1 r1 => ?_
  refine hl sl st1 _ h1 F1 G1 H1 σ al S1 _ fun l st2 F2 G2 H2 h2 g2 S2 => ?_
  refine hh sl st2 _ h2 F2 G2 H2 σ al S2 _ fun u st3 F3 G3 H3 h3 g3 S3 => ?_
  try dsimp only at h3
  split at h3
  · rename_i ps e
    obtain ⟨a, vs, rfl, e1, l1⟩ := items_at S3 (r1.mono (g2.trans g3).gg) e
    exact ⟨a, vs, rfl, SqL.of e1, fun p hp => (q.gr ((g1.trans g2).trans g3)).newL S3 hp (l1.cut l u) h3⟩
  · exact h3.elim

/-! ### and, or, not, if else -/
def wTest (w : WE) : WT := fun sl st R => w sl st fun x st' => match x with
  | .v (.bl b) => R b st'
  | _ => False
theorem st_test {te : TE} {w : WE} (h : SE K cl te w) : STt K cl (tTest te) (wTest w) := by
  intro sl st R hw F G H σ al S Q q
  refine h sl st _ hw F G H σ al S _ fun v x st1 F1 G1 H1 h1 g1 S1 r1 => ?_
  dsimp only at h1
  split at h1
  · rename_i b
    cases r1
    exact ⟨b, rfl, q _ _ _ _ _ h1 g1 S1⟩
  · exact h1.elim
theorem st_B {te : TE} {w : WE} (h : SE K cl te w) : STt K cl (tB te) (wTest w) := st_test h
def wAnd (a b : WT) : WT := fun sl st R => a sl st fun c st1 => if c = true then b sl st1 R else R false st1
def wOr (a b : WT) : WT := fun sl st R => a sl st fun c st1 => if c = true then R true st1 else b sl st1 R
def wNot (a : WT) : WT := fun sl st R => a sl st fun c st1 => R (!c) st1
theorem st_and {t u : TT} {a b : WT} (h1 : STt K cl t a) (h2 : STt K cl u b) : STt K cl (tAnd t u) (wAnd a b) := by
  intro sl st R hw F G H σ al S Q q
  refine h1 sl st _ hw F G H σ al S _ fun c st1 F1 G1 H1 e1 g1 S1 => ?_
  cases c with
  | true => exact h2 sl st1 R (by simpa using e1) F1 G1 H1 σ al S1 Q (q.gr g1)
  | false => exact q _ _ _ _ _ (by simpa using e1) g1 S1
theorem st_or {t u : TT} {a b : WT} (h1 : STt K cl t a) (h2 : STt K cl u b) : STt K cl (tOr t u) (wOr a b) := by
  intro sl st R hw F G H σ al S Q q
  refine h1 sl st _ hw F G H σ al S _ fun c st1 F1 G1 H1 e1 g1 S1 => ?_
  cases c with
  | true => exact q _ _ _ _ _ (by simpa using e1) g1 S1
  | false => exact h2 sl st1 R (by simpa using e1) F1 G1 H1 σ al S1 Q (q.gr g1)
theorem st_not {t : TT} {a : WT} (h1 : STt K cl t a) : STt K cl (tNot t) (wNot a) := by
  intro sl st R hw F G H σ al S Q q
  refine h1 sl st _ hw F G H σ al S _ fun c st1 F1 G1 H1 e1 g1 S1 => ?_
  exact q _ _ _ _ _ e1 g1 S1
def wAndV (a b : WE) : WE := fun sl st R => a sl st fun x st1 => match x with
  | .v (.bl c) => if c = true then b sl st1 R else R (.v (.bl false)) st1
  | _ => False
def wOrV (a b : WE) : WE := fun sl st R => a sl st fun x st1 => match x with
  | .v (.bl c) => if c = true then R (.v (.bl true)) st1 else b sl st1 R
  | _ => False
def wNotV (a : WE) : WE := fun sl st R => a sl st fun x st1 => match x with
  | .v (.bl c) => R (.v (.bl (!c))) st1
  | _ => False
theorem se_andV {ta tb : TE} {a b : WE} (h1 : SE K cl ta a) (h2 : SE K cl tb b) : SE K cl (tAndV ta tb) (wAndV a b) := by
  intro sl st R hw F G H σ al S Q q
  refine h1 sl st _ hw F G H σ al S _ fun v x st1 F1 G1 H1 e1 g1 S1 r1 => ?_
  dsimp only at e1
  split at e1
  · rename_i c
    cases r1
    refine ⟨c, rfl, ?_⟩
    cases c with
    | true => exact h2 sl st1 R (by simpa using e1) F1 G1 H1 σ al S1 Q (q.gr g1)
    | false => exact q _ (.v (.bl _)) _ _ _ _ (by simpa using e1) g1 S1 (Rep.bl _)
  · exact e1.elim
theorem se_orV {ta tb : TE} {a b : WE} (h1 : SE K cl ta a) (h2 : SE K cl tb b) : SE K cl (tOrV ta tb) (wOrV a b) := by
  intro sl st R hw F G H σ al S Q q
  refine h1 sl st _ hw F G H σ al S _ fun v x st1 F1 G1 H1 e1 g1 S1 r1 => ?_
  dsimp only at e1
  split at e1
  · rename_i c
    cases r1
    refine ⟨c, rfl, ?_⟩
    cases c with
    | true => exact q _ (.v (.bl _)) _ _ _ _ (by simpa using e1) g1 S1 (Rep.bl _)
    | false => exact h2 sl st1 R (by simpa using e1) F1 G1 H1 σ al S1 Q (q.gr g1)
  · exact e1.elim
theorem se_notV {ta : TE} {a : WE} (h1 : SE K cl ta a) : SE K cl (tNotV ta) (wNotV a) := by
  intro sl st R hw F G H σ al S Q q
  refine h1 sl st _ hw F G H σ al S _ fun v x st1 F1 G1 H1 e1 g1 S1 r1 => ?_
  dsimp only at e1
  split at e1
  · rename_i c
    cases r1
    exact ⟨c, rfl, q _ _ _ _ _ _ e1 g1 S1 (.bl _)⟩
  · exact e1.elim
def wIfE (c : WT) (a b : WE) : WE := fun sl st R => c sl st fun k st1 => if k = true then a sl st1 R else b sl st1 R
theorem se_ifE {t : TT} {ta tb : TE} {c : WT} {a b : WE} (h : STt K cl t c) (h1 : SE K cl ta a) (h2 : SE K cl tb b) : SE K cl (tIf t ta tb) (wIfE c a b) := by
  intro sl st R hw F G H σ al S Q q
  refine h sl st _ hw F G H σ al S _ fun k st1 F1 G1 H1 e1 g1 S1 => ?_
  cases k with
  | true => exact h1 sl st1 R (by simpa using e1) F1 G1 H1 σ al S1 Q (q.gr g1)
  | false => exact h2 sl st1 R (by simpa using e1) F1 G1 H1 σ al S1 Q (q.gr g1)
/-- a < b < c -/
def wChain (w w' : W2) (wa wb wc : WE) : WE := fun sl st R => wa sl st fun x st1 => wb sl st1 fun y st2 => w x y st2 fun z st3 => match z with
  | .v (.bl k) => if k = true then wc sl st3 fun u st4 => w' y u st4 R else R (.v (.bl false)) st3
  | _ => False
theorem se_chain {r r' : R2} {w w' : W2} {ta tb tc : TE} {wa wb wc : WE} (hr : SR K cl r w) (hr' : SR K cl r' w') (ha : SE K cl ta wa) (hb : SE K cl tb wb) (hc : SE K cl tc wc) : SE K cl (tChain r r' ta tb tc) (wChain w w' wa wb wc) := by
  intro sl st R h F G H σ al S Q q
  refine ha sl st _ h F G H σ al S _ fun v x st1 F1 G1 H1 h1 g1 S1 r1 => ?_
  refine hb sl st1 _ h1 F1 G1 H1 σ al S1 _ fun u y st2 F2 G2 H2 h2 g2 S2 r2 => ?_
  refine hr x y sl st2 _ h2 F2 G2 H2 σ al S2 v u (r1.mono g2.gg) r2 _ fun z k st3 F3 G3 H3 h3 g3 S3 r3 => ?_
  dsimp only at h3
  split at h3
  · rename_i b
    cases r3
    refine ⟨b, rfl, ?_⟩
    cases b with
    | true =>
      refine hc sl st3 _ (by simpa using h3) F3 G3 H3 σ al S3 _ fun t z st4 F4 G4 H4 h4 g4 S4 r4 => ?_
      exact hr' y z sl st4 R h4 F4 G4 H4 σ al S4 u t (r2.mono (g3.trans g4).gg) r4 Q (q.gr ((g1.trans g2).trans (g3.trans g4)))
    | false => exact q _ (.v (.bl _)) _ _ _ _ (by simpa using h3) ((g1.trans g2).trans g3) S3 (Rep.bl _)
  · exact h3.elim

/-! ### arguments, displays -/
def wNil : WA := fun _ st R => R [] st
def wCons (w : WE) (wr : WA) : WA := fun sl st R => w sl st fun x st1 => wr sl st1 fun xs st2 => R (x :: xs) st2
theorem sa_nil : SA K cl tNil wNil := fun sl st R h F G H σ al S Q q => q [] [] st F G H h .refl S trivial
theorem sa_cons {te : TE} {ta : TA} {w : WE} {wr : WA} (h : SE K cl te w) (hr : SA K cl ta wr) : SA K cl (tCons te ta) (wCons w wr) := by
  intro sl st R hw F G H σ al S Q q
  refine h sl st _ hw F G H σ al S _ fun v x st1 F1 G1 H1 h1 g1 S1 r1 => ?_
  refine hr sl st1 _ h1 F1 G1 H1 σ al S1 _ fun vs xs st2 F2 G2 H2 h2 g2 S2 r2 => ?_
  exact q _ _ _ _ _ _ h2 (g1.trans g2) S2 ⟨r1.mono g2.gg, r2⟩
/-- all as values: one's own lists are frozen -/
def vals : List W → Sto → Option (List PV × Sto)
  | [], st => some ([], st)
  | .v p :: xs, st => (vals xs st).map fun r => (p :: r.1, r.2)
  | .l k :: xs, st => match st[k]? with
    | some (.lst ps) => (vals xs (st.set k (.frz ps))).map fun r => (.lst ps :: r.1, r.2)
    | some (.frz ps) => (vals xs st).map fun r => (.lst ps :: r.1, r.2)
    | _ => none
  | .o _ :: _, _ => none
  | .ik _ _ _ :: _, _ => none
  | .im _ _ :: _, _ => none
theorem vals_ok : ∀ {xs : List W} {vs : List V} {ps : List PV} {F G : Hp} {st st' : Sto}, SOk K cl F G H σ al sl st → RepWs K cl al G vs xs → vals xs st = some (ps, st') →
    ∃ F' G', SOk K cl F' G' H σ al sl st' ∧ Gr F G al st F' G' al st' ∧ RepL K cl G' vs ps
  | [], [], ps, F, G, st, st', S, _, h => by
    cases h
    exact ⟨F, G, S, .refl, .nil⟩
  | [], _ :: _, _, _, _, _, _, _, r, _ => r.elim
  | _ :: _, [], _, _, _, _, _, _, r, _ => r.elim
  | .v p :: xs, v :: vs, ps, F, G, st, st', S, r, h => by
    cases e : vals xs st with
    | none => simp [vals, e] at h
    | some y =>
      simp only [vals, e, Option.map_some, Option.some.injEq, Prod.mk.injEq] at h
      obtain ⟨rfl, rfl⟩ := h
      obtain ⟨F', G', S', g, l⟩ := vals_ok S r.2 e
      exact ⟨F', G', S', g, .cons (Rep.mono g.gg _ _ r.1) l⟩
  | .o _ :: _, _ :: _, _, _, _, _, _, _, _, h => by simp [vals] at h
  | .ik _ _ _ :: _, _ :: _, _, _, _, _, _, _, _, h => by simp [vals] at h
  | .im _ _ :: _, _ :: _, _, _, _, _, _, _, _, h => by simp [vals] at h
  | .l k :: xs, v :: vs, ps, F, G, st, st', S, r, h => by
    obtain ⟨a, ha, rfl⟩ := r.1
    unfold vals at h
    split at h
    · rename_i qs ek
      obtain ⟨F1, G1, S1, g1⟩ := S.freeze ek
      cases e : vals xs (st.set k (.frz qs)) with
      | none => simp [e] at h
      | some y =>
        simp only [e, Option.map_some, Option.some.injEq, Prod.mk.injEq] at h
        obtain ⟨rfl, rfl⟩ := h
        obtain ⟨F', G', S', g, l⟩ := vals_ok S1 (RepWs.mono g1.gg r.2) e
        obtain ⟨b, hb, us, e1, l1⟩ := S1.cells k (.frz qs) (by rw [List.getElem?_set_self (List.getElem?_eq_some_iff.mp ek).1])
        rw [ha] at hb
        cases hb
        exact ⟨F', G', S', g1.trans g, .cons (.lst (g.gg _ _ e1) (RepL.mono g.gg _ _ l1)) l⟩
    · rename_i qs ek
      cases e : vals xs st with
      | none => simp [e] at h
      | some y =>
        simp only [e, Option.map_some, Option.some.injEq, Prod.mk.injEq] at h
        obtain ⟨rfl, rfl⟩ := h
        obtain ⟨F', G', S', g, l⟩ := vals_ok S r.2 e
        obtain ⟨b, hb, us, e1, l1⟩ := S.cells k (.frz qs) ek
        rw [ha] at hb
        cases hb
        exact ⟨F', G', S', g, .cons (.lst (g.gg _ _ e1) (RepL.mono g.gg _ _ l1)) l⟩
    · cases h
def wTup (wa : WA) : WE := fun sl st R => wa sl st fun xs st1 => match vals xs st1 with
  | some (ps, st2) => ps.length ≤ sizeLine ∧ R (.v (.tup ps)) st2
  | none => False
def wLst (wa : WA) : WE := fun sl st R => wa sl st fun xs st1 => match vals xs st1 with
  | some (ps, st2) => ps.length ≤ sizeLine ∧ R (.v (.lst ps)) st2
  | none => False
theorem se_tup {ta : TA} {wa : WA} (h : SA K cl ta wa) : SE K cl (tTup ta) (wTup wa) := by
  intro sl st R hw F G H σ al S Q q
  refine h sl st _ hw F G H σ al S _ fun vs xs st1 F1 G1 H1 h1 g1 S1 r1 => ?_
  dsimp only at h1
  split at h1
  · rename_i ps st2 e
    obtain ⟨F2, G2, S2, g2, l⟩ := vals_ok S1 r1 e
    exact ⟨by rw [l.len]; exact h1.1, fun p hp => (q.gr (g1.trans g2)).newT S2 hp l h1.2⟩
  · exact h1.elim
theorem se_lst {ta : TA} {wa : WA} (h : SA K cl ta wa) : SE K cl (tLst ta) (wLst wa) := by
  intro sl st R hw F G H σ al S Q q
  refine h sl st _ hw F G H σ al S _ fun vs xs st1 F1 G1 H1 h1 g1 S1 r1 => ?_
  dsimp only at h1
  split at h1
  · rename_i ps st2 e
    obtain ⟨F2, G2, S2, g2, l⟩ := vals_ok S1 r1 e
    exact ⟨by rw [l.len]; exact h1.1, fun p hp => (q.gr (g1.trans g2)).newL S2 hp l h1.2⟩
  · exact h1.elim

/-! ### calls of built-ins -/
def wCB (w : WL) (wa : WA) : WE := fun sl st R => wa sl st fun xs st1 => w xs st1 R
theorem se_cb {r : List V → Hp → VK → Prop} {w : WL} {ta : TA} {wa : WA} (hr : SC K cl r w) (h : SA K cl ta wa) : SE K cl (tCB r ta) (wCB w wa) := by
  intro sl st R hw F G H σ al S Q q
  refine h sl st _ hw F G H σ al S _ fun vs xs st1 F1 G1 H1 h1 g1 S1 r1 => ?_
  exact hr xs sl st1 R h1 F1 G1 H1 σ al S1 vs r1 Q (q.gr g1)
theorem RepWs.one {x : W} {vs : List V} (h : RepWs K cl al G vs [x]) : ∃ v, vs = [v] ∧ RepW K cl al G v x := by
  match vs, h with
  | [v], h => exact ⟨v, rfl, h.1⟩
theorem RepWs.two {x y : W} {vs : List V} (h : RepWs K cl al G vs [x, y]) : ∃ v u, vs = [v, u] ∧ RepW K cl al G v x ∧ RepW K cl al G u y := by
  match vs, h with
  | [v, u], h => exact ⟨v, u, rfl, h.1, h.2.1⟩
def rAbs : List V → Hp → VK → Prop := fun xs H Q => ∃ i, xs = [.int i] ∧ Q (.int (if i < 0 then -i else i)) H
theorem call_abs' {X : Cx} : CallR X (.builtin "abs") rAbs := call_abs
def wAbs : WL := fun xs st R => match xs with
  | [.v (.int i)] => R (.v (.int (if i < 0 then -i else i))) st
  | _ => False
theorem sc_abs : SC K cl rAbs wAbs := by
  intro xs sl st R hw F G H σ al S vs rs Q q
  unfold wAbs at hw
  split at hw
  · rename_i i
    obtain ⟨v, rfl, r⟩ := rs.one
    cases r
    exact ⟨i, rfl, q.at hw S (.int _)⟩
  · exact hw.elim
def rMax2 : List V → Hp → VK → Prop := fun xs H Q => ∃ i j, xs = [.int i, .int j] ∧ Q (.int (if j > i then j else i)) H
def rMin2 : List V → Hp → VK → Prop := fun xs H Q => ∃ i j, xs = [.int i, .int j] ∧ Q (.int (if j < i then j else i)) H
theorem call_max2' {X : Cx} (hc : X.calm = true) : CallR X (.builtin "max") rMax2 := call_max2 hc
theorem call_min2' {X : Cx} (hc : X.calm = true) : CallR X (.builtin "min") rMin2 := call_min2 hc
def wMax2 : WL := fun xs st R => match xs with
  | [.v (.int i), .v (.int j)] => R (.v (.int (if j > i then j else i))) st
  | _ => False
def wMin2 : WL := fun xs st R => match xs with
  | [.v (.int i), .v (.int j)] => R (.v (.int (if j < i then j else i))) st
  | _ => False
theorem sc_max2 : SC K cl rMax2 wMax2 := by
  intro xs sl st R hw F G H σ al S vs rs Q q
  unfold wMax2 at hw
  split at hw
  · rename_i i j
    obtain ⟨v, u, rfl, r, r'⟩ := rs.two
    cases r
    cases r'
    exact ⟨i, j, rfl, q.at hw S (.int _)⟩
  · exact hw.elim
theorem sc_min2 : SC K cl rMin2 wMin2 := by
  intro xs sl st R hw F G H σ al S vs rs Q q
  unfold wMin2 at hw
  split at hw
  · rename_i i j
    obtain ⟨v, u, rfl, r, r'⟩ := rs.two
    cases r
    cases r'
    exact ⟨i, j, rfl, q.at hw S (.int _)⟩
  · exact hw.elim
def rInt1 : List V → Hp → VK → Prop := fun xs H Q => (∃ i, xs = [.int i] ∧ Q (.int i) H) ∨ ∃ k, xs = [.bl k] ∧ Q (.int (if k then 1 else 0)) H
theorem call_int1' {X : Cx} : CallR X (.type "int") rInt1 := call_int1
def wInt1 : WL := fun xs st R => match xs with
  | [.v (.int i)] => R (.v (.int i)) st
  | [.v (.bl k)] => R (.v (.int (if k then 1 else 0))) st
  | _ => False
theorem sc_int1 : SC K cl rInt1 wInt1 := by
  intro xs sl st R hw F G H σ al S vs rs Q q
  unfold wInt1 at hw
  split at hw
  · rename_i i
    obtain ⟨v, rfl, r⟩ := rs.one
    cases r
    exact .inl ⟨i, rfl, q.at hw S (.int _)⟩
  · rename_i k
    obtain ⟨v, rfl, r⟩ := rs.one
    cases r
    exact .inr ⟨k, rfl, q.at hw S (.int _)⟩
  · exact hw.elim
/-- len -/
def rLen (K : PySem.W.Frag) : List V → Hp → VK → Prop := fun xs H Q => (∃ p ys, xs = [.ref p] ∧ (SqL K H p ys ∨ SqT K H p ys) ∧ Q (.int ys.length) H) ∨ ∃ z, xs = [.str z] ∧ z.length ≤ sizeLine ∧ Q (.int z.length) H
theorem call_len' {X : Cx} : CallR X (.builtin "len") (rLen X.K) := CallR.or call_len_seq call_len_str
def wLen : WL := fun xs st R => match xs with
  | [.v (.tup ps)] => R (.v (.int ps.length)) st
  | [.v (.str z)] => z.length ≤ sizeLine ∧ R (.v (.int z.length)) st
  | [x] => match items x st with
    | some ps => R (.v (.int ps.length)) st
    | none => False
  | _ => False
theorem sc_len : SC K cl (rLen K) wLen := by
  intro xs sl st R hw F G H σ al S vs rs Q q
  unfold wLen at hw
  split at hw
  · rename_i ps
    obtain ⟨v, rfl, r⟩ := rs.one
    cases r with
    | @tup a us _ e l =>
      refine .inl ⟨a, us, rfl, .inr (sqT_mono (S.gf.trans S.fh) e), ?_⟩
      rw [l.len]
      exact q.at hw S (.int _)
  · rename_i z
    obtain ⟨v, rfl, r⟩ := rs.one
    cases r
    exact .inr ⟨z, rfl, hw.1, q.at hw.2 S (.int _)⟩
  · rename_i x _ _
    split at hw
    · rename_i ps e
      obtain ⟨v, rfl, r⟩ := rs.one
      obtain ⟨a, us, rfl, h1, l⟩ := items_at S r e
      refine .inl ⟨a, us, rfl, .inl (SqL.of h1), ?_⟩
      rw [l.len]
      exact q.at hw S (.int _)
    · exact hw.elim
  · exact hw.elim
/-- list(..) of a list, a tuple -/
def rList (K : PySem.W.Frag) : List V → Hp → VK → Prop := fun xs H Q => ∃ p ys, xs = [.ref p] ∧ (SqL K H p ys ∨ SqT K H p ys) ∧ ∀ l, H l = none → Q (.ref l) (upd H l (.lst ys))
theorem call_list' {X : Cx} : CallR X (.type "list") (rList X.K) := call_list_of
def wList : WL := fun xs st R => match xs with
  | [.v (.tup ps)] => R (.v (.lst ps)) st
  | [x] => match items x st with
    | some ps => R (.v (.lst ps)) st
    | none => False
  | _ => False
theorem sc_list : SC K cl (rList K) wList := by
  intro xs sl st R hw F G H σ al S vs rs Q q
  unfold wList at hw
  split at hw
  · rename_i ps
    obtain ⟨v, rfl, r⟩ := rs.one
    cases r with
    | @tup a us _ e l => exact ⟨a, us, rfl, .inr (sqT_mono (S.gf.trans S.fh) e), fun p hp => q.newL S hp l hw⟩
  · rename_i x _
    split at hw
    · rename_i ps e
      obtain ⟨v, rfl, r⟩ := rs.one
      obtain ⟨a, us, rfl, h1, l⟩ := items_at S r e
      exact ⟨a, us, rfl, .inl (SqL.of h1), fun p hp => q.newL S hp l hw⟩
    · exact hw.elim
  · exact hw.elim
/-- sorted of ints -/
def wSorted : WL := fun xs st R => match xs with
  | [x] => ∃ ns : List Int, items x st = some (ns.map PV.int) ∧ ns.length < 64 ∧ ∀ ms : List Int, ms.Perm ns → ms.Pairwise (· ≤ ·) → R (.v (.lst (ms.map PV.int))) st
  | _ => False
theorem sc_sorted : SC K cl (rSorted K) wSorted := by
  intro xs sl st R hw F G H σ al S vs rs Q q
  unfold wSorted at hw
  split at hw
  · obtain ⟨ns, e, hl, hw⟩ := hw
    obtain ⟨v, rfl, r⟩ := rs.one
    obtain ⟨a, us, rfl, h1, l⟩ := items_at S r e
    cases l.ints_inv
    exact ⟨a, ns, rfl, SqL.of h1, hl, fun ms p h2 h3 hp => q.newL S hp (RepL.ints ms) (hw ms h2 h3)⟩
  · exact hw.elim
end
end VL

set_option Elab.async false
set_option linter.all false
set_option maxRecDepth 100000
set_option maxHeartbeats 2000000
/-! The value layer: what is walked, comprehensions, calls, statements, a def's body. -/
namespace VL
open PySem L2

section
variable {K : PySem.W.Frag} {cl : Str → Option Addr} {F G H F' G' H' : Hp} {σ : L2.St} {al al' : List Addr} {sl : Sl} {st st' : Sto}
/-! ### a loose list: new, nobody's yet -/
theorem same_updR {A B : Hp} {a : Addr} {o : HO} (s : Same A B) (h : B a = some o) : Same (upd A a o) B := fun b u e => by
  by_cases q : b = a
  · subst q; rw [upd_same] at e; rw [h]; exact e
  · rw [upd_ne q] at e; exact s b u e
theorem SOk.adopt {a : Addr} {o : HO} (S : SOk K cl F G H σ al sl st) (h : H a = some o) (f : F a = none) (n : ∀ k : Nat, al[k]? ≠ some a) :
    SOk K cl (upd F a o) (upd G a o) H σ al sl st ∧ Gr F G al st (upd F a o) (upd G a o) al st := by
  have g : G a = none := S.gf.free f
  refine ⟨⟨same_upd S.gf, same_updR S.fh h, fun i x e => ?_, S.len, fun k c e => ?_, S.nd, S.live, S.cnt⟩, ⟨same_new f, same_new g, fun b u e => ?_, fun _ _ h => h, fun _ h => h⟩⟩
  · obtain ⟨v, h1, h2⟩ := S.slots i x e
    exact ⟨v, h1, h2.mono (same_new g)⟩
  · obtain ⟨b, h1, h2⟩ := S.cells k c e
    have ne : b ≠ a := fun z => n k (z ▸ h1)
    refine ⟨b, h1, h2.mono (same_new f) (same_new g) (fun _ o e => e) (fun f => by rw [upd_ne ne]; exact f) (fun _ g => by rw [upd_ne ne]; exact g) fun z => ?_⟩
    subst z
    exact h2.2
  · by_cases q : b = a
    · subst q; exact .inr (.inl f)
    · rw [upd_ne q] at e; exact .inl e
theorem SOk.adoptCell {a : Addr} {vs : List V} {ps : List PV} (S : SOk K cl F G H σ al sl st) (h : H a = some (.lst vs)) (f : F a = none) (n : ∀ k : Nat, al[k]? ≠ some a) (r : RepL K cl G vs ps) :
    SOk K cl F G H σ (al ++ [a]) sl (st ++ [.lst ps]) ∧ Gr F G al st F G (al ++ [a]) (st ++ [.lst ps]) := by
  have pre : ∀ (k : Nat) (b : Addr), al[k]? = some b → (al ++ [a])[k]? = some b := fun k b h => by
    rw [List.getElem?_append_left (List.getElem?_eq_some_iff.mp h).1]
    exact h
  have inv : ∀ (k : Nat) (b : Addr), (al ++ [a])[k]? = some b → al[k]? = some b ∨ (k = al.length ∧ b = a) := fun k b h => by
    by_cases hk : k < al.length
    · rw [List.getElem?_append_left hk] at h
      exact .inl h
    · rw [List.getElem?_append_right (by omega)] at h
      have hk' := (List.getElem?_eq_some_iff.mp h).1
      simp at hk'
      have e : k = al.length := by omega
      subst e
      simp at h
      exact .inr ⟨rfl, h.symm⟩
  refine ⟨⟨S.gf, S.fh, fun i x h => ?_, S.len, fun k c' e => ?_, fun k j b h1 h2 => ?_, fun k b e => ?_, by simp [S.cnt]⟩, ⟨Same.refl _, Same.refl _, fun _ _ h => .inl h, pre, fun k h => ?_⟩⟩
  · obtain ⟨v, h1, h2⟩ := S.slots i x h
    exact ⟨v, h1, h2.pre pre⟩
  · by_cases hk : k < st.length
    · rw [List.getElem?_append_left hk] at e
      obtain ⟨b, h1, h2⟩ := S.cells k c' e
      exact ⟨b, pre _ _ h1, h2⟩
    · rw [List.getElem?_append_right (by omega)] at e
      have hk' : k - st.length = 0 := by
        have := (List.getElem?_eq_some_iff.mp e).1
        simp at this
        omega
      rw [hk'] at e
      have e : Cell.lst ps = c' := by simpa using e
      subst e
      refine ⟨a, ?_, f, vs, h, r⟩
      rw [List.getElem?_append_right (by rw [S.cnt]; omega), S.cnt, hk']
      rfl
  · rcases inv k b h1 with q | ⟨q, e⟩
    · rcases inv j b h2 with r | ⟨r, e'⟩
      · exact S.nd k j b q r
      · rw [e'] at q
        exact (n k q).elim
    · rcases inv j b h2 with r | ⟨r, e'⟩
      · rw [e] at r
        exact (n j r).elim
      · rw [q, r]
  · rcases inv k b e with q | ⟨q, e⟩
    · exact S.live k b q
    · rw [e]
      exact ⟨_, h⟩
  · rw [List.getElem?_append_left (List.getElem?_eq_some_iff.mp h).1]
    exact h
theorem SOk.notAl {a : Addr} (S : SOk K cl F G H σ al sl st) (h : H a = none) (k : Nat) : al[k]? ≠ some a := fun e => by
  obtain ⟨o, ho⟩ := S.live k a e
  rw [h] at ho
  cases ho
abbrev WN := Sl → Sto → (List PV → Sto → Prop) → Prop
def QOkN (K : PySem.W.Frag) (cl : Str → Option Addr) (F G : Hp) (σ : L2.St) (al : List Addr) (sl : Sl) (st : Sto) (R : List PV → Sto → Prop) (Q : VK) : Prop :=
  ∀ a vs ps st' F' G' H', R ps st' → Gr F G al st F' G' al st' → SOk K cl F' G' H' σ al sl st' → H' a = some (.lst vs) → F' a = none → (∀ k : Nat, al[k]? ≠ some a) → RepL K cl G' vs ps → Q (.ref a) H'
/-- what makes a new list -/
def SEN (K : PySem.W.Frag) (cl : Str → Option Addr) (te : TE) (w : WN) : Prop := ∀ sl st R, w sl st R → ∀ F G H σ al, SOk K cl F G H σ al sl st → ∀ Q : VK, QOkN K cl F G σ al sl st R Q → te σ H Q
/-- a new object that is not tracked as a tree's part, just tracked -/
theorem SOk.loose {p : Addr} {o : HO} (S : SOk K cl F G H σ al sl st) (hp : H p = none) : SOk K cl F G (upd H p o) σ al sl st := by
  refine ⟨S.gf, S.fh.trans (same_new hp), S.slots, S.len, fun k c e => ?_, S.nd, fun k a e => ?_, S.cnt⟩
  · obtain ⟨b, h1, h2⟩ := S.cells k c e
    refine ⟨b, h1, h2.mono (Same.refl _) (Same.refl _) (fun _ o e => same_new hp _ _ e) (fun f => f) (fun _ g => g) fun z => ?_⟩
    subst z
    obtain ⟨_, ds, e, d⟩ := h2
    exact ⟨ds, same_new hp _ _ e, d⟩
  · obtain ⟨u, hu⟩ := S.live k a e
    exact ⟨u, same_new hp _ _ hu⟩
theorem QOkN.new {R : List PV → Sto → Prop} {Q : VK} {p : Addr} {vs : List V} {ps : List PV} (q : QOkN K cl F G σ al sl st R Q) (S : SOk K cl F G H σ al sl st) (hp : H p = none) (r : RepL K cl G vs ps) (h : R ps st) : Q (.ref p) (upd H p (.lst vs)) :=
  q p vs ps st F G _ h .refl (S.loose hp) upd_same (S.fh.free hp) (S.notAl hp) r
theorem QOkN.gr {R : List PV → Sto → Prop} {Q : VK} (g : Gr F G al st F' G' al st') (q : QOkN K cl F G σ al sl st R Q) : QOkN K cl F' G' σ al sl st' R Q :=
  fun a vs ps st'' F'' G'' H'' r g' S h f n rv => q a vs ps st'' F'' G'' H'' r (g.trans g') S h f n rv
def wOfN (w : WN) : WE := fun sl st R => w sl st fun ps st' => R (.v (.lst ps)) st'
theorem se_ofN {te : TE} {w : WN} (h : SEN K cl te w) : SE K cl te (wOfN w) := by
  intro sl st R hw F G H σ al S Q q
  refine h sl st _ hw F G H σ al S _ fun a vs ps st1 F1 G1 H1 h1 g1 S1 ha fa na r1 => ?_
  obtain ⟨S2, g2⟩ := S1.adopt ha fa na
  exact q (.ref a) (.v (.lst ps)) st1 _ _ H1 h1 (g1.trans g2) S2 (Rep.lst upd_same (RepL.mono g2.gg _ _ r1))
def wLstN (wa : WA) : WN := fun sl st R => wa sl st fun xs st1 => match vals xs st1 with
  | some (ps, st2) => ps.length ≤ sizeLine ∧ R ps st2
  | none => False
theorem sen_lst {ta : TA} {wa : WA} (h : SA K cl ta wa) : SEN K cl (tLst ta) (wLstN wa) := by
  intro sl st R hw F G H σ al S Q q
  refine h sl st _ hw F G H σ al S _ fun vs xs st1 F1 G1 H1 h1 g1 S1 r1 => ?_
  dsimp only at h1
  split at h1
  · rename_i ps st2 e
    obtain ⟨F2, G2, S2, g2, l⟩ := vals_ok S1 r1 e
    exact ⟨by rw [l.len]; exact h1.1, fun p hp => (q.gr (g1.trans g2)).new S2 hp l h1.2⟩
  · exact h1.elim
def wListN (wa : WA) : WN := fun sl st R => wa sl st fun xs st1 => match xs with
  | [.v (.tup ps)] => R ps st1
  | [x] => match items x st1 with
    | some ps => R ps st1
    | none => False
  | _ => False
theorem sen_list {ta : TA} {wa : WA} (h : SA K cl ta wa) : SEN K cl (tCB (rList K) ta) (wListN wa) := by
  intro sl st R hw F G H σ al S Q q
  refine h sl st _ hw F G H σ al S _ fun vs xs st1 F1 G1 H1 h1 g1 S1 rs => ?_
  dsimp only at h1
  split at h1
  · rename_i ps
    obtain ⟨v, rfl, r⟩ := rs.one
    cases r with
    | @tup a us _ e l => exact ⟨a, us, rfl, .inr (sqT_mono (S1.gf.trans S1.fh) e), fun p hp => (q.gr g1).new S1 hp l h1⟩
  · rename_i x _
    split at h1
    · rename_i ps e
      obtain ⟨v, rfl, r⟩ := rs.one
      obtain ⟨a, us, rfl, h1', l⟩ := items_at S1 r e
      exact ⟨a, us, rfl, .inl (SqL.of h1'), fun p hp => (q.gr g1).new S1 hp l h1⟩
    · exact h1.elim
  · exact h1.elim
def wCatN (wa wb : WE) : WN := fun sl st R => wa sl st fun x st1 => wb sl st1 fun y st2 => match items x st2, items y st2 with
  | some ps, some qs => ps.length + qs.length ≤ sizeLine ∧ R (ps ++ qs) st2
  | _, _ => False
theorem sen_cat {ta tb : TE} {wa wb : WE} (ha : SE K cl ta wa) (hb : SE K cl tb wb) : SEN K cl (tOp rAddAny ta tb) (wCatN wa wb) := by
  intro sl st R hw F G H σ al S Q q
  refine ha sl st _ hw F G H σ al S _ fun v x st1 F1 G1 H1 h1 g1 S1 r1 => ?_
  refine hb sl st1 _ h1 F1 G1 H1 σ al S1 _ fun u y st2 F2 G2 H2 h2 g2 S2 r2 => ?_
  dsimp only at h2
  split at h2
  · rename_i ps qs e1 e2
    obtain ⟨a, vs, rfl, k1, l1⟩ := items_at S2 (r1.mono g2.gg) e1
    obtain ⟨b, us, rfl, k2, l2⟩ := items_at S2 r2 e2
    refine .inr (.inr ⟨a, b, vs, us, rfl, rfl, k1, k2, ?_, fun p hp => (q.gr (g1.trans g2)).new S2 hp (l1.append l2) h2.2⟩)
    rw [l1.len, l2.len]
    exact h2.1
  · exact h2.elim
def wSlN (wa : WE) (wl wh : WO) : WN := fun sl st R => wa sl st fun x st1 => wl sl st1 fun l st2 => wh sl st2 fun u st3 => match items x st3 with
  | some ps => R (cutP ps l u) st3
  | none => False
theorem sen_slL {te : TE} {tl th : TO} {w : WE} {wl wh : WO} (h : SE K cl te w) (hl : SO K cl tl wl) (hh : SO K cl th wh) : SEN K cl (tSl (rSlL K) te tl th) (wSlN w wl wh) := by
  intro sl st R hw F G H σ al S Q q
  refine h sl st _ hw F G H σ al S _ fun v x st1 F1 G1 H1 h1 g1 S1 r1 => ?_
  refine hl sl st1 _ h1 F1 G1 H1 σ al S1 _ fun l st2 F2 G2 H2 h2 g2 S2 => ?_
  refine hh sl st2 _ h2 F2 G2 H2 σ al S2 _ fun u st3 F3 G3 H3 h3 g3 S3 => ?_
  try dsimp only at h3
  split at h3
  · rename_i ps e
    obtain ⟨a, vs, rfl, e1, l1⟩ := items_at S3 (r1.mono (g2.trans g3).gg) e
    exact ⟨a, vs, rfl, SqL.of e1, fun p hp => (q.gr ((g1.trans g2).trans g3)).new S3 hp (l1.cut l u) h3⟩
  · exact h3.elim

/-! ### targets -/
def SG (K : PySem.W.Frag) (cl : Str → Option Addr) (g : TG) (ts : List Nat) (w : WG) : Prop := ∀ x sl st R, w x sl st R → ∀ F G H σ al, SOk K cl F G H σ al sl st → ∀ v, RepW K cl al G v x → ∀ Q : L2.St → Hp → Prop,
  (∀ σ' sl', R sl' st → SOk K cl F G H σ' al sl' st → (∀ vs : List Nat, (∀ t ∈ ts, t ∈ vs) → L2.wipe σ' vs = L2.wipe σ vs) → Q σ' H) → g v σ H Q
def SGs (K : PySem.W.Frag) (cl : Str → Option Addr) (g : TGs) (ts : List Nat) (w : WGs) : Prop := ∀ ps sl st R, w ps sl st R → ∀ F G H σ al, SOk K cl F G H σ al sl st → ∀ vs, RepL K cl G vs ps → ∀ Q : L2.St → Hp → Prop,
  (∀ σ' sl', R sl' st → SOk K cl F G H σ' al sl' st → (∀ vs : List Nat, (∀ t ∈ ts, t ∈ vs) → L2.wipe σ' vs = L2.wipe σ vs) → Q σ' H) → g vs σ H Q
theorem wipe_set (σ : L2.St) (j : Nat) (x : Option V) : ∀ vs : List Nat, (j ∈ vs → L2.wipe (σ.set j x) vs = L2.wipe σ vs) ∧ (j ∉ vs → L2.wipe (σ.set j x) vs = (L2.wipe σ vs).set j x)
  | [] => ⟨fun h => (by simp at h), fun _ => rfl⟩
  | v :: vs => by
    obtain ⟨h1, h2⟩ := wipe_set σ j x vs
    constructor
    · intro h
      show (L2.wipe (σ.set j x) vs).set v none = (L2.wipe σ vs).set v none
      by_cases hj : j ∈ vs
      · rw [h1 hj]
      · have e : j = v := by
          rcases List.mem_cons.mp h with e | e
          · exact e
          · exact (hj e).elim
        rw [h2 hj, e, List.set_set]
    · intro h
      have hv : j ≠ v := fun e => h (by simp [e])
      have hj : j ∉ vs := fun e => h (by simp [e])
      show (L2.wipe (σ.set j x) vs).set v none = ((L2.wipe σ vs).set v none).set j x
      rw [h2 hj, List.set_comm _ _ hv]
theorem wipe_wipe (σ : L2.St) : ∀ us vs : List Nat, (∀ u ∈ us, u ∈ vs) → L2.wipe (L2.wipe σ us) vs = L2.wipe σ vs
  | [], _, _ => rfl
  | u :: us, vs, h => by
    show L2.wipe ((L2.wipe σ us).set u none) vs = L2.wipe σ vs
    rw [(wipe_set (L2.wipe σ us) u none vs).1 (h u (by simp))]
    exact wipe_wipe σ us vs fun x hx => h x (by simp [hx])
def wName (i : Nat) : WG := fun x sl st R => R (sl.set i (some x)) st
theorem sg_name {i : Nat} : SG K cl (gName i) [i] (wName i) := by
  intro x sl st R h F G H σ al S v r Q q
  exact q _ _ h (S.set r) fun vs hv => (wipe_set σ i (some v) vs).1 (hv i (by simp))
def wgNil : WGs := fun ps sl st R => match ps with
  | [] => R sl st
  | _ => False
def wgCons (w : WG) (ws : WGs) : WGs := fun ps sl st R => match ps with
  | p :: qs => w (.v p) sl st fun sl' st' => ws qs sl' st' R
  | [] => False
theorem sgs_nil : SGs K cl gNil [] wgNil := by
  intro ps sl st R h F G H σ al S vs r Q q
  unfold wgNil at h
  split at h
  · cases r
    exact ⟨rfl, q _ _ h S fun _ _ => rfl⟩
  · exact h.elim
theorem sgs_cons {g : TG} {gs : TGs} {t ts : List Nat} {w : WG} {ws : WGs} (h1 : SG K cl g t w) (h2 : SGs K cl gs ts ws) : SGs K cl (gCons g gs) (t ++ ts) (wgCons w ws) := by
  intro ps sl st R h F G H σ al S vs r Q q
  unfold wgCons at h
  split at h
  · rename_i p qs
    cases r with
    | cons r1 r2 =>
      refine ⟨_, _, rfl, ?_⟩
      refine h1 _ sl st _ h F G H σ al S _ r1 _ fun σ1 sl1 e1 S1 w1 => ?_
      refine h2 qs sl1 st R e1 F G H σ1 al S1 _ r2 _ fun σ2 sl2 e2 S2 w2 => ?_
      exact q _ _ e2 S2 fun us hu => (w2 us fun t ht => hu t (by simp [ht])).trans (w1 us fun t ht => hu t (by simp [ht]))
  · exact h.elim
def wTupT (n : Nat) (ws : WGs) : WG := fun x sl st R => match x with
  | .v (.tup ps) => ps.length = n ∧ ws ps sl st R
  | _ => False
theorem sg_tup {n : Nat} {gs : TGs} {ts : List Nat} {ws : WGs} (h : SGs K cl gs ts ws) : SG K cl (gTup K n gs) ts (wTupT n ws) := by
  intro x sl st R hw F G H σ al S v r Q q
  unfold wTupT at hw
  split at hw
  · rename_i ps
    cases r with
    | @tup a vs _ e l => exact ⟨a, vs, rfl, sqT_mono (S.gf.trans S.fh) e, by rw [l.len]; exact hw.1, h ps sl st R hw.2 F G H σ al S vs l Q q⟩
  · exact hw.elim

/-! ### what is walked -/
/-- a walk whose items are trees of G; B is what must stand -/
structure WalkP (K : PySem.W.Frag) (cl : Str → Option Addr) (J : It) (ps : List PV) (B G : Hp) : Prop where
  goes : ∀ (i : Nat) (H : Hp), i < ps.length → Same B H → J.go i H
  stops : ∀ (H : Hp), Same B H → J.stop ps.length H
  yields : ∀ (i : Nat) (H : Hp) (x : V) (H' : Hp), i < ps.length → Same B H → J.yld i H x H' → ∃ p, ps[i]? = some p ∧
    ((H' = H ∧ Rep K cl G x p) ∨ (∃ (T : Addr) (vs : List V) (qs : List PV), x = .ref T ∧ H T = none ∧ H' = upd H T (.tup vs) ∧ p = .tup qs ∧ RepL K cl G vs qs) ∨ ∃ (T : Addr) (vs : List V) (qs : List PV), x = .ref T ∧ H T = some (.tup vs) ∧ H' = H ∧ p = .tup qs ∧ RepL K cl G vs qs)
abbrev WI := Sl → Sto → (List PV → Sto → Prop) → Prop
/-- .. of a value (nothing of one's own is walked) -/
def SI (K : PySem.W.Frag) (cl : Str → Option Addr) (wi : TI) (w : WI) : Prop := ∀ sl st R, w sl st R → ∀ F G H σ al, SOk K cl F G H σ al sl st → ∀ Q : It → Hp → Prop,
  (∀ J ps st' F' G' H', R ps st' → Gr F G al st F' G' al st' → SOk K cl F' G' H' σ al sl st' → WalkP K cl J ps G' G' → Q J H') → wi σ H Q
theorem walkP_list {a : Addr} {vs : List V} {ps : List PV} {B : Hp} (h : B a = some (.lst vs)) (l : RepL K cl G vs ps) : WalkP K cl (Itl K a) ps B G := by
  refine ⟨fun i H hi s => ?_, fun H s => ?_, fun i H x H' hi s y => ?_⟩
  · exact walk_list.goes i H (by rw [l.len]; exact hi) (SqL.of (s _ _ h))
  · rw [← l.len]; exact walk_list.stops H (SqL.of (s _ _ h))
  · obtain ⟨e, hx⟩ := walk_list.yields i H x H' (by rw [l.len]; exact hi) (SqL.of (s _ _ h)) y
    obtain ⟨p, hp, r⟩ := l.get' hx
    exact ⟨p, hp, .inl ⟨e, r⟩⟩
theorem walkP_tup {a : Addr} {vs : List V} {ps : List PV} (h : SqU K G a vs) (l : RepL K cl G vs ps) : WalkP K cl (Itt K a) ps G G := by
  refine ⟨fun i H hi s => ?_, fun H s => ?_, fun i H x H' hi s y => ?_⟩
  · exact walk_tup.goes i H (by rw [l.len]; exact hi) (sqT_mono s h)
  · rw [← l.len]; exact walk_tup.stops H (sqT_mono s h)
  · obtain ⟨e, hx⟩ := walk_tup.yields i H x H' (by rw [l.len]; exact hi) (sqT_mono s h) y
    obtain ⟨p, hp, r⟩ := l.get' hx
    exact ⟨p, hp, .inl ⟨e, r⟩⟩
def rngP (lo : Int) (n : Nat) : List PV := (List.range n).map fun (i : Nat) => PV.int (lo + i)
theorem rngP_len (lo : Int) (n : Nat) : (rngP lo n).length = n := by simp [rngP]
theorem rngP_get {lo : Int} {n i : Nat} (h : i < n) : (rngP lo n)[i]? = some (.int (lo + i)) := by simp [rngP, h]
theorem walkP_range {lo : Int} {n : Nat} : WalkP K cl (Itr lo n) (rngP lo n) G G := by
  refine ⟨fun i H hi s => ?_, fun H s => ?_, fun i H x H' hi s y => ?_⟩
  · rw [rngP_len] at hi; exact hi
  · rw [rngP_len]; exact Nat.le_refl _
  · rw [rngP_len] at hi
    obtain ⟨e, rfl⟩ := y
    exact ⟨_, rngP_get hi, .inl ⟨e, .int _⟩⟩
def enumP (ps : List PV) : List PV := ps.zipIdx.map fun x => PV.tup [.int (x.2 : Nat), x.1]
theorem enumP_len (ps : List PV) : (enumP ps).length = ps.length := by simp [enumP]
theorem walkP_enum {a : Addr} {vs : List V} {ps : List PV} (h : G a = some (.lst vs)) (l : RepL K cl G vs ps) : WalkP K cl (Ite K a) (enumP ps) G G := by
  refine ⟨fun i H hi s => ?_, fun H s => ?_, fun i H x H' hi s y => ?_⟩
  · exact walk_enum.goes i H (by rw [l.len, ← enumP_len]; exact hi) (SqL.of (s _ _ h))
  · rw [enumP_len, ← l.len]; exact walk_enum.stops H (SqL.of (s _ _ h))
  · obtain ⟨T, x1, x2, rfl, hT, rfl, e1, e2⟩ := walk_enum.yields i H x H' (by rw [l.len, ← enumP_len]; exact hi) (SqL.of (s _ _ h)) y
    cases e1
    obtain ⟨p, hp, r⟩ := l.get' e2
    exact ⟨.tup [.int (i : Nat), p], by simp [enumP, hp], .inr (.inl ⟨T, _, [.int (i : Nat), p], rfl, hT, rfl, rfl, .cons (.int _) (.cons r .nil)⟩)⟩
def wIL (w : WE) : WI := fun sl st R => w sl st fun x st1 => match vals [x] st1 with
  | some ([.lst ps], st2) => R ps st2
  | _ => False
theorem si_list {te : TE} {w : WE} (h : SE K cl te w) : SI K cl (iList K te) (wIL w) := by
  intro sl st R hw F G H σ al S Q q
  refine h sl st _ hw F G H σ al S _ fun v x st1 F1 G1 H1 h1 g1 S1 r1 => ?_
  dsimp only at h1
  split at h1
  · rename_i ps st2 e
    obtain ⟨F2, G2, S2, g2, l⟩ := vals_ok (vs := [v]) (xs := [x]) S1 (And.intro r1 True.intro) e
    cases l with
    | cons l1 l2 =>
      cases l1 with
      | @lst a vs _ ea lr => exact ⟨a, rfl, ⟨vs, SqL.of (S2.fh _ _ (S2.gf _ _ ea))⟩, q _ _ _ _ _ _ h1 (g1.trans g2) S2 (walkP_list ea lr)⟩
  · exact h1.elim
def wIT (w : WE) : WI := fun sl st R => w sl st fun x st1 => match x with
  | .v (.tup ps) => R ps st1
  | _ => False
theorem si_tup {te : TE} {w : WE} (h : SE K cl te w) : SI K cl (iTup K te) (wIT w) := by
  intro sl st R hw F G H σ al S Q q
  refine h sl st _ hw F G H σ al S _ fun v x st1 F1 G1 H1 h1 g1 S1 r1 => ?_
  dsimp only at h1
  split at h1
  · rename_i ps
    cases r1 with
    | @tup a vs _ ea lr => exact ⟨a, rfl, ⟨vs, sqT_mono (S1.gf.trans S1.fh) ea⟩, q _ _ _ _ _ _ h1 g1 S1 (walkP_tup ea lr)⟩
  · exact h1.elim
def wIR1 (wa : WA) : WI := fun sl st R => wa sl st fun xs st1 => match xs with
  | [.v (.int n)] => (-(2 ^ 62) ≤ n ∧ n < 2 ^ 62) ∧ R (rngP 0 n.toNat) st1
  | _ => False
def wIR2 (wa : WA) : WI := fun sl st R => wa sl st fun xs st1 => match xs with
  | [.v (.int m), .v (.int n)] => (-(2 ^ 62) ≤ m ∧ m < 2 ^ 62 ∧ -(2 ^ 62) ≤ n ∧ n < 2 ^ 62) ∧ R (rngP m (n - m).toNat) st1
  | _ => False
theorem si_r1 {ta : TA} {wa : WA} (h : SA K cl ta wa) : SI K cl (iRng1 ta) (wIR1 wa) := by
  intro sl st R hw F G H σ al S Q q
  refine h sl st _ hw F G H σ al S _ fun vs xs st1 F1 G1 H1 h1 g1 S1 rs => ?_
  dsimp only at h1
  split at h1
  · rename_i n
    obtain ⟨v, rfl, r⟩ := rs.one
    cases r
    exact ⟨n, rfl, h1.1.1, h1.1.2, q _ _ _ _ _ _ h1.2 g1 S1 walkP_range⟩
  · exact h1.elim
theorem si_r2 {ta : TA} {wa : WA} (h : SA K cl ta wa) : SI K cl (iRng2 ta) (wIR2 wa) := by
  intro sl st R hw F G H σ al S Q q
  refine h sl st _ hw F G H σ al S _ fun vs xs st1 F1 G1 H1 h1 g1 S1 rs => ?_
  dsimp only at h1
  split at h1
  · rename_i m n
    obtain ⟨v, u, rfl, r, r'⟩ := rs.two
    cases r
    cases r'
    exact ⟨m, n, rfl, h1.1, q _ _ _ _ _ _ h1.2 g1 S1 walkP_range⟩
  · exact h1.elim
def wIEn (wa : WA) : WI := fun sl st R => wa sl st fun xs st1 => match vals xs st1 with
  | some ([.lst ps], st2) => R (enumP ps) st2
  | _ => False
theorem si_enum {ta : TA} {wa : WA} (h : SA K cl ta wa) : SI K cl (iEnum K ta) (wIEn wa) := by
  intro sl st R hw F G H σ al S Q q
  refine h sl st _ hw F G H σ al S _ fun vs xs st1 F1 G1 H1 h1 g1 S1 rs => ?_
  dsimp only at h1
  split at h1
  · rename_i ps st2 e
    obtain ⟨F2, G2, S2, g2, l⟩ := vals_ok S1 rs e
    cases l with
    | cons l1 l2 =>
      cases l2
      cases l1 with
      | @lst a us _ ea lr => exact ⟨a, us, rfl, SqL.of (S2.fh _ _ (S2.gf _ _ ea)), q _ _ _ _ _ _ h1 (g1.trans g2) S2 (walkP_enum ea lr)⟩
  · exact h1.elim

/-! ### comprehensions -/
def wYes : WT := fun _ st R => R true st
theorem st_yes' : STt K cl tYes wYes := fun sl st R h F G H σ al S Q q => q.at h S
def wLc (wi : WI) (wg : WG) (wt : WT) (we : WE) (vs : List Nat) : WN := fun sl st R => wi sl st fun ps st1 => ps.length ≤ 100000 ∧ ∃ I : Nat → List PV → Sto → Prop, I 0 [] st1 ∧
  (∀ i acc p st2, ps[i]? = some p → I i acc st2 → wg (.v p) (wipeS sl vs) st2 fun sl3 st3 => wt sl3 st3 fun b st4 =>
    if b = true then we sl3 st4 fun x st5 => match vals [x] st5 with
      | some ([q], st6) => I (i + 1) (acc ++ [q]) st6
      | _ => False
    else I (i + 1) acc st4) ∧ ∀ acc st2, I ps.length acc st2 → R acc st2
/-- .. of what the frame keeps -/
def SI2 (K : PySem.W.Frag) (cl : Str → Option Addr) (wi : TI) (w : WI) : Prop := ∀ sl st R, w sl st R → ∀ F G H σ al, SOk K cl F G H σ al sl st → ∀ Q : It → Hp → Prop,
  (∀ J ps st' F' G' H', R ps st' → Gr F G al st F' G' al st' → SOk K cl F' G' H' σ al sl st' → WalkP K cl J ps F' G' → Q J H') → wi σ H Q
theorem WalkP.more {J : It} {ps : List PV} {B B' : Hp} (w : WalkP K cl J ps B G) (s : Same B B') : WalkP K cl J ps B' G :=
  ⟨fun i H hi h => w.goes i H hi (s.trans h), fun H h => w.stops H (s.trans h), fun i H x H' hi h y => w.yields i H x H' hi (s.trans h) y⟩
theorem si2_of {wi : TI} {w : WI} (h : SI K cl wi w) : SI2 K cl wi w := fun sl st R hw F G H σ al S Q q =>
  h sl st R hw F G H σ al S Q fun J ps st' F' G' H' r g S' wk => q J ps st' F' G' H' r g S' (wk.more S'.gf)
/-- a test's soundness behind a state that is known -/
def STtR (K : PySem.W.Frag) (cl : Str → Option Addr) (F0 G0 : Hp) (al0 : List Addr) (st0 : Sto) (t : TT) (w : WT) : Prop := ∀ sl st R, w sl st R → ∀ F G H σ al, Gr F0 G0 al0 st0 F G al st → SOk K cl F G H σ al sl st → ∀ Q, QOkT K cl F G σ al sl st R Q → t σ H Q
/-- a comprehension whose test may hang on the state at its start -/
theorem sen_lcR {wi : TI} {g : TG} {tt : L2.St → TT} {te : TE} {vs ts : List Nat} {wwi : WI} {wg : WG} {wt : Sl → WT} {we : WE} (hi : SI2 K cl wi wwi) (hg : SG K cl g ts wg)
    (ht : ∀ F0 G0 H0 σ0 al0 sl0 st0, SOk K cl F0 G0 H0 σ0 al0 sl0 st0 → STtR K cl F0 G0 al0 st0 (tt σ0) (wt sl0)) (he : SE K cl te we) (hv : ∀ t ∈ ts, t ∈ vs) :
    SEN K cl (fun σ H Q => tLc wi g (tt σ) te vs σ H Q) (fun sl st R => wLc wwi wg (wt sl) we vs sl st R) := by
  intro sl st R hw F G H σ al S Q q
  refine hi sl st _ hw F G H σ al S _ fun J ps st1 F1 G1 H1 h1 g1 S1 wk D hD => ?_
  obtain ⟨hlen, I, i0, it, ie⟩ := h1
  have dal : ∀ k : Nat, al[k]? ≠ some D := S1.notAl hD
  have walk : Walk J ps.length (fun H => Same F1 H) (fun i H x H' => ∃ p, ps[i]? = some p ∧ ((H' = H ∧ Rep K cl G1 x p) ∨ (∃ (T : Addr) (vs : List V) (qs : List PV), x = .ref T ∧ H T = none ∧ H' = upd H T (.tup vs) ∧ p = .tup qs ∧ RepL K cl G1 vs qs) ∨ ∃ (T : Addr) (vs : List V) (qs : List PV), x = .ref T ∧ H T = some (.tup vs) ∧ H' = H ∧ p = .tup qs ∧ RepL K cl G1 vs qs)) :=
    ⟨fun i H hi s => wk.goes i H hi s, fun H s => wk.stops H s, fun i H x H' hi s y => wk.yields i H x H' hi s y⟩
  refine lc_it walk (fun i H' => ∃ F' G' acc us st2, I i acc st2 ∧ acc.length ≤ i ∧ H' D = some (.lst us) ∧ RepL K cl G' us acc ∧ F' D = none ∧ SOk K cl F' G' H' (L2.wipe σ vs) al (wipeS sl vs) st2 ∧ Gr F1 G1 al st1 F' G' al st2) ?_ ?_ ?_ ?_
  · exact ⟨F1, G1, [], [], st1, i0, Nat.le_refl _, upd_same, .nil, S1.fh.free hD, (S1.loose hD).wipe vs, .refl⟩
  · rintro i H' _ ⟨F', G', acc, us, st2, _, _, _, _, _, S', g'⟩
    exact g'.ff.trans S'.fh
  · rintro i x H2 H3 hi ⟨F', G', acc, us, st2, hI, hacc, hDD, hus, fD, S', g'⟩ ⟨p, hp, hy⟩
    have step := it i acc p st2 hp hI
    -- the list at D is kept by what runs
    have gD : G' D = none := S'.gf.free fD
    have S2 : SOk K cl (upd F' D (.lst us)) G' H2 (L2.wipe σ vs) al (wipeS sl vs) st2 := by
      refine ⟨S'.gf.trans (same_new fD), same_updR S'.fh hDD, S'.slots, S'.len, fun k c e => ?_, S'.nd, S'.live, S'.cnt⟩
      obtain ⟨b, h1, h2⟩ := S'.cells k c e
      have ne : b ≠ D := fun z => dal k (z ▸ h1)
      refine ⟨b, h1, h2.mono (same_new fD) (Same.refl _) (fun _ o e => e) (fun f => by rw [upd_ne ne]; exact f) (fun _ g => g) fun z => ?_⟩
      subst z
      exact h2.2
    -- the item
    have item : ∃ F3 G3, SOk K cl F3 G3 H3 (L2.wipe σ vs) al (wipeS sl vs) st2 ∧ Gr (upd F' D (.lst us)) G' al st2 F3 G3 al st2 ∧ Rep K cl G3 x p := by
      rcases hy with ⟨rfl, r⟩ | ⟨T, ws, qs, rfl, hT, rfl, rfl, r⟩ | ⟨T, ws, qs, rfl, hT, rfl, rfl, r⟩
      · exact ⟨_, _, S2, .refl, Rep.mono g'.gg _ _ r⟩
      · obtain ⟨S3, g3⟩ := S2.new (o := .tup ws) hT
        exact ⟨_, _, S3, g3, .tup (SqU.of upd_same) (RepL.mono (g'.gg.trans g3.gg) _ _ r)⟩
      · obtain ⟨F3, G3, S3, g3, e3⟩ := S2.addTups (bs := [T]) fun b hb => by rw [List.mem_singleton.mp hb]; exact ⟨ws, hT⟩
        exact ⟨F3, G3, S3, g3, .tup (SqU.of (by rw [e3 T (List.mem_singleton.mpr rfl)]; exact hT)) (RepL.mono (g'.gg.trans g3.gg) _ _ r)⟩
    obtain ⟨F3, G3, S3, g3, r3⟩ := item
    refine hg (.v p) _ st2 _ step F3 G3 H3 _ al S3 x r3 _ fun σ4 sl4 e4 S4 w4 => ⟨?_, ?_⟩
    · rw [w4 vs hv, wipe_wipe σ vs vs fun _ h => h]
    have done : ∀ {F5 G5 H5 : Hp} {st5 : Sto} {sl5 : Sl} {σ5 : L2.St}, SOk K cl F5 G5 H5 σ5 al sl5 st5 → Gr (upd F' D (.lst us)) G' al st2 F5 G5 al st5 → F5 D = some (.lst us) ∧ H5 D = some (.lst us) ∧ G5 D = none ∧
        (∀ (o : List V), SOk K cl (fun b => if b = D then none else F5 b) G5 (upd H5 D (.lst o)) σ5 al sl5 st5) ∧ Gr F1 G1 al st1 (fun b => if b = D then none else F5 b) G5 al st5 := by
      intro F5 G5 H5 st5 sl5 σ5 S5 g5
      have f5 : F5 D = some (.lst us) := g5.ff _ _ upd_same
      have gn : G5 D = none := by
        cases e : G5 D with
        | none => rfl
        | some o =>
          rcases g5.new D o e with z | z | ⟨xs, z⟩
          · rw [gD] at z; cases z
          · rw [upd_same] at z; cases z
          · have := S5.gf _ _ e
            rw [f5, z] at this
            cases this
      refine ⟨f5, S5.fh _ _ f5, gn, fun o => ⟨fun b u e => ?_, fun b u e => ?_, S5.slots, S5.len, fun k c e => ?_, S5.nd, fun k b e => ?_, S5.cnt⟩, ⟨fun b u e => ?_, g'.gg.trans g5.gg, fun b u e => ?_, fun _ _ h => h, fun k h => g5.dice k (g'.dice k h)⟩⟩
      · have ne : b ≠ D := fun z => by rw [z, gn] at e; cases e
        show (if b = D then none else F5 b) = some u
        rw [if_neg ne]
        exact S5.gf _ _ e
      · by_cases hb : b = D
        · have e' : (if b = D then none else F5 b) = some u := e
          rw [if_pos hb] at e'; cases e'
        · have e' : (if b = D then none else F5 b) = some u := e
          rw [if_neg hb] at e'
          rw [upd_ne hb]
          exact S5.fh _ _ e'
      · obtain ⟨b, h1, h2⟩ := S5.cells k c e
        have ne : b ≠ D := fun z => dal k (z ▸ h1)
        refine ⟨b, h1, ?_⟩
        have fe : (if b = D then none else F5 b) = F5 b := if_neg ne
        have he : upd H5 D (.lst o) b = H5 b := upd_ne ne
        cases c with
        | lst ps => exact ⟨fe.trans h2.1, by rw [he]; exact h2.2⟩
        | frz ps => exact h2
        | lk ps =>
          obtain ⟨g, vs, e, r⟩ := h2
          exact ⟨g, vs, fe.trans e, r⟩
        | lkT ks =>
          obtain ⟨g, od, e⟩ := h2
          exact ⟨g, od, fe.trans e⟩
        | dT ks => exact ⟨fe.trans h2.1, by rw [he]; exact h2.2⟩
        | dK ks ps => exact ⟨fe.trans h2.1, by rw [he]; exact h2.2⟩
        | dice =>
          obtain ⟨f, ds, e, d⟩ := h2
          exact ⟨fe.trans f, ds, by rw [he]; exact e, d⟩
        | pin B => exact h2
        | tab P q ls =>
          obtain ⟨f, ap, hl, ps, e, r⟩ := h2
          exact ⟨fe.trans f, ap, hl, ps, by rw [he]; exact e, r⟩
      · by_cases hb : b = D
        · exact ⟨_, by rw [hb]; exact upd_same⟩
        · rw [upd_ne hb]; exact S5.live k b e
      · have e' := g'.ff _ _ e
        have ne : b ≠ D := fun z => by rw [z, fD] at e'; cases e'
        show (if b = D then none else F5 b) = some u
        rw [if_neg ne]
        exact g5.ff _ _ (by rw [upd_ne ne]; exact e')
      · rcases g5.new b u e with z | z | z
        · exact g'.new b u z
        · exact .inr (.inl (g'.ff.free ((same_new fD).free z)))
        · exact .inr (.inr z)
    have gR : Gr F1 G1 al st1 F3 G3 al st2 := ⟨fun b u e => by
      have e' := g'.ff _ _ e
      have ne : b ≠ D := fun z => by rw [z, fD] at e'; cases e'
      exact g3.ff _ _ (by rw [upd_ne ne]; exact e'), g'.gg.trans g3.gg, fun b u e => by
      rcases g3.new b u e with z | z | z
      · exact g'.new b u z
      · exact .inr (.inl (g'.ff.free ((same_new fD).free z)))
      · exact .inr (.inr z), fun _ _ h => h, fun k h => g3.dice k (g'.dice k h)⟩
    refine ht F1 G1 H1 σ al sl st1 S1 sl4 st2 _ e4 F3 G3 H3 σ4 al gR S4 _ fun b st5 F5 G5 H5 e5 g5 S5 => ?_
    cases b with
    | false =>
      have e5' : I (i + 1) acc st5 := by simpa using e5
      obtain ⟨f5, hH5, _, so, gg⟩ := done S5 (g3.trans g5)
      have so' := so us
      have same : upd H5 D (.lst us) = H5 := by
        funext b
        by_cases hb : b = D
        · rw [hb, upd_same, hH5]
        · rw [upd_ne hb]
      rw [same] at so'
      refine ⟨_, G5, acc, us, st5, e5', by omega, hH5, RepL.mono (g3.trans g5).gg _ _ hus, if_pos rfl, ?_, gg⟩
      exact S'.back so' ⟨fun b u e => by
        have ne : b ≠ D := fun z => by rw [z, fD] at e; cases e
        show (if b = D then none else F5 b) = some u
        rw [if_neg ne]
        exact (g3.trans g5).ff _ _ (by rw [upd_ne ne]; exact e), (g3.trans g5).gg, fun b u e => by
        rcases (g3.trans g5).new b u e with z | z | z
        · exact .inl z
        · exact .inr (.inl ((same_new fD).free z))
        · exact .inr (.inr z), fun _ _ h => h, (g3.trans g5).dice⟩
    | true =>
      have e5' := e5
      simp only [if_true] at e5'
      refine he sl4 st5 _ e5' F5 G5 H5 σ4 al S5 _ fun y z st6 F6 G6 H6 e6 g6 S6 r6 => ?_
      dsimp only at e6
      split at e6
      · rename_i q' st7 ev
        obtain ⟨F7, G7, S7, g7, l7⟩ := vals_ok (vs := [y]) (xs := [z]) S6 (And.intro r6 True.intro) ev
        have gt := ((g3.trans g5).trans g6).trans g7
        obtain ⟨f7, hH7, _, so, gg⟩ := done S7 gt
        cases l7 with
        | cons ly _ =>
          refine ⟨us, hH7, ?_, _, G7, acc ++ [q'], us ++ [y], st7, e6, by simp; omega, upd_same, (RepL.mono gt.gg _ _ hus).snoc ly, if_pos rfl, ?_, gg⟩
          · rw [hus.len]
            have : sizeLine = 16777216 := sizeLine_eq
            omega
          · exact S'.back (so (us ++ [y])) ⟨fun b u e => by
              have ne : b ≠ D := fun z => by rw [z, fD] at e; cases e
              show (if b = D then none else F7 b) = some u
              rw [if_neg ne]
              exact gt.ff _ _ (by rw [upd_ne ne]; exact e), gt.gg, fun b u e => by
              rcases gt.new b u e with z | z | z
              · exact .inl z
              · exact .inr (.inl ((same_new fD).free z))
              · exact .inr (.inr z), fun _ _ h => h, gt.dice⟩
      · exact e6.elim
  · rintro H' ⟨F', G', acc, us, st2, hI, hacc, hDD, hus, fD, S', g'⟩
    have gt := g1.trans g'
    exact q D us acc st2 F' G' H' (ie acc st2 hI) gt (S.back S' gt) hDD fD dal hus
theorem sen_lc2 {wi : TI} {g : TG} {tt : TT} {te : TE} {vs ts : List Nat} {wwi : WI} {wg : WG} {wt : WT} {we : WE} (hi : SI2 K cl wi wwi) (hg : SG K cl g ts wg) (ht : STt K cl tt wt) (he : SE K cl te we) (hv : ∀ t ∈ ts, t ∈ vs) :
    SEN K cl (tLc wi g tt te vs) (wLc wwi wg wt we vs) :=
  sen_lcR (tt := fun _ => tt) (wt := fun _ => wt) hi hg (fun _ _ _ _ _ _ _ _ sl st R hw F G H σ al _ S Q q => ht sl st R hw F G H σ al S Q q) he hv
theorem sen_lc {wi : TI} {g : TG} {tt : TT} {te : TE} {vs ts : List Nat} {wwi : WI} {wg : WG} {wt : WT} {we : WE} (hi : SI K cl wi wwi) (hg : SG K cl g ts wg) (ht : STt K cl tt wt) (he : SE K cl te we) (hv : ∀ t ∈ ts, t ∈ vs) :
    SEN K cl (tLc wi g tt te vs) (wLc wwi wg wt we vs) := sen_lc2 (si2_of hi) hg ht he hv
end
end VL

set_option Elab.async false
set_option linter.all false
set_option maxRecDepth 100000
set_option maxHeartbeats 2000000
/-! The value layer: calls, instances, statements, a def's body. -/
namespace VL
open PySem L2

/-- a def told by values: args, what is wanted of its value -/
abbrev VSp := List PV → (PV → Prop) → Prop
def NewOk (G H G' : Hp) : Prop := ∀ a o, G' a = some o → G a = some o ∨ H a = none ∨ ∃ xs, o = .tup xs
def toSp (K : PySem.W.Frag) (cl : Str → Option Addr) (vsp : VSp) : Sp := fun vs H Q _ => ∃ (G : Hp) (ps : List PV) (R : PV → Prop), Same G H ∧ RepL K cl G vs ps ∧ vsp ps R ∧
  ∀ v p G' H', R p → Same H H' → Same G G' → Same G' H' → NewOk G H G' → Rep K cl G' v p → Q v H'
/-- .. whose first argument is the dice -/
def toSpD (K : PySem.W.Frag) (cl : Str → Option Addr) (vsp : VSp) : Sp := fun vs H Q _ => ∃ (F G : Hp) (d : Addr) (us : List V) (ps : List PV) (R : PV → Prop), vs = .ref d :: us ∧ Same G F ∧ Same F H ∧ F d = none ∧ DiceAt H d ∧ RepL K cl G us ps ∧ vsp ps R ∧
  ∀ v p F' G' H', R p → Same F F' → Same G G' → Same G' F' → Same F' H' → F' d = none → DiceAt H' d → NewOk G F G' → Rep K cl G' v p → Q v H'
/-- an __init__: the new instance, told by what it becomes -/
def toSpI (K : PySem.W.Frag) (cl : Str → Option Addr) (C : Addr) (vsp : VSp) : Sp := fun vs H0 Q _ => ∃ (x dx : Addr) (us : List V) (H G : Hp) (ps : List PV) (R : PV → Prop), vs = .ref x :: us ∧ H x = none ∧ H dx = none ∧ dx ≠ x ∧
  H0 = upd (upd H dx (.own x)) x (.ins C dx []) ∧ Same G H ∧ RepL K cl G us ps ∧ vsp ps R ∧
  ∀ p G' H', R p → Same H H' → Same G G' → Same G' H' → NewOk G H G' → Rep K cl G' (.ref x) p → Q .non H'

section
variable {K : PySem.W.Frag} {cl : Str → Option Addr} {F G H F' G' H' : Hp} {σ : L2.St} {al al' : List Addr} {sl : Sl} {st st' : Sto}
/-! ### calls -/
def wCall (vsp : VSp) (wa : WA) : WE := fun sl st R => wa sl st fun xs st1 => match vals xs st1 with
  | some (ps, st2) => vsp ps fun p => R (.v p) st2
  | none => False
/-- behind a callee that keeps all -/
theorem SOk.called {G1 H1 : Hp} (S : SOk K cl F G H σ al sl st) (sH : Same H H1) (sG : Same G G1) (gh : Same G1 H1) (new : NewOk G H G1) : ∃ F1, SOk K cl F1 G1 H1 σ al sl st ∧ Gr F G al st F1 G1 al st := by
  obtain ⟨F1, _, S1, g1⟩ := S.after sG gh (S.fh.trans sH) new (fun k a c h1 h2 _ _ => by
    obtain ⟨o, ho⟩ := S.live k a h2
    rw [ho, sH _ _ ho]) fun k a h1 h2 => by
    obtain ⟨b, hb, _, ds, e, d⟩ := S.cells k _ h1
    rw [h2] at hb
    cases hb
    exact ⟨ds, sH _ _ e, d⟩
  exact ⟨F1, S1, g1⟩
theorem se_call {vsp : VSp} {ta : TA} {wa : WA} (h : SA K cl ta wa) : SE K cl (tCall (toSp K cl vsp) [] E0 ta) (wCall vsp wa) := by
  intro sl st R hw F G H σ al S Q q
  refine h sl st _ hw F G H σ al S _ fun vs xs st1 F1 G1 H1 h1 g1 S1 rs => ?_
  dsimp only at h1
  split at h1
  · rename_i ps st2 e
    obtain ⟨F2, G2, S2, g2, l⟩ := vals_ok S1 rs e
    show toSp K cl vsp (vs ++ []) H1 Q E0
    rw [List.append_nil]
    refine ⟨G2, ps, _, S2.gf.trans S2.fh, l, h1, fun v p G' H' r sH sG gh new rv => ?_⟩
    obtain ⟨F3, S3, g3⟩ := S2.called sH sG gh new
    exact q v (.v p) st2 F3 G' H' r ((g1.trans g2).trans g3) S3 rv
  · exact h1.elim
theorem se_call0 {vsp : VSp} : SE K cl (tCall (toSp K cl vsp) [] E0 tNil) (wCall vsp wNil) := se_call sa_nil
def wCallD (vsp : VSp) (wa : WA) : WE := fun sl st R => wa sl st fun xs st1 => match xs with
  | .l k :: ys => match vals ys st1 with
    | some (ps, st2) => st2[k]? = some .dice ∧ vsp ps fun p => R (.v p) st2
    | none => False
  | _ => False
theorem se_callD {vsp : VSp} {ta : TA} {wa : WA} (h : SA K cl ta wa) : SE K cl (tCall (toSpD K cl vsp) [] E0 ta) (wCallD vsp wa) := by
  intro sl st R hw F G H σ al S Q q
  refine h sl st _ hw F G H σ al S _ fun vs xs st1 F1 G1 H1 h1 g1 S1 rs => ?_
  dsimp only at h1
  split at h1
  · rename_i k ys
    split at h1
    · rename_i ps st2 e
      match vs, rs with
      | v :: us, rs =>
        obtain ⟨d, hd, rfl⟩ := rs.1
        obtain ⟨F2, G2, S2, g2, l⟩ := vals_ok S1 rs.2 e
        obtain ⟨hk, h1⟩ := h1
        obtain ⟨d', hd', fd, dice⟩ := S2.cells k _ hk
        rw [hd] at hd'
        cases hd'
        show toSpD K cl vsp (V.ref d :: us ++ []) H1 Q E0
        rw [List.append_nil]
        have gd : G2 d = none := S2.gf.free fd
        refine ⟨fun b => if b = d then none else H1 b, G2, d, us, ps, _, rfl, fun b u z => ?_, fun b u z => ?_, if_pos rfl, dice, l, h1, fun v p F' G' H' r sF sG gf fh f' dice' new rv => ?_⟩
        · have ne : b ≠ d := fun z' => by rw [z', gd] at z; cases z
          show (if b = d then none else H1 b) = some u
          rw [if_neg ne]
          exact (S2.gf.trans S2.fh) _ _ z
        · by_cases hb : b = d
          · have z' : (if b = d then none else H1 b) = some u := z
            rw [if_pos hb] at z'; cases z'
          · have z' : (if b = d then none else H1 b) = some u := z
            rw [if_neg hb] at z'
            exact z'
        · have keep : ∀ b o, b ≠ d → H1 b = some o → H' b = some o := fun b o hb e => fh _ _ (sF _ _ (by show (if b = d then none else H1 b) = some o; rw [if_neg hb]; exact e))
          have g'd : G' d = none := gf.free f'
          obtain ⟨F3, _, S3, g3⟩ := S2.after sG (gf.trans fh) (fun b u z => keep b u (ne_of_none z fd) (S2.fh _ _ z)) (fun b o z => by
            rcases new b o z with z1 | z1 | z1
            · exact .inl z1
            · have ne : b ≠ d := fun z' => by rw [z', g'd] at z; cases z
              have z1' : (if b = d then none else H1 b) = none := z1
              rw [if_neg ne] at z1'
              exact .inr (.inl z1')
            · exact .inr (.inr z1)) (fun j b c hj hb fb nd => by
              obtain ⟨o, ho⟩ := S2.live j b hb
              have ne : b ≠ d := fun z' => by
                have ej := S2.nd j k d (z' ▸ hb) hd
                rw [ej, hk] at hj
                cases hj
                exact nd rfl
              rw [ho, keep b o ne ho]) fun j b hj hb => by
              by_cases z' : b = d
              · rw [z']; exact dice'
              · obtain ⟨b', hb', _, ds, e, dd⟩ := S2.cells j _ hj
                rw [hb] at hb'
                cases hb'
                exact ⟨ds, keep b _ z' e, dd⟩
          exact q v (.v p) st2 F3 G' H' r ((g1.trans g2).trans g3) S3 rv
    · exact h1.elim
  · exact h1.elim
/-! ### instances -/
theorem lookup_zip {α : Type} [BEq α] : ∀ {ns : List α} {vs : List V} {ps : List PV} {f : α} {p : PV}, RepL K cl G vs ps → ns.length = vs.length → (ns.zip ps).lookup f = some p → ∃ v, (ns.zip vs).lookup f = some v ∧ Rep K cl G v p
  | [], _, _, _, _, _, _, h => by simp at h
  | n :: ns, [], _, _, _, _, l, _ => by simp at l
  | n :: ns, v :: vs, [], _, _, r, _, _ => by cases r
  | n :: ns, v :: vs, p' :: ps, f, p, r, l, h => by
    cases r with
    | cons r1 r2 =>
      simp only [List.zip_cons_cons, List.lookup_cons] at h ⊢
      cases e : f == n with
      | true =>
        rw [e] at h
        simp only [Option.some.injEq] at h
        subst h
        exact ⟨v, rfl, r1⟩
      | false =>
        rw [e] at h
        exact lookup_zip r2 (by simpa using l) h
theorem lookup_zip_none {α : Type} [BEq α] : ∀ {ns : List α} {vs : List V} {f : α}, (ns.any fun n => f == n) = false → (ns.zip vs).lookup f = none
  | [], _, _, _ => by simp
  | n :: ns, [], _, _ => by simp
  | n :: ns, v :: vs, f, h => by
    simp only [List.any_cons, Bool.or_eq_false_iff] at h
    simp only [List.zip_cons_cons, List.lookup_cons, h.1]
    exact lookup_zip_none h.2
def wFld (c f : Str) (w : WE) : WE := fun sl st R => w sl st fun x st1 => match x with
  | .v (.ins c' ns ps) => c' = c ∧ ∃ p, (ns.zip ps).lookup f = some p ∧ R (.v p) st1
  | _ => False
theorem se_fld {te : TE} {w : WE} {c f : Str} (hc : ∀ C, cl c = some C → Cls K C ∧ NoAttr K C f) (h : SE K cl te w) : SE K cl (tFld K te f) (wFld c f w) := by
  intro sl st R hw F G H σ al S Q q
  refine h sl st _ hw F G H σ al S _ fun v x st1 F1 G1 H1 h1 g1 S1 r1 => ?_
  dsimp only at h1
  split at h1
  · rename_i c' ns ps
    obtain ⟨rfl, p, hp, h1⟩ := h1
    cases r1 with
    | @ins a C dx _ _ vs _ e1 e2 e3 e4 =>
      obtain ⟨v, hv, r⟩ := lookup_zip e4 e3 hp
      exact ⟨a, C, dx, _, v, rfl, S1.fh _ _ (S1.gf _ _ e2), (hc C e1).1, (hc C e1).2, hv, q _ _ _ _ _ _ h1 g1 S1 r⟩
  · exact h1.elim
def wMeth (c m : Str) (vsp : VSp) (w : WE) (wa : WA) : WE := fun sl st R => w sl st fun x st1 => match x with
  | .v (.ins c' ns qs) => c' = c ∧ (ns.any fun n => m == n) = false ∧ wa sl st1 fun xs st2 => match vals xs st2 with
    | some (ps, st3) => vsp (.ins c' ns qs :: ps) fun p => R (.v p) st3
    | none => False
  | _ => False
theorem se_meth {te : TE} {ta : TA} {w : WE} {wa : WA} {c m : Str} {C : Addr} {vsp : VSp} (hc : cl c = some C) (h : SE K cl te w) (ha : SA K cl ta wa) : SE K cl (tMeth C m (toSp K cl vsp) [] E0 te ta) (wMeth c m vsp w wa) := by
  intro sl st R hw F G H σ al S Q q
  refine h sl st _ hw F G H σ al S _ fun v x st1 F1 G1 H1 h1 g1 S1 r1 => ?_
  dsimp only at h1
  split at h1
  · rename_i c' ns qs
    obtain ⟨rfl, hm, h1⟩ := h1
    have r1' := r1
    cases r1 with
    | @ins a C' dx _ _ vs _ e1 e2 e3 e4 =>
      rw [hc] at e1
      cases e1
      refine ⟨a, dx, _, rfl, S1.fh _ _ (S1.gf _ _ e2), lookup_zip_none hm, ?_⟩
      refine ha sl st1 _ h1 F1 G1 H1 σ al S1 _ fun us xs st2 F2 G2 H2 h2 g2 S2 rs => ?_
      dsimp only at h2
      split at h2
      · rename_i ps st3 e
        obtain ⟨F3, G3, S3, g3, l⟩ := vals_ok S2 rs e
        show toSp K cl vsp (V.ref a :: (us ++ [])) H2 Q E0
        rw [List.append_nil]
        refine ⟨G3, _, _, S3.gf.trans S3.fh, .cons (Rep.mono (g2.trans g3).gg _ _ r1') l, h2, fun v p G' H' r sH sG gh new rv => ?_⟩
        obtain ⟨F4, S4, g4⟩ := S3.called sH sG gh new
        exact q v (.v p) st3 F4 G' H' r (((g1.trans g2).trans g3).trans g4) S4 rv
      · exact h2.elim
  · exact h1.elim
theorem se_make {ta : TA} {wa : WA} {C : Addr} {vsp : VSp} (ha : SA K cl ta wa) : SE K cl (tMake C (toSpI K cl C vsp) [] E0 ta) (wCall vsp wa) := by
  intro sl st R hw F G H σ al S Q q
  refine ha sl st _ hw F G H σ al S _ fun vs xs st1 F1 G1 H1 h1 g1 S1 rs => ?_
  dsimp only at h1
  split at h1
  · rename_i ps st2 e
    obtain ⟨F2, G2, S2, g2, l⟩ := vals_ok S1 rs e
    intro x dx hx hdx ne
    show toSpI K cl C vsp (V.ref x :: (vs ++ [])) _ _ E0
    rw [List.append_nil]
    refine ⟨x, dx, vs, H1, G2, ps, _, rfl, hx, hdx, ne, rfl, S2.gf.trans S2.fh, l, h1, fun p G' H' r sH sG gh new rv => ⟨rfl, ?_⟩⟩
    obtain ⟨F3, S3, g3⟩ := S2.called sH sG gh new
    exact q (.ref x) (.v p) st2 F3 G' H' r ((g1.trans g2).trans g3) S3 rv
  · exact h1.elim

/-! ### statements -/
structure DOk (K : PySem.W.Frag) (cl : Str → Option Addr) (F G : Hp) (al : List Addr) (st : Sto) (D' : PEnds) (D : Ends) : Prop where
  nx : ∀ σ' sl' st' F' G' H' al', D'.nx sl' st' → Gr F G al st F' G' al' st' → SOk K cl F' G' H' σ' al' sl' st' → D.nx σ' H'
  bk : ∀ σ' sl' st' F' G' H' al', D'.bk sl' st' → Gr F G al st F' G' al' st' → SOk K cl F' G' H' σ' al' sl' st' → D.bk σ' H'
  ct : ∀ σ' sl' st' F' G' H' al', D'.ct sl' st' → Gr F G al st F' G' al' st' → SOk K cl F' G' H' σ' al' sl' st' → D.ct σ' H'
  rt : ∀ v p σ' sl' st' F' G' H' al', D'.rt p st' → Gr F G al st F' G' al' st' → SOk K cl F' G' H' σ' al' sl' st' → Rep K cl G' v p → D.rt v H'
theorem DOk.gr {D' : PEnds} {D : Ends} (g : Gr F G al st F' G' al' st') (d : DOk K cl F G al st D' D) : DOk K cl F' G' al' st' D' D :=
  ⟨fun σ1 sl1 st1 F1 G1 H1 al1 r g' S => d.nx σ1 sl1 st1 F1 G1 H1 al1 r (g.trans g') S, fun σ1 sl1 st1 F1 G1 H1 al1 r g' S => d.bk σ1 sl1 st1 F1 G1 H1 al1 r (g.trans g') S,
    fun σ1 sl1 st1 F1 G1 H1 al1 r g' S => d.ct σ1 sl1 st1 F1 G1 H1 al1 r (g.trans g') S, fun v p σ1 sl1 st1 F1 G1 H1 al1 r g' S rv => d.rt v p σ1 sl1 st1 F1 G1 H1 al1 r (g.trans g') S rv⟩
def SS (K : PySem.W.Frag) (cl : Str → Option Addr) (t : TS) (w : WS) : Prop := ∀ D' sl st, w D' sl st → ∀ F G H σ al, SOk K cl F G H σ al sl st → ∀ D : Ends, DOk K cl F G al st D' D → t D σ H

def wNext : WS := fun D sl st => D.nx sl st
theorem ss_next : SS K cl tNext wNext := fun D' sl st h F G H σ al S D d => d.nx _ _ _ _ _ _ _ h .refl S
def wBrk : WS := fun D sl st => D.bk sl st
theorem ss_brk : SS K cl tBreak wBrk := fun D' sl st h F G H σ al S D d => d.bk _ _ _ _ _ _ _ h .refl S
def wCont : WS := fun D sl st => D.ct sl st
theorem ss_cont : SS K cl tCont wCont := fun D' sl st h F G H σ al S D d => d.ct _ _ _ _ _ _ _ h .refl S
def wNever : WS := fun _ _ _ => False
theorem ss_never : SS K cl tNever wNever := fun _ _ _ h => h.elim
def wSeq (a b : WS) : WS := fun D sl st => a { D with nx := b D } sl st
theorem ss_seq {t u : TS} {a b : WS} (h1 : SS K cl t a) (h2 : SS K cl u b) : SS K cl (tSeq t u) (wSeq a b) := by
  intro D' sl st hw F G H σ al S D d
  exact h1 _ sl st hw F G H σ al S _ ⟨fun σ1 sl1 st1 F1 G1 H1 al1 r g S1 => h2 D' sl1 st1 r F1 G1 H1 σ1 al1 S1 D (d.gr g), d.bk, d.ct, d.rt⟩
/-- .. with a word between the two -/
def wCut (a b : WS) : WS := fun D sl st => ∃ Mid : Sl → Sto → Prop, a { D with nx := Mid } sl st ∧ ∀ sl st, Mid sl st → b D sl st
theorem ss_cut {t u : TS} {a b : WS} (h1 : SS K cl t a) (h2 : SS K cl u b) : SS K cl (tSeq t u) (wCut a b) := by
  intro D' sl st hw F G H σ al S D d
  obtain ⟨Mid, ha, hb⟩ := hw
  exact h1 _ sl st ha F G H σ al S _ ⟨fun σ1 sl1 st1 F1 G1 H1 al1 r g S1 => h2 D' sl1 st1 (hb sl1 st1 r) F1 G1 H1 σ1 al1 S1 D (d.gr g), d.bk, d.ct, d.rt⟩
def wAsg (we : WE) (wg : WG) : WS := fun D sl st => we sl st fun x st1 => wg x sl st1 D.nx
theorem ss_asg {te : TE} {g : TG} {ts : List Nat} {we : WE} {wg : WG} (h : SE K cl te we) (hg : SG K cl g ts wg) : SS K cl (tAsg te g) (wAsg we wg) := by
  intro D' sl st hw F G H σ al S D d
  refine h sl st _ hw F G H σ al S _ fun v x st1 F1 G1 H1 h1 g1 S1 r1 => ?_
  exact hg x sl st1 _ h1 F1 G1 H1 σ al S1 v r1 _ fun σ' sl' e S' _ => d.nx _ _ _ _ _ _ _ e g1 S'
/-- x = a new list that is one's own from here on -/
def wAsgN (w : WN) (i : Nat) : WS := fun D sl st => w sl st fun ps st1 => D.nx (sl.set i (some (.l st1.length))) (st1 ++ [.lst ps])
def tAsgN (te : TE) (i : Nat) : TS := tAsg te (gName i)
theorem ss_asgN {te : TE} {i : Nat} {w : WN} (h : SEN K cl te w) : SS K cl (tAsgN te i) (wAsgN w i) := by
  intro D' sl st hw F G H σ al S D d
  refine h sl st _ hw F G H σ al S _ fun a vs ps st1 F1 G1 H1 h1 g1 S1 ha fa na l => ?_
  obtain ⟨S2, g2⟩ := S1.adoptCell ha fa na l
  refine d.nx _ _ _ _ _ _ _ h1 (g1.trans g2) (S2.set (v := .ref a) ⟨a, ?_, rfl⟩)
  rw [List.getElem?_append_right (by rw [S1.cnt]; omega), S1.cnt, Nat.sub_self]
  rfl
def wPar (i j : Nat) (wa : WA) : WS := fun D sl st => wa sl st fun xs st1 => match xs with
  | [x, y] => D.nx ((sl.set i (some x)).set j (some y)) st1
  | _ => False
theorem ss_par {i j : Nat} {ta : TA} {wa : WA} (h : SA K cl ta wa) : SS K cl (tPar i j ta) (wPar i j wa) := by
  intro D' sl st hw F G H σ al S D d
  refine h sl st _ hw F G H σ al S _ fun vs xs st1 F1 G1 H1 h1 g1 S1 rs => ?_
  dsimp only at h1
  split at h1
  · rename_i x y
    obtain ⟨v, u, rfl, r1, r2⟩ := rs.two
    exact ⟨v, u, rfl, d.nx _ _ _ _ _ _ _ h1 g1 ((S1.set r1).set r2)⟩
  · exact h1.elim
def wDrop (we : WE) : WS := fun D sl st => we sl st fun _ st1 => D.nx sl st1
theorem ss_drop {te : TE} {we : WE} (h : SE K cl te we) : SS K cl (tDrop te) (wDrop we) := by
  intro D' sl st hw F G H σ al S D d
  refine h sl st _ hw F G H σ al S _ fun v x st1 F1 G1 H1 h1 g1 S1 r1 => ?_
  exact d.nx _ _ _ _ _ _ _ h1 g1 S1
def wRet (we : WE) : WS := fun D sl st => we sl st fun x st1 => match vals [x] st1 with
  | some ([p], st2) => D.rt p st2
  | _ => False
theorem ss_ret {te : TE} {we : WE} (h : SE K cl te we) : SS K cl (tRet te) (wRet we) := by
  intro D' sl st hw F G H σ al S D d
  refine h sl st _ hw F G H σ al S _ fun v x st1 F1 G1 H1 h1 g1 S1 r1 => ?_
  dsimp only at h1
  split at h1
  · rename_i p st2 e
    obtain ⟨F2, G2, S2, g2, l⟩ := vals_ok (vs := [v]) (xs := [x]) S1 (And.intro r1 True.intro) e
    cases l with
    | cons l1 _ => exact d.rt _ _ _ _ _ _ _ _ _ h1 (g1.trans g2) S2 l1
  · exact h1.elim
def wRetN : WS := fun D _ st => D.rt .non st
theorem ss_retN : SS K cl tRetN wRetN := fun D' sl st h F G H σ al S D d => d.rt .non .non σ sl st F G H al h .refl S .non
def wIf (c : WT) (a b : WS) : WS := fun D sl st => c sl st fun k st1 => if k = true then a D sl st1 else b D sl st1
theorem ss_if {t : TT} {ta tb : TS} {c : WT} {a b : WS} (h : STt K cl t c) (h1 : SS K cl ta a) (h2 : SS K cl tb b) : SS K cl (tIfS t ta tb) (wIf c a b) := by
  intro D' sl st hw F G H σ al S D d
  refine h sl st _ hw F G H σ al S _ fun k st1 F1 G1 H1 e1 g1 S1 => ?_
  cases k with
  | true => exact h1 D' sl st1 (by simpa using e1) F1 G1 H1 σ al S1 D (d.gr g1)
  | false => exact h2 D' sl st1 (by simpa using e1) F1 G1 H1 σ al S1 D (d.gr g1)
def wWhile (c : WT) (b : WS) : WS := fun D sl st => ∃ I : Nat → Sl → Sto → Prop, (∃ m, I m sl st) ∧ ∀ m sl st, I m sl st →
  c sl st fun k st1 => if k = true then b { D with nx := fun sl st => ∃ m', m' < m ∧ I m' sl st, ct := fun sl st => ∃ m', m' < m ∧ I m' sl st, bk := D.nx } sl st1 else D.nx sl st1
theorem ss_while {t : TT} {tb : TS} {c : WT} {b : WS} (h : STt K cl t c) (hb : SS K cl tb b) : SS K cl (tWhile t tb) (wWhile c b) := by
  intro D' sl st hw F G H σ al S D d
  obtain ⟨I, ⟨m0, h0⟩, step⟩ := hw
  refine ⟨fun m σ' H' => ∃ F' G' al' sl' st', I m sl' st' ∧ Gr F G al st F' G' al' st' ∧ SOk K cl F' G' H' σ' al' sl' st', ⟨m0, F, G, al, sl, st, h0, .refl, S⟩, ?_⟩
  rintro m σ' H' ⟨F', G', al', sl', st', hI, g', S'⟩
  refine h sl' st' _ (step m sl' st' hI) F' G' H' σ' al' S' _ fun k st1 F1 G1 H1 e1 g1 S1 => ?_
  cases k with
  | true =>
    simp only [if_true] at e1 ⊢
    refine ⟨fun σ2 H2 => ∃ m', m' < m ∧ ∃ F' G' al' sl' st', I m' sl' st' ∧ Gr F G al st F' G' al' st' ∧ SOk K cl F' G' H2 σ2 al' sl' st', fun σ2 H2 ⟨m', hm, r⟩ => ⟨m', hm, r⟩, ?_⟩
    refine hb _ sl' st1 e1 F1 G1 H1 σ' al' S1 _ ⟨?_, ?_, ?_, ?_⟩
    · rintro σ2 sl2 st2 F2 G2 H2 al2 ⟨m', hm, r⟩ g2 S2
      exact ⟨m', hm, F2, G2, al2, sl2, st2, r, (g'.trans g1).trans g2, S2⟩
    · intro σ2 sl2 st2 F2 G2 H2 al2 r g2 S2
      exact d.nx _ _ _ _ _ _ _ r ((g'.trans g1).trans g2) S2
    · rintro σ2 sl2 st2 F2 G2 H2 al2 ⟨m', hm, r⟩ g2 S2
      exact ⟨m', hm, F2, G2, al2, sl2, st2, r, (g'.trans g1).trans g2, S2⟩
    · intro v p σ2 sl2 st2 F2 G2 H2 al2 r g2 S2 rv
      exact d.rt _ _ _ _ _ _ _ _ _ r ((g'.trans g1).trans g2) S2 rv
  | false =>
    simp only [Bool.false_eq_true, if_false] at e1 ⊢
    exact d.nx _ _ _ _ _ _ _ e1 (g'.trans g1) S1
/-- for over a value: I by the turn -/
def wFor (wi : WI) (wg : WG) (b : WS) : WS := fun D sl st => wi sl st fun ps st1 => ∃ I : Nat → Sl → Sto → Prop, I 0 sl st1 ∧
  (∀ i p sl st, ps[i]? = some p → I i sl st → wg (.v p) sl st fun sl2 st2 => b { D with nx := I (i + 1), ct := I (i + 1), bk := D.nx } sl2 st2) ∧ ∀ sl st, I ps.length sl st → D.nx sl st
theorem for_walk {J : It} {ps : List PV} {B : Hp} {wg : WG} {b : WS} {g : TG} {ts : List Nat} {tb : TS} {D' : PEnds} {D : Ends} {I : Nat → Sl → Sto → Prop} (wk : WalkP K cl J ps B G) (S : SOk K cl F G H σ al sl st) (hB : Same B F) (hg : SG K cl g ts wg) (hb : SS K cl tb b)
    (d : DOk K cl F G al st D' D) (i0 : I 0 sl st) (it : ∀ i p sl st, ps[i]? = some p → I i sl st → wg (.v p) sl st fun sl2 st2 => b { D' with nx := I (i + 1), ct := I (i + 1), bk := D'.nx } sl2 st2) (ie : ∀ sl st, I ps.length sl st → D'.nx sl st) :
    ∃ W : Nat → Nat → L2.St → Hp → Prop, (∃ m, W 0 m σ H) ∧ ∀ i m σ H, W i m σ H →
      (J.stop i H ∧ D.nx σ H) ∨ (J.go i H ∧ ∃ N : L2.St → Hp → Prop, (∀ σ' H', N σ' H' → ∃ m', m' < m ∧ W (i + 1) m' σ' H') ∧ ∀ x H', J.yld i H x H' → g x σ H' fun σ2 H2 => tb { D with nx := N, ct := N, bk := D.nx } σ2 H2) := by
  have walk : Walk J ps.length (fun H => Same B H) (fun i H x H' => ∃ p, ps[i]? = some p ∧ ((H' = H ∧ Rep K cl G x p) ∨ (∃ (T : Addr) (vs : List V) (qs : List PV), x = .ref T ∧ H T = none ∧ H' = upd H T (.tup vs) ∧ p = .tup qs ∧ RepL K cl G vs qs) ∨ ∃ (T : Addr) (vs : List V) (qs : List PV), x = .ref T ∧ H T = some (.tup vs) ∧ H' = H ∧ p = .tup qs ∧ RepL K cl G vs qs)) :=
    ⟨fun i H hi s => wk.goes i H hi s, fun H s => wk.stops H s, fun i H x H' hi s y => wk.yields i H x H' hi s y⟩
  refine for_it walk (fun i σ' H' => ∃ F' G' al' sl' st', I i sl' st' ∧ Gr F G al st F' G' al' st' ∧ SOk K cl F' G' H' σ' al' sl' st') ⟨F, G, al, sl, st, i0, .refl, S⟩ ?_ ?_ ?_
  · rintro i σ' H' _ ⟨F', G', al', sl', st', _, g', S'⟩
    exact (hB.trans g'.ff).trans S'.fh
  · rintro i x σ' H2 H3 hi ⟨F', G', al', sl', st', hI, g', S'⟩ ⟨p, hp, hy⟩
    have item : ∃ F3 G3, SOk K cl F3 G3 H3 σ' al' sl' st' ∧ Gr F' G' al' st' F3 G3 al' st' ∧ Rep K cl G3 x p := by
      rcases hy with ⟨rfl, r⟩ | ⟨T, ws, qs, rfl, hT, rfl, rfl, r⟩ | ⟨T, ws, qs, rfl, hT, rfl, rfl, r⟩
      · exact ⟨_, _, S', .refl, Rep.mono g'.gg _ _ r⟩
      · obtain ⟨S3, g3⟩ := S'.new (o := .tup ws) hT
        exact ⟨_, _, S3, g3, .tup (SqU.of upd_same) (RepL.mono (g'.gg.trans g3.gg) _ _ r)⟩
      · obtain ⟨F3, G3, S3, g3, e3⟩ := S'.addTups (bs := [T]) fun b hb => by rw [List.mem_singleton.mp hb]; exact ⟨ws, hT⟩
        exact ⟨F3, G3, S3, g3, .tup (SqU.of (by rw [e3 T (List.mem_singleton.mpr rfl)]; exact hT)) (RepL.mono (g'.gg.trans g3.gg) _ _ r)⟩
    obtain ⟨F3, G3, S3, g3, r3⟩ := item
    refine hg (.v p) sl' st' _ (it i p sl' st' hp hI) F3 G3 H3 σ' al' S3 x r3 _ fun σ4 sl4 e4 S4 _ => ?_
    refine hb _ sl4 st' e4 F3 G3 H3 σ4 al' S4 _ ⟨?_, ?_, ?_, ?_⟩
    · intro σ2 sl2 st2 F2 G2 H2 al2 r g2 S2
      exact ⟨F2, G2, al2, sl2, st2, r, (g'.trans g3).trans g2, S2⟩
    · intro σ2 sl2 st2 F2 G2 H2 al2 r g2 S2
      exact d.nx _ _ _ _ _ _ _ r ((g'.trans g3).trans g2) S2
    · intro σ2 sl2 st2 F2 G2 H2 al2 r g2 S2
      exact ⟨F2, G2, al2, sl2, st2, r, (g'.trans g3).trans g2, S2⟩
    · intro v p σ2 sl2 st2 F2 G2 H2 al2 r g2 S2 rv
      exact d.rt _ _ _ _ _ _ _ _ _ r ((g'.trans g3).trans g2) S2 rv
  · rintro σ' H' ⟨F', G', al', sl', st', hI, g', S'⟩
    exact d.nx _ _ _ _ _ _ _ (ie sl' st' hI) g' S'
theorem ss_for {wi : TI} {g : TG} {tb : TS} {ts : List Nat} {wwi : WI} {wg : WG} {b : WS} (hi : SI K cl wi wwi) (hg : SG K cl g ts wg) (hb : SS K cl tb b) : SS K cl (tFor wi g tb) (wFor wwi wg b) := by
  intro D' sl st hw F G H σ al S D d
  refine hi sl st _ hw F G H σ al S _ fun J ps st1 F1 G1 H1 h1 g1 S1 wk => ?_
  obtain ⟨I, i0, it, ie⟩ := h1
  exact for_walk wk S1 S1.gf hg hb (d.gr g1) i0 it ie
/-- for over a list of one's own that stands still meanwhile -/
def wForL (w : WE) (wg : WG) (b : WS) : WS := fun D sl st => w sl st fun x st1 => match x with
  | .l k => match st1[k]? with
    | some (.lst ps) => ∃ I : Nat → Sl → Sto → Prop, I 0 sl (st1.set k (.lk ps)) ∧ (∀ i sl st, I i sl st → st[k]? = some (.lk ps)) ∧
      (∀ i p sl st, ps[i]? = some p → I i sl st → wg (.v p) sl st fun sl2 st2 => b { D with nx := I (i + 1), ct := I (i + 1), bk := fun sl st => st[k]? = some (.lk ps) ∧ D.nx sl (st.set k (.lst ps)) } sl2 st2) ∧ ∀ sl st, I ps.length sl st → D.nx sl (st.set k (.lst ps))
    | _ => False
  | _ => False
theorem ss_forL {te : TE} {g : TG} {tb : TS} {ts : List Nat} {w : WE} {wg : WG} {b : WS} (h : SE K cl te w) (hg : SG K cl g ts wg) (hb : SS K cl tb b) : SS K cl (tFor (iList K te) g tb) (wForL w wg b) := by
  intro D' sl st hw F G H σ al S D d
  refine h sl st _ hw F G H σ al S _ fun v x st1 F1 G1 H1 h1 g1 S1 r1 => ?_
  dsimp only at h1
  split at h1
  · rename_i k
    obtain ⟨a, ha, rfl⟩ := r1
    split at h1
    · rename_i ps ek
      obtain ⟨I, i0, ik, it, ie⟩ := h1
      obtain ⟨F2, a', vs, ha', f2, fa, rfl, l, S2, g2⟩ := S1.lock ek
      rw [ha] at ha'
      cases ha'
      have un : ∀ {σ3 : L2.St} {sl3 : Sl} {st3 : Sto} {F3 G3 H3 : Hp} {al3 : List Addr}, st3[k]? = some (.lk ps) → Gr (upd F1 a (.lst vs)) G1 al (st1.set k (.lk ps)) F3 G3 al3 st3 → SOk K cl F3 G3 H3 σ3 al3 sl3 st3 →
          ∃ F4, SOk K cl F4 G3 H3 σ3 al3 sl3 (st3.set k (.lst ps)) ∧ Gr F1 G1 al st1 F4 G3 al3 (st3.set k (.lst ps)) := by
        intro σ3 sl3 st3 F3 G3 H3 al3 hk g3 S3
        obtain ⟨F4, S4, s4, n4⟩ := S3.unlock hk (g3.pre _ _ ha) fa g3
        refine ⟨F4, S4, s4, g3.gg, n4, g3.pre, fun j hj => ?_⟩
        by_cases hjk : j = k
        · subst hjk
          rw [ek] at hj
          cases hj
        · rw [List.getElem?_set_ne (Ne.symm hjk)]
          exact g3.dice j (by rw [List.getElem?_set_ne (Ne.symm hjk)]; exact hj)
      refine ⟨a, rfl, ⟨vs, SqL.of (S2.fh _ _ f2)⟩, ?_⟩
      refine for_walk (D' := { D' with nx := fun sl st => st[k]? = some (.lk ps) ∧ D'.nx sl (st.set k (.lst ps)) }) (walkP_list f2 l) S2 (Same.refl _) hg hb ⟨?_, ?_, ?_, ?_⟩ i0 it fun sl st hI => ⟨ik _ _ _ hI, ie sl st hI⟩
      · rintro σ3 sl3 st3 F3 G3 H3 al3 ⟨hk, r⟩ g3 S3
        obtain ⟨F4, S4, g4⟩ := un hk g3 S3
        exact d.nx _ _ _ _ _ _ _ r (g1.trans g4) S4
      · intro σ3 sl3 st3 F3 G3 H3 al3 r g3 S3
        exact d.bk _ _ _ _ _ _ _ r ((g1.trans g2).trans g3) S3
      · intro σ3 sl3 st3 F3 G3 H3 al3 r g3 S3
        exact d.ct _ _ _ _ _ _ _ r ((g1.trans g2).trans g3) S3
      · intro v p σ3 sl3 st3 F3 G3 H3 al3 r g3 S3 rv
        exact d.rt _ _ _ _ _ _ _ _ _ r ((g1.trans g2).trans g3) S3 rv
    · exact h1.elim
  · exact h1.elim

/-! ### methods of a list of one's own -/
abbrev LM := List PV → List PV → (PV → List PV → Prop) → Prop
def SLM (K : PySem.W.Frag) (cl : Str → Option Addr) (r : V → List V → Hp → VK → Prop) (m : LM) : Prop := ∀ (a : Addr) (vs us : List V) (ps qs : List PV) (G H : Hp) (Q : VK) (R : PV → List PV → Prop), Same G H → RepL K cl G vs ps → RepL K cl G us qs → H a = some (.lst vs) → m ps qs R →
  (∀ u p vs' ps', R p ps' → Rep K cl G u p → RepL K cl G vs' ps' → Q u (upd H a (.lst vs'))) → r (.ref a) us H Q
def wLM (m : LM) (wo : WE) (wa : WA) : WE := fun sl st R => wo sl st fun o st0 => match o with
  | .l k => match st0[k]? with
    | some (.lst _) => wa sl st0 fun xs st1 => match vals xs st1 with
      | some (qs, st2) => match st2[k]? with
        | some (.lst ps) => m ps qs fun p ps' => R (.v p) (st2.set k (.lst ps'))
        | _ => False
      | none => False
    | _ => False
  | _ => False
theorem se_lm {r : V → List V → Hp → VK → Prop} {m : LM} {to : TE} {ta : TA} {wo : WE} {wa : WA} (hr : SLM K cl r m) (ho : SE K cl to wo) (ha : SA K cl ta wa) : SE K cl (tBM K "list" r to ta) (wLM m wo wa) := by
  intro sl st R hw F G H σ al S Q q
  refine ho sl st _ hw F G H σ al S _ fun v o st0 F0 G0 H0 h0 g0 S0 r0 => ?_
  dsimp only at h0
  split at h0
  · rename_i k
    split at h0
    · rename_i ps0 ek
      obtain ⟨a, hal, rfl⟩ := r0
      obtain ⟨a', hal', f0, vs0, e0, l0⟩ := S0.cells k _ ek
      rw [hal] at hal'
      cases hal'
      refine ⟨.inl ⟨rfl, vs0, SqL.of e0⟩, ?_⟩
      refine ha sl st0 _ h0 F0 G0 H0 σ al S0 _ fun us xs st1 F1 G1 H1 h1 g1 S1 rs => ?_
      dsimp only at h1
      split at h1
      · rename_i qs st2 e
        obtain ⟨F2, G2, S2, g2, l⟩ := vals_ok S1 rs e
        split at h1
        · rename_i ps ek2
          obtain ⟨a', hal', f2, vs, e2, l2⟩ := S2.cells k _ ek2
          rw [hal] at hal'
          cases hal'
          refine hr a vs us ps qs G2 H1 Q _ (S2.gf.trans S2.fh) l2 l e2 h1 fun u p vs' ps' hR ru lv => ?_
          obtain ⟨S3, g3⟩ := S2.write (c' := .lst ps') (o := .lst vs') ek2 hal f2 ⟨f2, vs', upd_same, lv⟩ (by intro z; cases z)
          exact q u (.v p) _ F2 G2 _ hR (((g0.trans g1).trans g2).trans g3) S3 ru
        · exact h1.elim
      · exact h1.elim
    · exact h0.elim
  · exact h0.elim
theorem se_lm0 {r : V → List V → Hp → VK → Prop} {m : LM} {to : TE} {wo : WE} (hr : SLM K cl r m) (ho : SE K cl to wo) : SE K cl (tBM0 K "list" r to) (wLM m wo wNil) := se_lm (ta := tNil) hr ho sa_nil
def mApp : LM := fun ps qs R => match qs with
  | [p] => ps.length < 100000 ∧ R .non (ps ++ [p])
  | _ => False
theorem line_lt {n : Nat} (h : n < 100000) : n < sizeLine := Nat.lt_of_lt_of_le h (by decide)
theorem slm_app : SLM K cl rAppend mApp := by
  intro a vs us ps qs G H Q R gh lv lu e hm q
  unfold mApp at hm
  split at hm
  · cases lu with
    | cons l1 l2 =>
      cases l2
      exact ⟨a, vs, _, rfl, rfl, e, by rw [lv.len]; exact line_lt hm.1, q _ _ _ _ hm.2 .non (lv.snoc l1)⟩
  · exact hm.elim
def mExt : LM := fun ps qs R => match qs with
  | [.lst zs] => ps.length + zs.length ≤ 100000 ∧ R .non (ps ++ zs)
  | _ => False
theorem slm_ext : SLM K cl rExtend mExt := by
  intro a vs us ps qs G H Q R gh lv lu e hm q
  unfold mExt at hm
  split at hm
  · cases lu with
    | cons l1 l2 =>
      cases l2
      cases l1 with
      | @lst b zs' _ eb lz => exact ⟨a, b, vs, zs', rfl, rfl, e, gh _ _ eb, by rw [lv.len, lz.len]; exact Nat.le_trans hm.1 (by decide), q _ _ _ _ hm.2 .non (lv.append lz)⟩
  · exact hm.elim
def mPop : LM := fun ps qs R => match qs with
  | [.int i] => 0 ≤ i ∧ i < 100000 ∧ ∃ p, ps[i.toNat]? = some p ∧ R p (ps.eraseIdx i.toNat)
  | _ => False
theorem slm_pop : SLM K cl rPopAt mPop := by
  intro a vs us ps qs G H Q R gh lv lu e hm q
  unfold mPop at hm
  split at hm
  · rename_i i
    obtain ⟨h0, h1, p, hp, hR⟩ := hm
    cases lu with
    | cons l1 l2 =>
      cases l2
      cases l1
      obtain ⟨v, hv, r⟩ := lv.get hp
      refine ⟨a, vs, i, i.toNat, v, rfl, rfl, e, by omega, by omega, ?_, hv, q _ _ _ _ hR r (lv.eraseIdx _)⟩
      have hl := (List.getElem?_eq_some_iff.mp hv).1
      have hz : atI vs i = some v := by
        unfold atI ixN
        rw [if_pos h0, if_pos (by omega)]
        exact hv
      have hx : ixN vs.length i = some i.toNat := by
        unfold ixN
        rw [if_pos h0, if_pos (by omega)]
      exact (ixN_seq hx).1
  · exact hm.elim
def mClear : LM := fun ps qs R => qs = [] ∧ R .non []
theorem slm_clear : SLM K cl rClear mClear := by
  intro a vs us ps qs G H Q R gh lv lu e hm q
  obtain ⟨rfl, hR⟩ := hm
  cases lu
  exact ⟨a, vs, rfl, rfl, e, q _ _ _ _ hR .non .nil⟩
theorem RepL.reverse {vs : List V} {ps : List PV} (h : RepL K cl G vs ps) : RepL K cl G vs.reverse ps.reverse := by
  induction ps generalizing vs with
  | nil => cases h; exact .nil
  | cons p ps ih =>
    cases h with
    | cons a b =>
      rw [List.reverse_cons, List.reverse_cons]
      exact (ih b).snoc a
def mRev : LM := fun ps qs R => qs = [] ∧ R .non ps.reverse
theorem slm_rev : SLM K cl rReverse mRev := by
  intro a vs us ps qs G H Q R gh lv lu e hm q
  obtain ⟨rfl, hR⟩ := hm
  cases lu
  exact ⟨a, vs, rfl, rfl, e, q _ _ _ _ hR .non lv.reverse⟩
/-- one's own list at an index is stored -/
def wSet (we wo wi : WE) : WS := fun D sl st => we sl st fun x st1 => wo sl st1 fun o st2 => wi sl st2 fun i st3 => match o, i, vals [x] st3 with
  | .l k, .v (.int j), some ([p], st4) => match st4[k]? with
    | some (.lst ps) => ∃ n : Nat, ixN ps.length j = some n ∧ D.nx sl (st4.set k (.lst (ps.set n p)))
    | _ => False
  | _, _, _ => False
theorem ss_set {te to ti : TE} {we wo wi : WE} (he : SE K cl te we) (ho : SE K cl to wo) (hi : SE K cl ti wi) : SS K cl (tAsg te (gSub to ti rSetL)) (wSet we wo wi) := by
  intro D' sl st hw F G H σ al S D d
  refine he sl st _ hw F G H σ al S _ fun v x st1 F1 G1 H1 h1 g1 S1 r1 => ?_
  refine ho sl st1 _ h1 F1 G1 H1 σ al S1 _ fun u o st2 F2 G2 H2 h2 g2 S2 r2 => ?_
  refine hi sl st2 _ h2 F2 G2 H2 σ al S2 _ fun y i st3 F3 G3 H3 h3 g3 S3 r3 => ?_
  dsimp only at h3
  split at h3
  · rename_i k j p st4 ev
    obtain ⟨F4, G4, S4, g4, l⟩ := vals_ok (vs := [v]) (xs := [x]) S3 (And.intro (r1.mono (g2.trans g3).gg) True.intro) ev
    split at h3
    · rename_i ps ek
      obtain ⟨n, hn, h3⟩ := h3
      obtain ⟨a, hal, rfl⟩ := r2
      obtain ⟨a', hal', f, vs, e, lv⟩ := S4.cells k _ ek
      rw [hal] at hal'
      cases hal'
      cases r3
      cases l with
      | cons l1 _ =>
        obtain ⟨S5, g5⟩ := S4.write (c' := .lst (ps.set n p)) (o := .lst (vs.set n v)) ek hal f ⟨f, _, upd_same, lv.set l1 n⟩ (by intro z; cases z)
        exact ⟨a, vs, j, n, rfl, rfl, e, by rw [lv.len]; exact hn, d.nx _ _ _ _ _ _ _ h3 ((((g1.trans g2).trans g3).trans g4).trans g5) S5⟩
    · exact h3.elim
  · exact h3.elim

/-! ### a def's body -/
def startS (n : Nat) (ps : List PV) : Sl := ps.map (fun p => some (W.v p)) ++ List.replicate (n - ps.length) none
def startD (n : Nat) (ps : List PV) : Sl := some (W.l 0) :: startS (n - 1) ps
theorem slots_start : ∀ {vs : List V} {ps : List PV} {n : Nat} {i : Nat} {x : W}, RepL K cl G vs ps → (startS n ps)[i]? = some (some x) → ∃ v, (vs.map some ++ List.replicate (n - vs.length) none)[i]? = some (some v) ∧ RepW K cl al G v x := by
  intro vs ps n i x r h
  unfold startS at h
  by_cases hi : i < ps.length
  · rw [List.getElem?_append_left (by simpa using hi)] at h
    rw [List.getElem?_map] at h
    cases e : ps[i]? with
    | none => rw [e] at h; cases h
    | some p =>
      rw [e] at h
      cases h
      obtain ⟨v, hv, rv⟩ := r.get e
      refine ⟨v, ?_, rv⟩
      rw [List.getElem?_append_left (by rw [List.length_map, r.len]; exact hi), List.getElem?_map, hv]
      rfl
  · rw [List.getElem?_append_right (by simpa using hi), List.getElem?_replicate] at h
    split at h <;> cases h
theorem run_pure {X : Cx} {body : List Stmt} {t : TS} {w : WS} {vsp : VSp} {N : List Str} {vs : List V} {H : Hp} {Q : VK} {E : XK} (pe : PSs X body t) (hs : SS K cl t w) (hN : vs.length ≤ N.length) (h : toSp K cl vsp vs H Q E)
    (hw : ∀ ps R, vsp ps R → w { nx := fun _ _ => R .non, rt := fun p _ => R p } (startS N.length ps) []) : ∃ t, PSs X body t ∧ t { nx := fun _ H' => Q .non H', rt := Q } (L2.start N vs) H := by
  obtain ⟨G, ps, R, gh, r, hv, k⟩ := h
  refine ⟨t, pe, hs _ _ _ (hw ps R hv) H G H (L2.start N vs) [] ⟨gh, Same.refl _, fun i x h => slots_start r h, ?_, fun k c h => (by simp at h), fun k j a h => (by simp at h), fun k a h => (by simp at h), rfl⟩ _ ⟨?_, ?_, ?_, ?_⟩⟩
  · unfold L2.start startS
    rw [List.length_append, List.length_append, List.length_map, List.length_map, r.len]
    simp
  · intro σ' sl' st' F' G' H' al' hR g S
    exact k .non .non G' H' hR (g.ff.trans S.fh) g.gg (S.gf.trans S.fh) g.new .non
  · intro _ _ _ _ _ _ _ h; exact h.elim
  · intro _ _ _ _ _ _ _ h; exact h.elim
  · intro v p σ' sl' st' F' G' H' al' hR g S rv
    exact k v p G' H' hR (g.ff.trans S.fh) g.gg (S.gf.trans S.fh) g.new rv
theorem run_dice {X : Cx} {body : List Stmt} {t : TS} {w : WS} {vsp : VSp} {N : List Str} {vs : List V} {H : Hp} {Q : VK} {E : XK} (pe : PSs X body t) (hs : SS K cl t w) (hN : vs.length ≤ N.length) (h : toSpD K cl vsp vs H Q E)
    (hw : ∀ ps R, vsp ps R → w { nx := fun _ _ => R .non, rt := fun p _ => R p } (startD N.length ps) [.dice]) : ∃ t, PSs X body t ∧ t { nx := fun _ H' => Q .non H', rt := Q } (L2.start N vs) H := by
  obtain ⟨F, G, d, us, ps, R, rfl, gf, fh, fd, dice, r, hv, k⟩ := h
  have one : ∀ (j : Nat) (a : Addr), [d][j]? = some a → j = 0 ∧ a = d := fun j a h => by
    cases j with
    | zero => exact ⟨rfl, by simpa using h.symm⟩
    | succ j => simp at h
  have fin : ∀ (F' G' H' : Hp) (σ' : L2.St) (sl' : Sl) (st' : Sto) (al' : List Addr), Gr F G [d] [.dice] F' G' al' st' → SOk K cl F' G' H' σ' al' sl' st' → F' d = none ∧ DiceAt H' d := fun F' G' H' σ' sl' st' al' g S => by
    obtain ⟨a, h1, h2⟩ := S.cells 0 _ (g.dice 0 rfl)
    have h3 := g.pre 0 d rfl
    rw [h1] at h3
    cases h3
    exact h2
  refine ⟨t, pe, hs _ _ _ (hw ps R hv) F G H (L2.start N (V.ref d :: us)) [d] ⟨gf, fh, fun i x h => ?_, ?_, fun j c h => ?_, fun j i a h1 h2 => ?_, fun j a h => ?_, rfl⟩ _ ⟨?_, ?_, ?_, ?_⟩⟩
  · cases i with
    | zero =>
      have h' : some (some (W.l 0)) = some (some x) := h
      cases h'
      exact ⟨.ref d, rfl, d, rfl, rfl⟩
    | succ i =>
      obtain ⟨v, hv, rv⟩ := slots_start (al := [d]) (i := i) r h
      refine ⟨v, ?_, rv⟩
      have e : N.length - (us.length + 1) = N.length - 1 - us.length := by omega
      show (us.map some ++ List.replicate (N.length - (us.length + 1)) none)[i]? = _
      rw [e]
      exact hv
  · unfold L2.start startD startS
    have : us.length + 1 ≤ N.length := hN
    simp only [List.length_append, List.length_map, List.length_cons, List.length_replicate, r.len]
    have := r.len
    omega
  · cases j with
    | zero =>
      have h' : some Cell.dice = some c := h
      cases h'
      exact ⟨d, rfl, fd, dice⟩
    | succ j => simp at h
  · rw [(one j a h1).1, (one i a h2).1]
  · rw [(one j a h).2]
    obtain ⟨ds, e, _⟩ := dice
    exact ⟨_, e⟩
  · intro σ' sl' st' F' G' H' al' hR g S
    obtain ⟨f', d'⟩ := fin F' G' H' σ' sl' st' al' g S
    exact k .non .non F' G' H' hR g.ff g.gg S.gf S.fh f' d' g.new .non
  · intro _ _ _ _ _ _ _ h; exact h.elim
  · intro _ _ _ _ _ _ _ h; exact h.elim
  · intro v p σ' sl' st' F' G' H' al' hR g S rv
    obtain ⟨f', d'⟩ := fin F' G' H' σ' sl' st' al' g S
    exact k v p F' G' H' hR g.ff g.gg S.gf S.fh f' d' g.new rv
/-- a def that throws the dice itself -/
theorem run_off {X : Cx} {body : List Stmt} {t : TS} {w : WS} {vsp : VSp} {N : List Str} {vs : List V} {H : Hp} {Q : VK} {E : XK} (pe : PSs X body t) (hs : SS K cl t w) (hN : vs.length ≤ N.length) (h : toSpD K cl vsp vs H Q E)
    (hw : ∀ ps R ds, vsp ps R → DiceOk ds → w { nx := fun _ _ => False, rt := fun p st => R p ∧ ∃ ds', st[0]? = some (.lst (ds'.map PV.int)) ∧ DiceOk ds' } (startD N.length ps) [.lst (ds.map PV.int)]) : ∃ t, PSs X body t ∧ t { nx := fun _ H' => Q .non H', rt := Q } (L2.start N vs) H := by
  obtain ⟨F, G, d, us, ps, R, rfl, gf, fh, fd, dice, r, hv, k⟩ := h
  obtain ⟨ds, hd, dok⟩ := dice
  have one : ∀ (j : Nat) (a : Addr), [d][j]? = some a → j = 0 ∧ a = d := fun j a h => by
    cases j with
    | zero => exact ⟨rfl, by simpa using h.symm⟩
    | succ j => simp at h
  refine ⟨t, pe, hs _ _ _ (hw ps R ds hv dok) F G H (L2.start N (V.ref d :: us)) [d] ⟨gf, fh, fun i x h => ?_, ?_, fun j c h => ?_, fun j i a h1 h2 => ?_, fun j a h => ?_, rfl⟩ _ ⟨?_, ?_, ?_, ?_⟩⟩
  · cases i with
    | zero =>
      have h' : some (some (W.l 0)) = some (some x) := h
      cases h'
      exact ⟨.ref d, rfl, d, rfl, rfl⟩
    | succ i =>
      obtain ⟨v, hv, rv⟩ := slots_start (al := [d]) (i := i) r h
      refine ⟨v, ?_, rv⟩
      have e : N.length - (us.length + 1) = N.length - 1 - us.length := by omega
      show (us.map some ++ List.replicate (N.length - (us.length + 1)) none)[i]? = _
      rw [e]
      exact hv
  · unfold L2.start startD startS
    have : us.length + 1 ≤ N.length := hN
    simp only [List.length_append, List.length_map, List.length_cons, List.length_replicate, r.len]
    have := r.len
    omega
  · cases j with
    | zero =>
      have h' : some (Cell.lst (ds.map PV.int)) = some c := h
      cases h'
      exact ⟨d, rfl, fd, _, hd, RepL.ints ds⟩
    | succ j => simp at h
  · rw [(one j a h1).1, (one i a h2).1]
  · rw [(one j a h).2]
    exact ⟨_, hd⟩
  · intro _ _ _ _ _ _ _ h; exact h.elim
  · intro _ _ _ _ _ _ _ h; exact h.elim
  · intro _ _ _ _ _ _ _ h; exact h.elim
  · intro v p σ' sl' st' F' G' H' al' hR g S rv
    obtain ⟨hR, ds', e', dok'⟩ := hR
    obtain ⟨a, h1, f', vs, h2, l⟩ := S.cells 0 _ e'
    have h3 := g.pre 0 d rfl
    rw [h1] at h3
    cases h3
    cases l.ints_inv
    exact k v p F' G' H' hR g.ff g.gg S.gf S.fh f' ⟨ds', h2, dok'⟩ g.new rv
/-- the law's own body, behind the making of its dice -/
theorem run_law {t : TS} {w : WS} {d : Addr} {H0 H : Hp} {σ : L2.St} {sl : Sl} {Q : VK} (hs : SS K cl t w) (e : Same H0 H) (hd0 : H0 d = none) (hd : DiceAt H d) (len : σ.length = sl.length) (hsl : ∀ (i : Nat) (x : W), sl[i]? = some (some x) → x = .l 0 ∧ σ[i]? = some (some (.ref d)))
    (hQ : ∀ H', Q (.bl true) H') (hw : w { nx := fun _ _ => False, rt := fun p _ => p = .bl true } sl [.dice]) : t { nx := fun _ H' => Q .non H', rt := Q } σ H := by
  have one : ∀ (j : Nat) (a : Addr), [d][j]? = some a → j = 0 ∧ a = d := fun j a h => by
    cases j with
    | zero => exact ⟨rfl, by simpa using h.symm⟩
    | succ j => simp at h
  refine hs _ _ _ hw H0 (fun _ => none) H σ [d] ⟨fun _ _ z => (by cases z), e, fun i x h => ?_, len, fun j c h => ?_, fun j i a h1 h2 => ?_, fun j a h => ?_, rfl⟩ _ ⟨?_, ?_, ?_, ?_⟩
  · obtain ⟨rfl, h2⟩ := hsl i x h
    exact ⟨.ref d, h2, d, rfl, rfl⟩
  · cases j with
    | zero =>
      have h' : some Cell.dice = some c := h
      cases h'
      exact ⟨d, rfl, hd0, hd⟩
    | succ j => simp at h
  · rw [(one j a h1).1, (one i a h2).1]
  · rw [(one j a h).2]
    obtain ⟨ds, e, _⟩ := hd
    exact ⟨_, e⟩
  · intro _ _ _ _ _ _ _ h; exact h.elim
  · intro _ _ _ _ _ _ _ h; exact h.elim
  · intro _ _ _ _ _ _ _ h; exact h.elim
  · intro v p σ' sl' st' F' G' H' al' hR g S rv
    subst hR
    cases rv
    exact hQ H'
end
end VL

set_option Elab.async false
set_option linter.all false
set_option maxRecDepth 100000
set_option maxHeartbeats 2000000
/-! The value layer: a rule of HandS and what it does by values, in one. -/
namespace VL
open PySem L2 PySem.Spec PyProof.Rows

section
variable (cl : Str → Option Addr) (K : PySem.W.Frag) (X : Cx)
structure QE (e : Expr) (te : TE) (w : WE) : Prop where
  k : X.K = K
  pe : PE X e te
  se : SE K cl te w
structure QT (e : Expr) (t : TT) (w : WT) : Prop where
  k : X.K = K
  pe : PT X e t
  se : STt K cl t w
structure QW (e : Expr) (t : TT) (w : WT) : Prop where
  k : X.K = K
  pe : PW X e t
  se : STt K cl t w
structure QA (es : List Expr) (t : TA) (w : WA) : Prop where
  k : X.K = K
  pe : PA X es t
  se : SA K cl t w
structure QN (e : Expr) (te : TE) (w : WN) : Prop where
  k : X.K = K
  pe : PE X e te
  se : SEN K cl te w
structure QO (e : Option Expr) (t : TO) (w : WO) : Prop where
  k : X.K = K
  pe : PO X e t
  se : SO K cl t w
structure QG (e : Expr) (g : TG) (ts : List Nat) (w : WG) : Prop where
  k : X.K = K
  pe : PG X e g
  se : SG K cl g ts w
structure QGs (es : List Expr) (g : TGs) (ts : List Nat) (w : WGs) : Prop where
  k : X.K = K
  pe : PGs X es g
  se : SGs K cl g ts w
structure QI (tg it : Expr) (wi : TI) (w : WI) : Prop where
  k : X.K = K
  pe : PI X tg it wi
  se : SI K cl wi w
structure QPs (ifs : List Expr) (t : TT) (w : WT) : Prop where
  k : X.K = K
  pe : PTs X ifs t
  se : STt K cl t w
structure QS (s : Stmt) (t : TS) (w : WS) : Prop where
  k : X.K = K
  pe : PS X s t
  se : SS K cl t w
structure QSs (s : List Stmt) (t : TS) (w : WS) : Prop where
  k : X.K = K
  pe : PSs X s t
  se : SS K cl t w
end
/-- a def that may be called -/
structure Fn (P : Program) (w : World) (K : PySem.W.Frag) (mg : Str → Option Value) (base : Heap) (x : Str) (k : Nat) (sp : Sp) : Prop where
  ex : ∃ (f : Addr) (fd : FuncData) (ps : List Str), FnOk P w K mg base CX0 k f fd ps sp ∧ mg x = some (.ref f) ∧ PySem.W.keepIn K (.ref f) = true ∧ Binds K fd ps []
/-- a method that may be called -/
structure Mt (P : Program) (w : World) (K : PySem.W.Frag) (mg : Str → Option Value) (base : Heap) (C : Addr) (m : Str) (k : Nat) (sp : Sp) : Prop where
  ex : ∃ (f : Addr) (fd : FuncData) (ps : List Str), FnOk P w K mg base CX0 k f fd ps sp ∧ Meth K C m f ∧ Binds K fd ps []
  cls : Cls K C
/-- a class that may be called -/
structure Mkc (P : Program) (w : World) (K : PySem.W.Frag) (mg : Str → Option Value) (base : Heap) (x : Str) (C : Addr) (k : Nat) (sp : Sp) : Prop where
  ex : ∃ (f : Addr) (fd : FuncData) (ps : List Str), FnOk P w K mg base CX0 k f fd ps sp ∧ Mk K C f ∧ mg x = some (.ref C) ∧ Binds K fd ps []

section
variable {cl : Str → Option Addr} {K : PySem.W.Frag} {X : Cx} {pos p2 p3 : Pos} {a b c e o : Expr} {es : List Expr} {ta tb tc te to : TE} {wa wb wc w wo : WE} {A : TA} {WA' : WA} {x : Str}
theorem q_v (i : Nat) (hN : X.N[i]? = some x := by rfl) (hv : Vis X.env.scope x := by first | exact Or.inl rfl | exact Or.inr (Or.inl rfl) | exact Or.inr (Or.inr rfl)) (hd : (x == ("__debug__" : Str)) = false := by decide)
    (hcd : (x == ("__classdict__" : Str)) = false := by decide) (hk : X.K = K := by rfl) : QE cl K X (.Name x pos) (tVar i) (wVar i) := ⟨hk, pe_var hN hv hd hcd, se_var⟩
theorem q_int {i : Int} {j} (hk : X.K = K := by rfl) : QE cl K X (.Constant (.int i) j pos) (tC (.int i)) (wC (.int i)) := ⟨hk, pe_int, se_c fun _ => .int i⟩
theorem q_bl {i : Bool} {j} (hk : X.K = K := by rfl) : QE cl K X (.Constant (.bool i) j pos) (tC (.bl i)) (wC (.bl i)) := ⟨hk, pe_bl, se_c fun _ => .bl i⟩
theorem q_non {j} (hk : X.K = K := by rfl) : QE cl K X (.Constant .none j pos) (tC .non) (wC .non) := ⟨hk, pe_non, se_c fun _ => .non⟩
theorem q_str {s : Str} {j} (hk : X.K = K := by rfl) : QE cl K X (.Constant (.str s) j pos) (tC (.str s)) (wC (.str s)) := ⟨hk, pe_str, se_c fun _ => .str s⟩
/-- a module's constant -/
structure Cn (K : PySem.W.Frag) (cl : Str → Option Addr) (mg : Str → Option Value) (x : Str) (p : PV) : Prop where
  ex : ∃ (u : Value) (v : V), mg x = some u ∧ RelV v u ∧ ∀ G, Rep K cl G v p
/-- .. as a reading of its own -/
def tCn (K : PySem.W.Frag) (cl : Str → Option Addr) (p : PV) : TE := fun _ H Q => ∀ v, (∀ G, Rep K cl G v p) → Q v H
theorem q_cn {p : PV} (h : Cn K cl X.mg x p) (hg : Gl X x := by rfl) (hd : (x == ("__debug__" : Str)) = false := by decide) (hk : X.K = K := by rfl) : QE cl K X (.Name x pos) (tCn K cl p) (wC p) := by
  subst hk
  refine ⟨rfl, ⟨fun pins s σ H Q I hw => ?_⟩, fun sl st R hw F G H σ al S Q q v hv => q.at hw S (hv G)⟩
  obtain ⟨u, v, hm, r, hp⟩ := h.ex
  exact (pe_glob hg hm r hd).run pins s σ H Q I (hw v hp)
theorem q_op {op : Operator} {r : R2} {w2 : W2} (ho : OpR X (binaryOp op) r) (hs : SR K cl r w2) (ha : QE cl K X a ta wa) (hb : QE cl K X b tb wb) : QE cl K X (.BinOp a op b pos) (tOp r ta tb) (wOp w2 wa wb) := by
  obtain rfl := ha.k
  exact ⟨rfl, pe_op ho ha.pe hb.pe, se_op hs ha.se hb.se⟩
theorem q_add (ha : QE cl K X a ta wa) (hb : QE cl K X b tb wb) : QE cl K X (.BinOp a .Add b pos) (tOp rAddAny ta tb) (wOp wAdd wa wb) := q_op op_addAny sr_add ha hb
theorem q_sub (ha : QE cl K X a ta wa) (hb : QE cl K X b tb wb) : QE cl K X (.BinOp a .Sub b pos) (tOp (rI0 fun i j => .int (i - j)) ta tb) (wOp wSub wa wb) := q_op op_sub sr_sub ha hb
theorem q_mul (ha : QE cl K X a ta wa) (hb : QE cl K X b tb wb) : QE cl K X (.BinOp a .Mult b pos) (tOp rMulAny ta tb) (wOp wMul wa wb) := q_op op_mulAny sr_mul ha hb
theorem q_fdiv (ha : QE cl K X a ta wa) (hb : QE cl K X b tb wb) : QE cl K X (.BinOp a .FloorDiv b pos) (tOp (rI CDivN fun i j => .int (i.fdiv j)) ta tb) (wOp wFdiv wa wb) := q_op op_fdivN sr_fdiv ha hb
theorem q_mod (ha : QE cl K X a ta wa) (hb : QE cl K X b tb wb) : QE cl K X (.BinOp a .Mod b pos) (tOp (rI (fun _ j => j ≠ 0) fun i j => .int (i.fmod j)) ta tb) (wOp wMod wa wb) := q_op op_modN sr_mod ha hb
theorem q_pow (ha : QE cl K X a ta wa) (hb : QE cl K X b tb wb) : QE cl K X (.BinOp a .Pow b pos) (tOp (rI CPow fun i j => .int (i ^ j.toNat)) ta tb) (wOp wPow wa wb) := q_op op_pow sr_pow ha hb
theorem q_neg (ha : QE cl K X a ta wa) : QE cl K X (.UnaryOp .USub a pos) (tUn (rU fun i => .int (-i)) ta) (wUn wNeg wa) := by
  obtain rfl := ha.k
  exact ⟨rfl, pe_un un_neg ha.pe, se_un su_neg ha.se⟩
theorem q_cmp {op : CmpOp} {r : R2} {w2 : W2} (ho : OpR X (compareOp op) r) (hs : SR K cl r w2) (ha : QE cl K X a ta wa) (hb : QE cl K X b tb wb) (hm : behindInMarks op b = false) : QE cl K X (.Compare a [op] [b] pos) (tOp r ta tb) (wOp w2 wa wb) := by
  obtain rfl := ha.k
  exact ⟨rfl, pe_cmpR ho ha.pe hb.pe hm, se_op hs ha.se hb.se⟩
theorem t_cmp {op : CmpOp} {r : R2} {w2 : W2} (ho : OpR X (compareOp op) r) (hs : SR K cl r w2) (ha : QE cl K X a ta wa) (hb : QE cl K X b tb wb) (hm : behindInMarks op b = false) : QT cl K X (.Compare a [op] [b] pos) (tTest (tOp r ta tb)) (wTest (wOp w2 wa wb)) := by
  obtain rfl := ha.k
  exact ⟨rfl, pt_cmpR ho ha.pe hb.pe hm, st_test (se_op hs ha.se hb.se)⟩
theorem q_chain {op op' : CmpOp} {r r' : R2} {w2 w2' : W2} (ho : OpR X (compareOp op) r) (hs : SR K cl r w2) (ho' : OpR X (compareOp op') r') (hs' : SR K cl r' w2') (ha : QE cl K X a ta wa) (hb : QE cl K X b tb wb) (hc : QE cl K X c tc wc)
    (h : PE X (.Compare a [op, op'] [b, c] pos) (tChain r r' ta tb tc)) : QE cl K X (.Compare a [op, op'] [b, c] pos) (tChain r r' ta tb tc) (wChain w2 w2' wa wb wc) := by
  obtain rfl := ha.k
  exact ⟨rfl, h, se_chain hs hs' ha.se hb.se hc.se⟩
theorem q_andV {rest : List Expr} (ha : QE cl K X a ta wa) (hb : QE cl K X (.BoolOp .And (b :: rest) pos) tb wb) : QE cl K X (.BoolOp .And (a :: b :: rest) pos) (tAndV ta tb) (wAndV wa wb) := by
  obtain rfl := ha.k
  exact ⟨rfl, pe_and ha.pe hb.pe, se_andV ha.se hb.se⟩
theorem q_orV {rest : List Expr} (ha : QE cl K X a ta wa) (hb : QE cl K X (.BoolOp .Or (b :: rest) pos) tb wb) : QE cl K X (.BoolOp .Or (a :: b :: rest) pos) (tOrV ta tb) (wOrV wa wb) := by
  obtain rfl := ha.k
  exact ⟨rfl, pe_or ha.pe hb.pe, se_orV ha.se hb.se⟩
theorem q_one {op} (ha : QE cl K X a ta wa) : QE cl K X (.BoolOp op [a] pos) ta wa := by
  obtain rfl := ha.k
  exact ⟨rfl, pe_one ha.pe, ha.se⟩
theorem q_notV (ha : QE cl K X a ta wa) : QE cl K X (.UnaryOp .Not a pos) (tNotV ta) (wNotV wa) := by
  obtain rfl := ha.k
  exact ⟨rfl, pe_not ha.pe, se_notV ha.se⟩
theorem t_val (ha : QE cl K X a ta wa) (he : ∀ whole, isTrue a X.env whole = (do let v ← whole; standAt a.pos; holding [v] (truthy v)) := by intro _; rfl) : QT cl K X a (tB ta) (wTest wa) := by
  obtain rfl := ha.k
  exact ⟨rfl, pt_val ha.pe he, st_B ha.se⟩
section
variable {t u : TT} {v1 v2 : WT} {rest : List Expr}
theorem tw_and1 (ha : QT cl K X a t v1) : QW cl K X (.BoolOp .And [a] pos) t v1 := by
  obtain rfl := ha.k
  exact ⟨rfl, pw_and1 ha.pe, ha.se⟩
theorem tw_or1 (ha : QT cl K X a t v1) : QW cl K X (.BoolOp .Or [a] pos) t v1 := by
  obtain rfl := ha.k
  exact ⟨rfl, pw_or1 ha.pe, ha.se⟩
theorem tw_and (ha : QT cl K X a t v1) (hb : QW cl K X (.BoolOp .And (b :: rest) pos) u v2) : QW cl K X (.BoolOp .And (a :: b :: rest) pos) (tAnd t u) (wAnd v1 v2) := by
  obtain rfl := ha.k
  exact ⟨rfl, pw_and ha.pe hb.pe, st_and ha.se hb.se⟩
theorem tw_or (ha : QT cl K X a t v1) (hb : QW cl K X (.BoolOp .Or (b :: rest) pos) u v2) : QW cl K X (.BoolOp .Or (a :: b :: rest) pos) (tOr t u) (wOr v1 v2) := by
  obtain rfl := ha.k
  exact ⟨rfl, pw_or ha.pe hb.pe, st_or ha.se hb.se⟩
theorem t_w (h : QW cl K X a t v1) : QT cl K X a t v1 := by
  obtain rfl := h.k
  exact ⟨rfl, h.pe.pt, h.se⟩
theorem t_not (ha : QT cl K X a t v1) : QT cl K X (.UnaryOp .Not a pos) (tNot t) (wNot v1) := by
  obtain rfl := ha.k
  exact ⟨rfl, pt_not ha.pe, st_not ha.se⟩
theorem q_ifE (hc : QT cl K X c t v1) (ha : QE cl K X a ta wa) (hb : QE cl K X b tb wb) : QE cl K X (.IfExp c a b pos) (tIf t ta tb) (wIfE v1 wa wb) := by
  obtain rfl := hc.k
  exact ⟨rfl, pe_ifExp hc.pe ha.pe hb.pe, se_ifE hc.se ha.se hb.se⟩
end
theorem q_ix (ha : QE cl K X a ta wa) (hb : QE cl K X b tb wb) (hs : PlainIx b := by exact fun _ _ => rfl) : QE cl K X (.Subscript a b pos) (tOp (rIx K) ta tb) (wOp wIx wa wb) := by
  obtain rfl := ha.k
  exact ⟨rfl, pe_ix ix_seq ha.pe hb.pe hs, se_op sr_ix ha.se hb.se⟩
theorem qo_none (hk : X.K = K := by rfl) : QO cl K X none tNoPart wNoPart := ⟨hk, po_none, so_none⟩
theorem qo_some (h : QE cl K X e te w) : QO cl K X (some e) (tPart te) (wPart w) := by
  obtain rfl := h.k
  exact ⟨rfl, po_some h.pe, so_some h.se⟩
theorem qn_slL {lo hi : Option Expr} {tl th : TO} {wl wh : WO} (h : QE cl K X e te w) (hl : QO cl K X lo tl wl) (hh : QO cl K X hi th wh) : QN cl K X (.Subscript e (.Slice lo hi none p2) pos) (tSl (rSlL K) te tl th) (wSlN w wl wh) := by
  obtain rfl := h.k
  exact ⟨rfl, pe_slice sl_list h.pe hl.pe hh.pe, sen_slL h.se hl.se hh.se⟩
theorem q_n {wn : WN} (h : QN cl K X e te wn) : QE cl K X e te (wOfN wn) := by
  obtain rfl := h.k
  exact ⟨rfl, h.pe, se_ofN h.se⟩
theorem qa_nil (hk : X.K = K := by rfl) : QA cl K X [] tNil wNil := ⟨hk, pa_nil, sa_nil⟩
theorem qa_cons (ha : QE cl K X e te w) (hr : QA cl K X es A WA') (hs : starEach (e :: es) X.env = (false, eval e X.env) :: starEach es X.env := by rfl) : QA cl K X (e :: es) (tCons te A) (wCons w WA') := by
  obtain rfl := ha.k
  exact ⟨rfl, pa_cons ha.pe hr.pe hs, sa_cons ha.se hr.se⟩
theorem q_tup {x1} (h : QA cl K X es A WA') : QE cl K X (.Tuple es x1 pos) (tTup A) (wTup WA') := by
  obtain rfl := h.k
  exact ⟨rfl, pe_tup h.pe, se_tup h.se⟩
theorem qn_lst (h : QA cl K X es A WA') : QN cl K X (.List es pos) (tLst A) (wLstN WA') := by
  obtain rfl := h.k
  exact ⟨rfl, pe_lst h.pe, sen_lst h.se⟩
theorem qn_cat (ha : QE cl K X a ta wa) (hb : QE cl K X b tb wb) : QN cl K X (.BinOp a .Add b pos) (tOp rAddAny ta tb) (wCatN wa wb) := by
  obtain rfl := ha.k
  exact ⟨rfl, pe_op op_addAny ha.pe hb.pe, sen_cat ha.se hb.se⟩
/-- a built-in by its name -/
theorem q_cb {id : String} {r : List V → Hp → VK → Prop} {wl : WL} (hc : CallR X (.builtin id) r) (hs : SC K cl r wl) (hm : X.mg x = none) (hv : bootBuiltins x = some (.builtin id)) (h : QA cl K X (e :: es) A WA') (hg : Gl X x := by rfl) (hn : x ≠ "__name__" := by decide) (hdb : (x == ("__debug__" : Str)) = false := by decide)
    (he : starEach (e :: es) X.env = (false, eval e X.env) :: starEach es X.env := by rfl) (hpl : (backTo pos (starEach es X.env)).any (·.1) = false := by rfl) : QE cl K X (.Call (.Name x p2) (e :: es) [] pos) (tCB r A) (wCB wl WA') := by
  obtain rfl := h.k
  exact ⟨rfl, pe_callB hc hg hm hv h.pe hn hdb he hpl, se_cb hs h.se⟩
theorem q_ct {T : String} {r : List V → Hp → VK → Prop} {wl : WL} (hc : CallR X (.type T) r) (hs : SC K cl r wl) (hm : X.mg x = none) (hv : bootBuiltins x = some (.type T)) (h : QA cl K X (e :: es) A WA') (hg : Gl X x := by rfl) (hn : x ≠ "__name__" := by decide) (hdb : (x == ("__debug__" : Str)) = false := by decide)
    (he : starEach (e :: es) X.env = (false, eval e X.env) :: starEach es X.env := by rfl) (hpl : (backTo pos (starEach es X.env)).any (·.1) = false := by rfl) : QE cl K X (.Call (.Name x p2) (e :: es) [] pos) (tCB r A) (wCB wl WA') := by
  obtain rfl := h.k
  exact ⟨rfl, pe_callTy hc hg hm hv h.pe hn hdb he hpl, se_cb hs h.se⟩
/-- list(..) as a new list -/
theorem qn_list (hm : X.mg x = none) (hv : bootBuiltins x = some (.type "list")) (h : QA cl K X (e :: es) A WA') (hg : Gl X x := by rfl) (hn : x ≠ "__name__" := by decide) (hdb : (x == ("__debug__" : Str)) = false := by decide)
    (he : starEach (e :: es) X.env = (false, eval e X.env) :: starEach es X.env := by rfl) (hpl : (backTo pos (starEach es X.env)).any (·.1) = false := by rfl) : QN cl K X (.Call (.Name x p2) (e :: es) [] pos) (tCB (rList K) A) (wListN WA') := by
  obtain rfl := h.k
  exact ⟨rfl, pe_callTy call_list' hg hm hv h.pe hn hdb he hpl, sen_list h.se⟩
/-- a def of the text -/
theorem q_call {k : Nat} {vsp : VSp} (F : Fn X.prog X.w K X.mg X.base x k (toSp K cl vsp)) (hr : Room k X.A) (h : QA cl K X (e :: es) A WA') (hg : Gl X x := by rfl) (hdb : (x == ("__debug__" : Str)) = false := by decide)
    (he : starEach (e :: es) X.env = (false, eval e X.env) :: starEach es X.env := by rfl) (hpl : (backTo pos (starEach es X.env)).any (·.1) = false := by rfl) : QE cl K X (.Call (.Name x p2) (e :: es) [] pos) (tCall (toSp K cl vsp) [] E0 A) (wCall vsp WA') := by
  obtain rfl := h.k
  obtain ⟨f, fd, ps, F1, hm, hk, hb⟩ := F.ex
  exact ⟨rfl, pe_call F1 hr hg hm hk hb .nil pass0 h.pe hdb he hpl, se_call h.se⟩
theorem q_callD {k : Nat} {vsp : VSp} (F : Fn X.prog X.w K X.mg X.base x k (toSpD K cl vsp)) (hr : Room k X.A) (h : QA cl K X (e :: es) A WA') (hg : Gl X x := by rfl) (hdb : (x == ("__debug__" : Str)) = false := by decide)
    (he : starEach (e :: es) X.env = (false, eval e X.env) :: starEach es X.env := by rfl) (hpl : (backTo pos (starEach es X.env)).any (·.1) = false := by rfl) : QE cl K X (.Call (.Name x p2) (e :: es) [] pos) (tCall (toSpD K cl vsp) [] E0 A) (wCallD vsp WA') := by
  obtain rfl := h.k
  obtain ⟨f, fd, ps, F1, hm, hk, hb⟩ := F.ex
  exact ⟨rfl, pe_call F1 hr hg hm hk hb .nil pass0 h.pe hdb he hpl, se_callD h.se⟩
theorem q_make {k : Nat} {C : Addr} {vsp : VSp} (F : Mkc X.prog X.w K X.mg X.base x C k (toSpI K cl C vsp)) (hr : Room (k + 1) X.A) (h : QA cl K X (e :: es) A WA') (hg : Gl X x := by rfl) (hdb : (x == ("__debug__" : Str)) = false := by decide)
    (he : starEach (e :: es) X.env = (false, eval e X.env) :: starEach es X.env := by rfl) (hpl : (backTo pos (starEach es X.env)).any (·.1) = false := by rfl) : QE cl K X (.Call (.Name x p2) (e :: es) [] pos) (tMake C (toSpI K cl C vsp) [] E0 A) (wCall vsp WA') := by
  obtain rfl := h.k
  obtain ⟨f, fd, ps, F1, hM, hm, hb⟩ := F.ex
  exact ⟨rfl, pe_make hM F1 hr hg hm hb .nil pass0 h.pe hdb he hpl, se_make h.se⟩
theorem q_meth0 {pl : Sem Bool} {k : Nat} {C : Addr} {c m : Str} {vsp : VSp} {apos : Pos} (F : Mt X.prog X.w K X.mg X.base C m k (toSp K cl vsp)) (hc : cl c = some C) (hr : Room k X.A) (h : QE cl K X o to wo)
    (ht : eval (.Call (.Attribute o m apos) [] [] pos) X.env = (do
      let ov ← eval o X.env
      standAt apos.atName
      let (f, first) ← holding [ov] (getMethod ov m pl)
      callWith pos f first (backTo pos (starEach [] X.env)) (backToKw pos (keywordEach [] X.env))) := by rfl) : QE cl K X (.Call (.Attribute o m apos) [] [] pos) (tMeth C m (toSp K cl vsp) [] E0 to tNil) (wMeth c m vsp wo wNil) := by
  obtain rfl := h.k
  obtain ⟨f, fd, ps, F1, hM, hb⟩ := F.ex
  exact ⟨rfl, pe_meth0 h.pe F.cls hM F1 hr hb .nil pass0 (ht := ht), se_meth hc h.se sa_nil⟩
theorem q_fld {c f : Str} (hc : ∀ C, cl c = some C → Cls K C ∧ NoAttr K C f) (h : QE cl K X o to wo) (hb : attributeBase o f X.env (eval o X.env) = eval o X.env := by rfl) : QE cl K X (.Attribute o f pos) (tFld K to f) (wFld c f wo) := by
  obtain rfl := h.k
  exact ⟨rfl, pe_fld h.pe hb, se_fld hc h.se⟩
/-- methods of one's own lists -/
theorem q_lm {name : Str} {id : String} {r : V → List V → Hp → VK → Prop} {m : LM} {apos cpos : Pos} (slot : Slot "list" name id) (hty : typeOf (.builtin id) = pure (.type "method_descriptor")) (hm : MtR X id r) (hs : SLM K cl r m) (ho : QE cl K X o to wo) (ha : QA cl K X (e :: es) A WA')
    (hbase : attributeBase o name X.env (eval o X.env) = eval o X.env := by rfl)
    (hfew : ((backTo cpos (starEach (e :: es) X.env)).all (fun x => !x.1) && (backToKw cpos (keywordEach [] X.env)).all (fun x => x.1.isSome)
      && decide ((e :: es).length + ([] : List Keyword).length + (if ([] : List Keyword).isEmpty then 0 else 1) < 30)) = true := by rfl)
    (hline : (apos.endLine == cpos.line) = true := by rfl) (hst : starEach (e :: es) X.env = (false, eval e X.env) :: starEach es X.env := by rfl) (hplain : (backTo cpos (starEach es X.env)).any (·.1) = false := by rfl) :
    QE cl K X (.Call (.Attribute o name apos) (e :: es) [] cpos) (tBM K "list" r to A) (wLM m wo WA') := by
  obtain rfl := ho.k
  exact ⟨rfl, pe_bm PySem.F.plainAttrs_list slot hty hm ho.pe ha.pe hbase hfew hline hst hplain, se_lm hs ho.se ha.se⟩
theorem q_lm0 {name : Str} {id : String} {r : V → List V → Hp → VK → Prop} {m : LM} {apos cpos : Pos} (slot : Slot "list" name id) (hty : typeOf (.builtin id) = pure (.type "method_descriptor")) (hm : MtR X id r) (hs : SLM K cl r m) (ho : QE cl K X o to wo)
    (hbase : attributeBase o name X.env (eval o X.env) = eval o X.env := by rfl) (hline : (apos.endLine == cpos.line) = true := by rfl) :
    QE cl K X (.Call (.Attribute o name apos) [] [] cpos) (tBM0 K "list" r to) (wLM m wo wNil) := by
  obtain rfl := ho.k
  exact ⟨rfl, pe_bm0 PySem.F.plainAttrs_list slot hty hm ho.pe hbase hline, se_lm0 hs ho.se⟩
/-! targets, walks, comprehensions -/
theorem qg_n (i : Nat) (hN : X.N.Nodup) (hi : X.N[i]? = some x := by rfl) (hx : Loc X.env.scope x := by first | exact Or.inl rfl | exact Or.inr rfl) (hf : X.fn x = true ∨ X.env.scope.names.lookup x = some .local := by first | exact .inl rfl | exact .inr rfl | assumption) (hk : X.K = K := by rfl) :
    QG cl K X (.Name x pos) (gName i) [i] (wName i) := ⟨hk, pg_name hN hi hx hf, sg_name⟩
theorem qgs_nil (hk : X.K = K := by rfl) : QGs cl K X [] gNil [] wgNil := ⟨hk, pgs_nil, sgs_nil⟩
theorem qgs_cons {g : TG} {gs : TGs} {t ts : List Nat} {wg : WG} {ws : WGs} (h1 : QG cl K X e g t wg) (h2 : QGs cl K X es gs ts ws) (hs : (assignEach (e :: es) X.env).map (·.2) = assign e X.env :: (assignEach es X.env).map (·.2) := by rfl) :
    QGs cl K X (e :: es) (gCons g gs) (t ++ ts) (wgCons wg ws) := by
  obtain rfl := h1.k
  exact ⟨rfl, pgs_cons h1.pe h2.pe hs, sgs_cons h1.se h2.se⟩
theorem qg_tup {kk n : Nat} {gs : TGs} {ts : List Nat} {ws : WGs} (hc : X.calm = true) (h : QGs cl K X es gs ts ws) (hn : (assignEach es X.env).length = n := by rfl) (hst : (assignEach es X.env).findIdx? (·.1) = none := by rfl) :
    QG cl K X (.Tuple es kk pos) (gTup K n gs) ts (wTupT n ws) := by
  obtain rfl := h.k
  exact ⟨rfl, pg_tup hc h.pe hn hst, sg_tup h.se⟩
section
variable {tg : Expr}
theorem qi_list (h : QE cl K X e te w) : QI cl K X tg e (iList K te) (wIL w) := by
  obtain rfl := h.k
  exact ⟨rfl, pi_list h.pe, si_list h.se⟩
theorem qi_tup (h : QE cl K X e te w) : QI cl K X tg e (iTup K te) (wIT w) := by
  obtain rfl := h.k
  exact ⟨rfl, pi_tup h.pe, si_tup h.se⟩
theorem qi_r1 (hm : X.mg "range" = none) (h : QA cl K X [a] A WA') (hg : Gl X "range" := by rfl) (hs : starEach [a] X.env = [(false, eval a X.env)] := by rfl) : QI cl K X tg (.Call (.Name "range" p2) [a] [] pos) (iRng1 A) (wIR1 WA') := by
  obtain rfl := h.k
  exact ⟨rfl, pi_range1 hg hm h.pe hs, si_r1 h.se⟩
theorem qi_r2 (hm : X.mg "range" = none) (h : QA cl K X [a, b] A WA') (hg : Gl X "range" := by rfl) (hs : starEach [a, b] X.env = [(false, eval a X.env), (false, eval b X.env)] := by rfl) (hs2 : starEach [b] X.env = [(false, eval b X.env)] := by rfl) :
    QI cl K X tg (.Call (.Name "range" p2) [a, b] [] pos) (iRng2 A) (wIR2 WA') := by
  obtain rfl := h.k
  exact ⟨rfl, pi_range2 hg hm h.pe hs hs2, si_r2 h.se⟩
theorem qi_enum {tpos : Pos} {elts : List Expr} {kk : Nat} (hm : X.mg "enumerate" = none) (h : QA cl K X [e] A WA') (hg : Gl X "enumerate" := by rfl) (hs : starEach [e] X.env = [(false, eval e X.env)] := by rfl) :
    QI cl K X (.Tuple elts kk tpos) (.Call (.Name "enumerate" p2) [e] [] pos) (iEnum K A) (wIEn WA') := by
  obtain rfl := h.k
  exact ⟨rfl, pi_enum hg hm h.pe hs, si_enum h.se⟩
end
theorem qps_nil (hk : X.K = K := by rfl) : QPs cl K X [] tYes wYes := ⟨hk, pts_nil, st_yes'⟩
theorem qps_one {t : TT} {v1 : WT} (h : QT cl K X c t v1) : QPs cl K X [c] t v1 := by
  obtain rfl := h.k
  exact ⟨rfl, pts_one h.pe, h.se⟩
theorem qn_lc {elt tg iter : Expr} {ifs : List Expr} {scope : Scope} {own : List (Str × Nat)} {wi : TI} {g : TG} {ts : List Nat} {tt : TT} {wwi : WI} {wg : WG} {wt : WT} (hc : X.calm = true) (hN : X.N.Nodup) (hi : QI cl K X tg iter wi wwi) (ok : BlkOk X.N X.env.scope scope own)
    (hg : ∀ (s : Shared) (H : Hp) (C : Addr) (cl' : List (Str × Addr)) (fp : List Addr), QG cl K (X.blk s H scope (compEnvC scope cl' C X.env) fp) tg g ts wg) (ht : ∀ (s : Shared) (H : Hp) (C : Addr) (cl' : List (Str × Addr)) (fp : List Addr), QPs cl K (X.blk s H scope (compEnvC scope cl' C X.env) fp) ifs tt wt)
    (he : ∀ (s : Shared) (H : Hp) (C : Addr) (cl' : List (Str × Addr)) (fp : List Addr), QE cl K (X.blk s H scope (compEnvC scope cl' C X.env) fp) elt te w) (hv : ∀ t ∈ ts, t ∈ own.map (·.2) := by decide) (hs : ∀ x, foldedSetIterable iter X.env x = pure x := by intro _; rfl) :
    QN cl K X (.ListComp elt [⟨tg, iter, ifs, 0⟩] scope pos) (tLc wi g tt te (own.map (·.2))) (wLc wwi wg wt w (own.map (·.2))) := by
  obtain rfl := hi.k
  exact ⟨rfl, pe_lc hc hN hi.pe ok (fun s H C cl' fp => (hg s H C cl' fp).pe) (fun s H C cl' fp => (ht s H C cl' fp).pe) (fun s H C cl' fp => (he s H C cl' fp).pe) hs,
    sen_lc hi.se (hg X.s_0 X.H_0 0 [] []).se (ht X.s_0 X.H_0 0 [] []).se (he X.s_0 X.H_0 0 [] []).se hv⟩
/-! statements -/
theorem qss_nil (hk : X.K = K := by rfl) : QSs cl K X [] tNext wNext := ⟨hk, pss_nil, ss_next⟩
theorem qss_cons {s : Stmt} {rest : List Stmt} {t u : TS} {v1 v2 : WS} (h1 : QS cl K X s t v1) (h2 : QSs cl K X rest u v2) : QSs cl K X (s :: rest) (tSeq t u) (wSeq v1 v2) := by
  obtain rfl := h1.k
  exact ⟨rfl, pss_cons h1.pe h2.pe, ss_seq h1.se h2.se⟩
theorem qss_cut {s : Stmt} {rest : List Stmt} {t u : TS} {v1 v2 : WS} (h1 : QS cl K X s t v1) (h2 : QSs cl K X rest u v2) : QSs cl K X (s :: rest) (tSeq t u) (wCut v1 v2) := by
  obtain rfl := h1.k
  exact ⟨rfl, pss_cons h1.pe h2.pe, ss_cut h1.se h2.se⟩
theorem qss_one {s : Stmt} {t : TS} {v1 : WS} (h1 : QS cl K X s t v1) : QSs cl K X [s] t v1 := by
  obtain rfl := h1.k
  exact ⟨rfl, pss_one h1.pe, h1.se⟩
theorem qss_never {s : List Stmt} (hk : X.K = K := by rfl) : QSs cl K X s tNever wNever := ⟨hk, pss_never, ss_never⟩
theorem qs_never {s : Stmt} (hk : X.K = K := by rfl) : QS cl K X s tNever wNever := ⟨hk, ps_never, ss_never⟩
theorem qs_pass (hk : X.K = K := by rfl) : QS cl K X (.Pass pos) tNext wNext := ⟨hk, ps_pass, ss_next⟩
theorem qs_brk (hk : X.K = K := by rfl) : QS cl K X (.Break pos) tBreak wBrk := ⟨hk, ps_break, ss_brk⟩
theorem qs_cont (hk : X.K = K := by rfl) : QS cl K X (.Continue pos) tCont wCont := ⟨hk, ps_continue, ss_cont⟩
theorem qs_doc {s : Str} {j} (hk : X.K = K := by rfl) : QS cl K X (.Expr (.Constant (.str s) j pos) p2) tNext wNext := ⟨hk, ps_doc, ss_next⟩
theorem qs_asg {tg : Expr} {g : TG} {ts : List Nat} {wg : WG} (he : QE cl K X e te w) (hg : QG cl K X tg g ts wg) (hs : swapsWithSole [tg] e pos.line X.env = pure false := by rfl) (hw : swappedStores [tg] e X.env = pure none := by rfl)
    (h1 : (assignEach [tg] X.env).map (·.2) = [assign tg X.env] := by rfl) : QS cl K X (.Assign [tg] e pos) (tAsg te g) (wAsg w wg) := by
  obtain rfl := he.k
  exact ⟨rfl, ps_asg he.pe hg.pe hs hw h1, ss_asg he.se hg.se⟩
theorem qs_set (i : Nat) (hN : X.N.Nodup) (he : QE cl K X e te w) (hi : X.N[i]? = some x := by rfl) (hx : Loc X.env.scope x := by first | exact Or.inl rfl | exact Or.inr rfl) (hs : swapsWith e (some (.Name x p2)) pos.line X.env = pure false := by rfl) (hf : X.fn x = true ∨ X.env.scope.names.lookup x = some .local := by first | exact .inl rfl | exact .inr rfl | assumption) :
    QS cl K X (.Assign [.Name x p2] e pos) (tAsg te (gName i)) (wAsg w (wName i)) := by
  obtain rfl := he.k
  exact ⟨rfl, ps_set hN hi hx he.pe hs hf, ss_asg he.se sg_name⟩
/-- x = a new list of one's own -/
theorem qs_setN (i : Nat) {wn : WN} (hN : X.N.Nodup) (he : QN cl K X e te wn) (hi : X.N[i]? = some x := by rfl) (hx : Loc X.env.scope x := by first | exact Or.inl rfl | exact Or.inr rfl) (hs : swapsWith e (some (.Name x p2)) pos.line X.env = pure false := by rfl) (hf : X.fn x = true ∨ X.env.scope.names.lookup x = some .local := by first | exact .inl rfl | exact .inr rfl | assumption) :
    QS cl K X (.Assign [.Name x p2] e pos) (tAsgN te i) (wAsgN wn i) := by
  obtain rfl := he.k
  exact ⟨rfl, ps_set hN hi hx he.pe hs hf, ss_asgN he.se⟩
section
variable {elt tg iter : Expr} {ifs : List Expr} {scope : Scope} {own : List (Str × Nat)} {wi : TI} {g : TG} {ts : List Nat} {tt : TT} {wwi : WI} {wg : WG} {wt : WT} {py : Pos} {y : Str}
/-- x = [..] on one line, x a local that the comprehension does not read -/
theorem qn_lcL (i : Nat) (hc : X.calm = true) (hN : X.N.Nodup) (hi : QI cl K X tg iter wi wwi) (ok : BlkOk X.N X.env.scope scope own)
    (hg : ∀ (s : Shared) (H : Hp) (C : Addr) (cl' : List (Str × Addr)) (fp : List Addr), QG cl K (X.blk s H scope (compEnvC scope cl' C X.env) fp) tg g ts wg) (ht : ∀ (s : Shared) (H : Hp) (C : Addr) (cl' : List (Str × Addr)) (fp : List Addr), QPs cl K (X.blk s H scope (compEnvC scope cl' C X.env) fp) ifs tt wt)
    (he : ∀ (s : Shared) (H : Hp) (C : Addr) (cl' : List (Str × Addr)) (fp : List Addr), QE cl K (X.blk s H scope (compEnvC scope cl' C X.env) fp) elt te w) (hy : X.N[i]? = some y := by rfl) (hyl : X.env.scope.names.lookup y = some .local := by rfl)
    (hsw : swapsWith (.ListComp elt [⟨tg, iter, ifs, 0⟩] scope p2) (some (.Name y py)) pos.line X.env = pure true := by exact sw_true rfl rfl rfl (by decide +kernel)) (hv : ∀ t ∈ ts, t ∈ own.map (·.2) := by decide) (hs : ∀ x, foldedSetIterable iter X.env x = pure x := by intro _; rfl) :
    QS cl K X (.Assign [.Name y py] (.ListComp elt [⟨tg, iter, ifs, 0⟩] scope p2) pos) (tAsg (tLc wi g tt te (own.map (·.2))) (gName i)) (wAsg (wOfN (wLc wwi wg wt w (own.map (·.2)))) (wName i)) := by
  obtain rfl := hi.k
  exact ⟨rfl, ps_setLc hc hN hy hyl hsw hi.pe ok (fun s H C cl' fp => (hg s H C cl' fp).pe) (fun s H C cl' fp => (ht s H C cl' fp).pe) (fun s H C cl' fp => (he s H C cl' fp).pe) hs,
    ss_asg (se_ofN (sen_lc hi.se (hg X.s_0 X.H_0 0 [] []).se (ht X.s_0 X.H_0 0 [] []).se (he X.s_0 X.H_0 0 [] []).se hv)) sg_name⟩
/-- .. of one's own -/
theorem qn_lcLN (i : Nat) (hc : X.calm = true) (hN : X.N.Nodup) (hi : QI cl K X tg iter wi wwi) (ok : BlkOk X.N X.env.scope scope own)
    (hg : ∀ (s : Shared) (H : Hp) (C : Addr) (cl' : List (Str × Addr)) (fp : List Addr), QG cl K (X.blk s H scope (compEnvC scope cl' C X.env) fp) tg g ts wg) (ht : ∀ (s : Shared) (H : Hp) (C : Addr) (cl' : List (Str × Addr)) (fp : List Addr), QPs cl K (X.blk s H scope (compEnvC scope cl' C X.env) fp) ifs tt wt)
    (he : ∀ (s : Shared) (H : Hp) (C : Addr) (cl' : List (Str × Addr)) (fp : List Addr), QE cl K (X.blk s H scope (compEnvC scope cl' C X.env) fp) elt te w) (hy : X.N[i]? = some y := by rfl) (hyl : X.env.scope.names.lookup y = some .local := by rfl)
    (hsw : swapsWith (.ListComp elt [⟨tg, iter, ifs, 0⟩] scope p2) (some (.Name y py)) pos.line X.env = pure true := by exact sw_true rfl rfl rfl (by decide +kernel)) (hv : ∀ t ∈ ts, t ∈ own.map (·.2) := by decide) (hs : ∀ x, foldedSetIterable iter X.env x = pure x := by intro _; rfl) :
    QS cl K X (.Assign [.Name y py] (.ListComp elt [⟨tg, iter, ifs, 0⟩] scope p2) pos) (tAsgN (tLc wi g tt te (own.map (·.2))) i) (wAsgN (wLc wwi wg wt w (own.map (·.2))) i) := by
  obtain rfl := hi.k
  exact ⟨rfl, ps_setLc hc hN hy hyl hsw hi.pe ok (fun s H C cl' fp => (hg s H C cl' fp).pe) (fun s H C cl' fp => (ht s H C cl' fp).pe) (fun s H C cl' fp => (he s H C cl' fp).pe) hs,
    ss_asgN (sen_lc hi.se (hg X.s_0 X.H_0 0 [] []).se (ht X.s_0 X.H_0 0 [] []).se (he X.s_0 X.H_0 0 [] []).se hv)⟩
end
theorem qs_par {i j : Nat} {y : Str} {px py pt : Pos} {kt k2 pt2} (hc : X.calm = true) (hN : X.N.Nodup) (ha : QA cl K X [a, b] A WA') (hi : X.N[i]? = some x := by rfl) (hj : X.N[j]? = some y := by rfl) (hij : i ≠ j := by decide)
    (hx : X.env.scope.names.lookup x = some .local := by rfl) (hy : X.env.scope.names.lookup y = some .local := by rfl)
    (hw : swappedStores [.Tuple [.Name x px, .Name y py] kt pt] (.Tuple [a, b] k2 pt2) X.env = pure (some [x, y]) := by rfl)
    (hs : swapsWithSole [.Tuple [.Name x px, .Name y py] kt pt] (.Tuple [a, b] k2 pt2) pos.line X.env = pure false := by rfl) :
    QS cl K X (.Assign [.Tuple [.Name x px, .Name y py] kt pt] (.Tuple [a, b] k2 pt2) pos) (tPar i j A) (wPar i j WA') := by
  obtain rfl := ha.k
  exact ⟨rfl, ps_par hc hN hi hj hij hx hy ha.pe hw hs, ss_par ha.se⟩
theorem qs_expr (he : QE cl K X e te w) (hs : swapsWith e none pos.line X.env = pure false := by rfl) : QS cl K X (.Expr e pos) (tDrop te) (wDrop w) := by
  obtain rfl := he.k
  exact ⟨rfl, ps_expr he.pe hs, ss_drop he.se⟩
theorem qs_ret (he : QE cl K X e te w) : QS cl K X (.Return (some e) pos) (tRet te) (wRet w) := by
  obtain rfl := he.k
  exact ⟨rfl, ps_ret he.pe, ss_ret he.se⟩
theorem qs_retN (hk : X.K = K := by rfl) : QS cl K X (.Return none pos) tRetN wRetN := ⟨hk, ps_retN, ss_retN⟩
theorem qs_if {t : TT} {v1 : WT} {s1 s2 : List Stmt} {t1 t2 : TS} {w1 w2 : WS} (hc : QT cl K X c t v1) (h1 : QSs cl K X s1 t1 w1) (h2 : QSs cl K X s2 t2 w2) : QS cl K X (.If c s1 s2 pos) (tIfS t t1 t2) (wIf v1 w1 w2) := by
  obtain rfl := hc.k
  exact ⟨rfl, ps_if hc.pe h1.pe h2.pe, ss_if hc.se h1.se h2.se⟩
theorem qs_while {t : TT} {v1 : WT} {s1 : List Stmt} {t1 : TS} {w1 : WS} (hp : PassesOwn (model X.prog X.w) X.A X.env X.xe) (hc : QT cl K X c t v1) (h1 : QSs cl K X s1 t1 w1) : QS cl K X (.While c s1 [] pos) (tWhile t t1) (wWhile v1 w1) := by
  obtain rfl := hc.k
  exact ⟨rfl, ps_while hp hc.pe h1.pe, ss_while hc.se h1.se⟩
theorem qs_for {tg iter : Expr} {s1 : List Stmt} {wi : TI} {g : TG} {ts : List Nat} {tb : TS} {wwi : WI} {wg : WG} {wb' : WS} (hp : PassesOwn (model X.prog X.w) X.A X.env X.xe) (hc : X.calm = true) (hi : QI cl K X tg iter wi wwi) (hg : QG cl K X tg g ts wg) (hb : QSs cl K X s1 tb wb')
    (hs : ∀ x, foldedSetIterable iter X.env x = pure x := by intro _; rfl) : QS cl K X (.For tg iter s1 [] pos) (tFor wi g tb) (wFor wwi wg wb') := by
  obtain rfl := hi.k
  exact ⟨rfl, ps_for hp hc hi.pe hg.pe hb.pe hs, ss_for hi.se hg.se hb.se⟩
theorem qs_forL {tg : Expr} {s1 : List Stmt} {g : TG} {ts : List Nat} {tb : TS} {wg : WG} {wb' : WS} (hp : PassesOwn (model X.prog X.w) X.A X.env X.xe) (hc : X.calm = true) (hi : QE cl K X e te w) (hg : QG cl K X tg g ts wg) (hb : QSs cl K X s1 tb wb')
    (hs : ∀ x, foldedSetIterable e X.env x = pure x := by intro _; rfl) : QS cl K X (.For tg e s1 [] pos) (tFor (iList K te) g tb) (wForL w wg wb') := by
  obtain rfl := hi.k
  exact ⟨rfl, ps_for hp hc (pi_list hi.pe) hg.pe hb.pe hs, ss_forL hi.se hg.se hb.se⟩
theorem qs_sub {i : Expr} {ti : TE} {wi : WE} {spos : Pos} (he : QE cl K X e te w) (ho : QE cl K X o to wo) (hi : QE cl K X i ti wi) (hsb : ∀ v, assign (.Subscript o i spos) X.env v = (do
      let ov ← holding [v] (eval o X.env)
      let iv ← holding [v, ov] (eval i X.env)
      standAt spos
      holding [v, ov, iv] (setItem ov iv v)
      release [v, ov, iv] []) := by intro _; rfl) (hs : swapsWithSole [.Subscript o i spos] e pos.line X.env = pure false := by rfl) (hw : swappedStores [.Subscript o i spos] e X.env = pure none := by rfl)
    (h1 : (assignEach [.Subscript o i spos] X.env).map (·.2) = [assign (.Subscript o i spos) X.env] := by rfl) : QS cl K X (.Assign [.Subscript o i spos] e pos) (tAsg te (gSub to ti rSetL)) (wSet w wo wi) := by
  obtain rfl := he.k
  exact ⟨rfl, ps_asg he.pe (pg_sub ho.pe hi.pe set_list hsb) hs hw h1, ss_set he.se ho.se hi.se⟩
end
section
variable {P : Program} {wd : World} {K : PySem.W.Frag} {mg : Str → Option Value} {base : Heap} {cl : Str → Option Addr}
/-- a def by its body -/
theorem Fn.of {x qual : Str} {st : Stmt} {f : Addr} {fd : FuncData} {N ps : List Str} {k : Nat} {vsp : VSp} (F : Fun K x qual st f fd) (hm : mg x = some (.ref f)) (S : FnScope N ps (defScope st)) (hN : ps.length ≤ N.length) (ln : ∀ qs R, vsp qs R → qs.length = ps.length)
    (hb : ∀ (kV doc pm : Value) (an : Option Addr) (cdv ct : Value) (us : List Value), us.length = ps.length → bindArgs (PySem.W.fnOf x qual (defArgs st) (defBody st) (defScope st) .none kV doc pm an cdv ct) ⟨us, []⟩ = pure (ps.zip us))
    (body : ∀ (cdv : Value) (A : Around) (outer : List Env) (s : Shared) (H : Hp) (E : XK), Room k (A.deeper (envOfC qual (defScope st) s.heap.objs.size f cdv)) →
      ∃ t w, QSs cl K (cxOf CX0 P wd K mg base N qual (defScope st) f cdv A outer s H E).nox (defBody st) t w ∧ ∀ qs R, vsp qs R → w { nx := fun _ _ => R .non, rt := fun p _ => R p } (startS N.length qs) []) :
    Fn P wd K mg base x (k + 1) (toSp K cl vsp) := by
  have len : ∀ vs H Q E, toSp K cl vsp vs H Q E → vs.length = ps.length := fun vs H Q E h => by
    obtain ⟨G, qs, R, _, r, hv, _⟩ := h
    rw [r.len, ln qs R hv]
  refine ⟨f, fd, ps, F.ok S len (fun cdv A outer s H vs Q E hr h => ?_), hm, F.kp, F.binds hb⟩
  obtain ⟨t, w, q, hw⟩ := body cdv A outer s H E hr
  exact run_pure q.pe q.se (by rw [len vs H Q E h]; exact hN) h hw
theorem Fn.ofD {x qual : Str} {st : Stmt} {f : Addr} {fd : FuncData} {N ps : List Str} {k : Nat} {vsp : VSp} (F : Fun K x qual st f fd) (hm : mg x = some (.ref f)) (S : FnScope N ps (defScope st)) (hN : ps.length ≤ N.length) (ln : ∀ qs R, vsp qs R → qs.length + 1 = ps.length)
    (hb : ∀ (kV doc pm : Value) (an : Option Addr) (cdv ct : Value) (us : List Value), us.length = ps.length → bindArgs (PySem.W.fnOf x qual (defArgs st) (defBody st) (defScope st) .none kV doc pm an cdv ct) ⟨us, []⟩ = pure (ps.zip us))
    (body : ∀ (cdv : Value) (A : Around) (outer : List Env) (s : Shared) (H : Hp) (E : XK), Room k (A.deeper (envOfC qual (defScope st) s.heap.objs.size f cdv)) →
      ∃ t w, QSs cl K (cxOf CX0 P wd K mg base N qual (defScope st) f cdv A outer s H E).nox (defBody st) t w ∧ ∀ qs R, vsp qs R → w { nx := fun _ _ => R .non, rt := fun p _ => R p } (startD N.length qs) [.dice]) :
    Fn P wd K mg base x (k + 1) (toSpD K cl vsp) := by
  have len : ∀ vs H Q E, toSpD K cl vsp vs H Q E → vs.length = ps.length := fun vs H Q E h => by
    obtain ⟨F, G, d, us, qs, R, rfl, _, _, _, _, r, hv, _⟩ := h
    rw [List.length_cons, r.len, ln qs R hv]
  refine ⟨f, fd, ps, F.ok S len (fun cdv A outer s H vs Q E hr h => ?_), hm, F.kp, F.binds hb⟩
  obtain ⟨t, w, q, hw⟩ := body cdv A outer s H E hr
  exact run_dice q.pe q.se (by rw [len vs H Q E h]; exact hN) h hw
theorem Fn.ofL {x qual : Str} {st : Stmt} {f : Addr} {fd : FuncData} {N ps : List Str} {k : Nat} {vsp : VSp} (F : Fun K x qual st f fd) (hm : mg x = some (.ref f)) (S : FnScope N ps (defScope st)) (hN : ps.length ≤ N.length) (ln : ∀ qs R, vsp qs R → qs.length + 1 = ps.length)
    (hb : ∀ (kV doc pm : Value) (an : Option Addr) (cdv ct : Value) (us : List Value), us.length = ps.length → bindArgs (PySem.W.fnOf x qual (defArgs st) (defBody st) (defScope st) .none kV doc pm an cdv ct) ⟨us, []⟩ = pure (ps.zip us))
    (body : ∀ (cdv : Value) (A : Around) (outer : List Env) (s : Shared) (H : Hp) (E : XK), Room k (A.deeper (envOfC qual (defScope st) s.heap.objs.size f cdv)) →
      ∃ t w, QSs cl K (cxOf CX0 P wd K mg base N qual (defScope st) f cdv A outer s H E).nox (defBody st) t w ∧ ∀ qs R ds, vsp qs R → DiceOk ds → w { nx := fun _ _ => False, rt := fun p st => R p ∧ ∃ ds', st[0]? = some (.lst (ds'.map PV.int)) ∧ DiceOk ds' } (startD N.length qs) [.lst (ds.map PV.int)]) :
    Fn P wd K mg base x (k + 1) (toSpD K cl vsp) := by
  have len : ∀ vs H Q E, toSpD K cl vsp vs H Q E → vs.length = ps.length := fun vs H Q E h => by
    obtain ⟨F, G, d, us, qs, R, rfl, _, _, _, _, r, hv, _⟩ := h
    rw [List.length_cons, r.len, ln qs R hv]
  refine ⟨f, fd, ps, F.ok S len (fun cdv A outer s H vs Q E hr h => ?_), hm, F.kp, F.binds hb⟩
  obtain ⟨t, w, q, hw⟩ := body cdv A outer s H E hr
  exact run_off q.pe q.se (by rw [len vs H Q E h]; exact hN) h hw
/-- a method by its body -/
theorem Mt.of {m qual : Str} {st : Stmt} {f C : Addr} {fd : FuncData} {N ps : List Str} {k : Nat} {vsp : VSp} (F : Fun K m qual st f fd) (hM : Meth K C m f) (hC : Cls K C) (S : FnScope N ps (defScope st)) (hN : ps.length ≤ N.length) (ln : ∀ qs R, vsp qs R → qs.length = ps.length)
    (hb : ∀ (kV doc pm : Value) (an : Option Addr) (cdv ct : Value) (us : List Value), us.length = ps.length → bindArgs (PySem.W.fnOf m qual (defArgs st) (defBody st) (defScope st) .none kV doc pm an cdv ct) ⟨us, []⟩ = pure (ps.zip us))
    (body : ∀ (cdv : Value) (A : Around) (outer : List Env) (s : Shared) (H : Hp) (E : XK), Room k (A.deeper (envOfC qual (defScope st) s.heap.objs.size f cdv)) →
      ∃ t w, QSs cl K (cxOf CX0 P wd K mg base N qual (defScope st) f cdv A outer s H E).nox (defBody st) t w ∧ ∀ qs R, vsp qs R → w { nx := fun _ _ => R .non, rt := fun p _ => R p } (startS N.length qs) []) :
    Mt P wd K mg base C m (k + 1) (toSp K cl vsp) := by
  have len : ∀ vs H Q E, toSp K cl vsp vs H Q E → vs.length = ps.length := fun vs H Q E h => by
    obtain ⟨G, qs, R, _, r, hv, _⟩ := h
    rw [r.len, ln qs R hv]
  refine ⟨⟨f, fd, ps, F.ok S len (fun cdv A outer s H vs Q E hr h => ?_), hM, F.binds hb⟩, hC⟩
  obtain ⟨t, w, q, hw⟩ := body cdv A outer s H E hr
  exact run_pure q.pe q.se (by rw [len vs H Q E h]; exact hN) h hw
end
end VL

set_option Elab.async false
set_option linter.all false
set_option maxRecDepth 100000
set_option maxHeartbeats 2000000
/-! The value layer: isinstance, all, in; ifs; a def that is not called. -/
namespace VL
open PySem L2 PySem.Spec PyProof.Rows

theorem iteD {c A B : Prop} [Decidable c] (h1 : c → A) (h2 : ¬ c → B) : if decide c = true then A else B := by
  by_cases h : c
  · rw [decide_eq_true h, if_pos rfl]; exact h1 h
  · rw [decide_eq_false h, if_neg Bool.false_ne_true]; exact h2 h
theorem iteDT {c A B : Prop} [Decidable c] (h : c) (k : A) : if decide c = true then A else B := iteD (fun _ => k) fun n => (n h).elim
theorem iteDF {c A B : Prop} [Decidable c] (h : ¬ c) (k : B) : if decide c = true then A else B := iteD (fun n => (h n).elim) fun _ => k
theorem iteND {c A B : Prop} [Decidable c] (h1 : ¬ c → A) (h2 : c → B) : if (!decide c) = true then A else B := by
  by_cases h : c
  · rw [decide_eq_true h, Bool.not_true, if_neg Bool.false_ne_true]; exact h2 h
  · rw [decide_eq_false h, Bool.not_false, if_pos rfl]; exact h1 h
theorem iteNDT {c A B : Prop} [Decidable c] (h : c) (k : B) : if (!decide c) = true then A else B := iteND (fun n => (n h).elim) fun _ => k
theorem iteNDF {c A B : Prop} [Decidable c] (h : ¬ c) (k : A) : if (!decide c) = true then A else B := iteND (fun _ => k) fun n => (h n).elim
theorem yes {A B : Sto → Prop} {sl : Sl} {st : Sto} (h : A st) : wYes sl st (fun b st4 => if b = true then A st4 else B st4) := by
  show if true = true then A st else B st
  rw [if_pos rfl]
  exact h
theorem iteB {b : Bool} {A B : Prop} (h1 : b = true → A) (h2 : b = false → B) : if b = true then A else B := by
  cases b with
  | true => rw [if_pos rfl]; exact h1 rfl
  | false => rw [if_neg Bool.false_ne_true]; exact h2 rfl

section
variable {P : Program} {wd : World} {K : PySem.W.Frag} {mg : Str → Option Value} {base : Heap} {cl : Str → Option Addr}
/-- a def that nobody calls -/
theorem Fn.none {x qual : Str} {st : Stmt} {f : Addr} {fd : FuncData} {ps : List Str} {k : Nat} (F : Fun K x qual st f fd) (hm : mg x = some (.ref f))
    (hb : ∀ (kV doc pm : Value) (an : Option Addr) (cdv ct : Value) (us : List Value), us.length = ps.length → bindArgs (PySem.W.fnOf x qual (defArgs st) (defBody st) (defScope st) .none kV doc pm an cdv ct) ⟨us, []⟩ = pure (ps.zip us)) :
    Fn P wd K mg base x k (toSp K cl fun _ _ => False) :=
  ⟨f, fd, ps, ⟨fun vs H Q E h => by obtain ⟨G, qs, R, _, _, hv, _⟩ := h; exact hv.elim, fun A outer s H args us vs Q E _ _ _ _ h => by obtain ⟨G, qs, R, _, _, hv, _⟩ := h; exact hv.elim⟩, hm, F.kp, F.binds hb⟩
end

section
variable {K : PySem.W.Frag} {cl : Str → Option Addr} {F G H : Hp} {σ : L2.St} {al : List Addr} {sl : Sl} {st : Sto}
/-! ### isinstance, by a built-in class -/
def tyName : PV → Option String
  | .non => some "NoneType"
  | .bl _ => some "bool"
  | .int _ => some "int"
  | .str _ => some "str"
  | .lst _ => some "list"
  | .tup _ => some "tuple"
  | .dic _ _ => some "dict"
  | .ins _ _ _ => none
  | .opq _ => none
theorem ty_of {v : V} {p : PV} {n : String} (gh : Same G H) (r : Rep K cl G v p) (h : tyName p = some n) : TyX K H v (.type n) := by
  cases r with
  | non => cases h; exact .base .non
  | bl b => cases h; exact .base (.bl b)
  | int i => cases h; exact .base (.int i)
  | str s => cases h; exact .base (.str s)
  | lst e l => cases h; exact .base (.lst (gh _ _ e))
  | tup e l =>
    cases h
    rcases sqT_mono gh e with (q | ⟨o, q⟩) | ⟨o, its, n, q, c, _⟩
    · exact .base (.tup q)
    · exact .fTuple q
    · exact .kTuple q c
  | ins _ _ _ _ => cases h
  | dic e l _ => cases h; exact .base (.dK (gh _ _ e))
  | opq _ => cases h
/-- what isinstance says -/
def isiB (n c : String) : Bool := n == c || (n == "bool" && c == "int")
theorem isi_kit : ∀ n ∈ ["NoneType", "bool", "int", "str", "list", "tuple", "dict"], ∀ c ∈ ["bool", "int", "str", "list", "tuple", "dict"], kitB n c = some (isiB n c) := by decide +kernel
def rIsiT' (K : PySem.W.Frag) : List V → Hp → VK → Prop := rIsi K
def wIsi (c : String) (w : WE) : WE := fun sl st R => w sl st fun x st1 => match x with
  | .v p => match tyName p with
    | some n => R (.v (.bl (isiB n c))) st1
    | none => False
  | .l k => (∃ ps, st1[k]? = some (.lst ps)) ∧ R (.v (.bl (isiB "list" c))) st1
  | _ => False
theorem tyName_mem {p : PV} {n : String} (h : tyName p = some n) : n ∈ ["NoneType", "bool", "int", "str", "list", "tuple", "dict"] := by
  cases p <;> cases h <;> simp
theorem se_isi {c : String} {te : TE} {w : WE} (hc : c ∈ ["bool", "int", "str", "list", "tuple", "dict"]) (h : SE K cl te w) : SE K cl (tCB (rIsi K) (tCons te (tCons (tC (.ty c)) tNil))) (wIsi c w) := by
  intro sl st R hw F G H σ al S Q q
  refine h sl st _ hw F G H σ al S _ fun v x st1 F1 G1 H1 h1 g1 S1 r1 => ?_
  dsimp only at h1
  split at h1
  · rename_i p
    split at h1
    · rename_i n e
      exact ⟨v, .ty c, .type n, .type c, isiB n c, rfl, .ty c, ty_of (S1.gf.trans S1.fh) r1 e, kit_ty (isi_kit n (tyName_mem e) c hc), q _ (.v (.bl _)) _ _ _ _ h1 g1 S1 (Rep.bl _)⟩
    · exact h1.elim
  · rename_i k
    obtain ⟨⟨ps, hk⟩, h1⟩ := h1
    obtain ⟨a, ha, rfl⟩ := r1
    obtain ⟨a', ha', f, vs, e, l⟩ := S1.cells k _ hk
    rw [ha] at ha'
    cases ha'
    exact ⟨.ref a, .ty c, .type "list", .type c, isiB "list" c, rfl, .ty c, .base (.lst e), kit_ty (isi_kit "list" (by simp) c hc), q _ (.v (.bl _)) _ _ _ _ h1 g1 S1 (Rep.bl _)⟩
  · exact h1.elim
/-! ### all -/
def wAll : WL := fun xs st R => match xs with
  | [x] => ∃ bs : List Bool, items x st = some (bs.map PV.bl) ∧ R (.v (.bl (bs.all id))) st
  | _ => False
theorem RepL.bls_inv : ∀ {bs : List Bool} {vs : List V}, RepL K cl G vs (bs.map PV.bl) → vs = bs.map V.bl
  | [], _, h => by cases h; rfl
  | n :: ns, _, h => by
    cases h with
    | cons a b =>
      cases a
      rw [RepL.bls_inv b]
      rfl
theorem sc_all : SC K cl (rAll K) wAll := by
  intro xs sl st R hw F G H σ al S vs rs Q q
  unfold wAll at hw
  split at hw
  · obtain ⟨bs, e, hw⟩ := hw
    obtain ⟨v, rfl, r⟩ := rs.one
    obtain ⟨a, us, rfl, h1, l⟩ := items_at S r e
    cases l.bls_inv
    exact ⟨a, bs, rfl, SqL.of h1, q.at hw S (.bl _)⟩
  · exact hw.elim
/-! ### in, of whole numbers or texts -/
def wInI (neg : Bool) : W2 := fun x y st R => match x with
  | .v (.int i) => ∃ ns : List Int, (y = .v (.tup (ns.map PV.int)) ∨ items y st = some (ns.map PV.int)) ∧ R (.v (.bl (if neg then !decide (i ∈ ns) else decide (i ∈ ns)))) st
  | .v (.str i) => ∃ ns : List Str, (y = .v (.tup (ns.map PV.str)) ∨ items y st = some (ns.map PV.str)) ∧ R (.v (.bl (if neg then !decide (i ∈ ns) else decide (i ∈ ns)))) st
  | _ => False
theorem inV_ints (i : Int) : ∀ ns : List Int, inV (.int i) (ns.map V.int) = decide (i ∈ ns)
  | [] => by simp [inV]
  | n :: ns => by
    have ih := inV_ints i ns
    unfold inV at ih ⊢
    rw [List.map_cons, List.any_cons, ih]
    show (n == i || decide (i ∈ ns)) = decide (i ∈ n :: ns)
    by_cases h : n = i
    · subst h; simp
    · have h' : ¬ i = n := fun e => h e.symm
      simp [h, h']
theorem inV_strs (i : Str) : ∀ ns : List Str, inV (.str i) (ns.map V.str) = decide (i ∈ ns)
  | [] => by simp [inV]
  | n :: ns => by
    have ih := inV_strs i ns
    unfold inV at ih ⊢
    rw [List.map_cons, List.any_cons, ih]
    show (n == i || decide (i ∈ ns)) = decide (i ∈ n :: ns)
    by_cases h : n = i
    · subst h; simp
    · have h' : ¬ i = n := fun e => h e.symm
      simp [h, h']
theorem flat_ints : ∀ ns : List Int, (ns.map V.int).all flatV = true
  | [] => rfl
  | _ :: ns => by rw [List.map_cons, List.all_cons, flat_ints ns]; rfl
theorem flat_strs : ∀ ns : List Str, (ns.map V.str).all flatV = true
  | [] => rfl
  | _ :: ns => by rw [List.map_cons, List.all_cons, flat_strs ns]; rfl
theorem sr_inI {neg : Bool} : SR K cl (rIn K neg) (wInI neg) := by
  intro x y sl st R hw F G H σ al S v u rv ru Q q
  unfold wInI at hw
  split at hw
  · rename_i i
    obtain ⟨ns, hy, hw⟩ := hw
    cases rv
    have : ∃ p xs, u = .ref p ∧ (SqL K H p xs ∨ SqT K H p xs) ∧ xs = ns.map V.int := by
      rcases hy with rfl | hy
      · cases ru with
        | @tup a us _ e l => exact ⟨a, us, rfl, .inr (sqT_mono (S.gf.trans S.fh) e), l.ints_inv⟩
      · obtain ⟨a, us, rfl, h1, l⟩ := items_at S ru hy
        exact ⟨a, us, rfl, .inl (SqL.of h1), l.ints_inv⟩
    obtain ⟨p, xs, rfl, hs, rfl⟩ := this
    refine ⟨p, _, rfl, hs, rfl, flat_ints ns, ?_⟩
    rw [inV_ints]
    exact q.at hw S (.bl _)
  · rename_i i
    obtain ⟨ns, hy, hw⟩ := hw
    cases rv
    have : ∃ p xs, u = .ref p ∧ (SqL K H p xs ∨ SqT K H p xs) ∧ xs = ns.map V.str := by
      rcases hy with rfl | hy
      · cases ru with
        | @tup a us _ e l => exact ⟨a, us, rfl, .inr (sqT_mono (S.gf.trans S.fh) e), l.strs_inv⟩
      · obtain ⟨a, us, rfl, h1, l⟩ := items_at S ru hy
        exact ⟨a, us, rfl, .inl (SqL.of h1), l.strs_inv⟩
    obtain ⟨p, xs, rfl, hs, rfl⟩ := this
    refine ⟨p, _, rfl, hs, rfl, flat_strs ns, ?_⟩
    rw [inV_strs]
    exact q.at hw S (.bl _)
  · exact hw.elim
end
section
variable {cl : Str → Option Addr} {K : PySem.W.Frag} {X : Cx} {pos p2 p3 : Pos} {a b c e o : Expr} {es : List Expr} {ta tb tc te to : TE} {wa wb wc w wo : WE} {A : TA} {WA' : WA} {x y : Str}
/-- isinstance(e, T) -/
theorem q_isi {T : String} (hI : X.mg "isinstance" = none) (hT : X.mg y = none) (hv : bootBuiltins y = some (.type T)) (hc : T ∈ ["bool", "int", "str", "list", "tuple", "dict"]) (h : QE cl K X e te w) (hg : Gl X "isinstance" := by rfl) (hg2 : Gl X y := by rfl) (hn : y ≠ "__name__" := by decide) (hd : (y == ("__debug__" : Str)) = false := by decide)
    (hs1 : starEach (e :: [.Name y p3]) X.env = (false, eval e X.env) :: starEach [.Name y p3] X.env := by rfl) (hs2 : starEach [.Name y p3] X.env = (false, eval (.Name y p3) X.env) :: starEach [] X.env := by rfl)
    (hpl : (backTo pos (starEach [.Name y p3] X.env)).any (·.1) = false := by rfl) :
    QE cl K X (.Call (.Name "isinstance" p2) [e, .Name y p3] [] pos) (tCB (rIsi K) (tCons te (tCons (tC (.ty T)) tNil))) (wIsi T w) := by
  obtain rfl := h.k
  exact ⟨rfl, pe_callB call_isi hg hI boot_isinstance (pa_cons h.pe (pa_cons (pe_bltn hg2 hT hv (show RelV (.ty T) (.type T) from rfl) hn hd) pa_nil hs2) hs1) (by decide) (by decide) hs1 hpl, se_isi hc h.se⟩
theorem t_chain {op op' : CmpOp} {r r' : R2} {w2 w2' : W2} (ho : OpR X (compareOp op) r) (hs : SR K cl r w2) (ho' : OpR X (compareOp op') r') (hs' : SR K cl r' w2') (ha : QE cl K X a ta wa) (hb : QE cl K X b tb wb) (hc : QE cl K X c tc wc)
    (hm : lastMarks [op, op'] [b, c] = false := by with_unfolding_all rfl) : QT cl K X (.Compare a [op, op'] [b, c] pos) (tTest (tChain r r' ta tb tc)) (wTest (wChain w2 w2' wa wb wc)) := by
  obtain rfl := ha.k
  exact ⟨rfl, pt_chain ho ho' ha.pe hb.pe hc.pe hm, st_test (se_chain hs hs' ha.se hb.se hc.se)⟩
end
section
variable {X : Cx} {K : PySem.W.Frag}
theorem op_eqK (hu : X.A.units + 64 < cLine) (hk : X.K = K := by rfl) : OpR X (compareOp .Eq) (rEqAny K) := by subst hk; exact op_eqAny hu
theorem op_neK (hu : X.A.units + 64 < cLine) (hk : X.K = K := by rfl) : OpR X (compareOp .NotEq) (rNeAny K) := by subst hk; exact op_neAny hu
theorem op_inK (hk : X.K = K := by rfl) : OpR X (compareOp .In) (rIn K false) := by subst hk; exact op_in_seq
theorem op_notinK (hk : X.K = K := by rfl) : OpR X (compareOp .NotIn) (rIn K true) := by subst hk; exact op_notIn_seq
theorem call_lenK (hk : X.K = K := by rfl) : CallR X (.builtin "len") (rLen K) := by subst hk; exact call_len'
theorem cr_sortedK (hc : X.calm = true) (hk : X.K = K := by rfl) : CallR X (.builtin "sorted") (rSorted K) := by subst hk; exact cr_sorted
theorem cr_allK (hc : X.calm = true) (hk : X.K = K := by rfl) : CallR X (.builtin "all") (rAll K) := by subst hk; exact cr_all hc
end
end VL

set_option Elab.async false
set_option linter.all false
set_option maxRecDepth 100000
set_option maxHeartbeats 2000000
/-! What the defs compute, in plain Lean: fractions, readings, widths. -/
namespace VL
open PySem L2

/-! ### fractions -/
abbrev Fr := Int × Int
@[reducible] def fr (x : Fr) : PV := .tup [.int x.1, .int x.2]
def mkF (a b : Int) : Fr := (a / (Int.gcd a b : Nat), b / (Int.gcd a b : Nat))
def lessF (x y : Fr) : Prop := x.1 * y.2 < y.1 * x.2
instance (x y : Fr) : Decidable (lessF x y) := by unfold lessF; infer_instance
/-- not too great for * -/
def FB (x : Fr) : Prop := -(2 ^ 62) < x.1 ∧ x.1 < 2 ^ 62 ∧ 0 < x.2 ∧ x.2 < 2 ^ 62
theorem gcd_pos {a b : Int} (hb : 0 < b) : 0 < (Int.gcd a b : Int) := by
  have : Int.gcd a b ≠ 0 := fun h => by
    have := (Int.gcd_eq_zero_iff.mp h).2
    omega
  omega
theorem gcd_le {a b : Int} (hb : 0 < b) : (Int.gcd a b : Int) ≤ b := Int.le_of_dvd hb (Int.gcd_dvd_right _ _)
theorem mkF_fb {a b : Int} (hb : 0 < b) (hb2 : b < 2 ^ 62) (ha : -(2 ^ 62) < a) (ha2 : a < 2 ^ 62) : FB (mkF a b) := by
  have g := gcd_pos (a := a) hb
  have d1 : (Int.gcd a b : Int) ∣ a := Int.gcd_dvd_left _ _
  have d2 : (Int.gcd a b : Int) ∣ b := Int.gcd_dvd_right _ _
  obtain ⟨c, hc⟩ := d1
  obtain ⟨e, he⟩ := d2
  unfold mkF FB
  have e1 : a / (Int.gcd a b : Int) = c := by
    conv => lhs; lhs; rw [hc]
    exact Int.mul_ediv_cancel_left _ (by omega)
  have e2 : b / (Int.gcd a b : Int) = e := by
    conv => lhs; lhs; rw [he]
    exact Int.mul_ediv_cancel_left _ (by omega)
  dsimp only
  rw [e1, e2]
  generalize (Int.gcd a b : Int) = k at *
  have h1 : c.natAbs ≤ a.natAbs := by
    rw [hc, Int.natAbs_mul]
    exact Nat.le_mul_of_pos_left _ (by omega)
  have h2 : 0 < e := by
    rw [he] at hb
    rcases Int.lt_trichotomy e 0 with h | h | h
    · have := Int.mul_neg_of_pos_of_neg g h; omega
    · rw [h] at hb; simp at hb
    · exact h
  have h3 : e ≤ b := by
    rw [he]
    have := Int.mul_le_mul_of_nonneg_right (show 1 ≤ k by omega) (show 0 ≤ e by omega)
    omega
  omega
theorem FB.lt1 {x : Fr} (h : FB x) : -(2 ^ 64) < x.1 ∧ x.1 < 2 ^ 64 := by unfold FB at h; omega
theorem FB.lt2 {x : Fr} (h : FB x) : -(2 ^ 64) < x.2 ∧ x.2 < 2 ^ 64 := by unfold FB at h; omega

def sp_made : VSp := fun ps R => ∃ a b : Int, ps = [.int a, .int b] ∧ 0 < b ∧ b < 1073741824 ∧ R (fr (mkF a b))
def sp_less : VSp := fun ps R => ∃ x y : Fr, ps = [fr x, fr y] ∧ FB x ∧ FB y ∧ R (.bl (decide (lessF x y)))

/-! ### lists of whole numbers -/
@[reducible] def ils (ns : List Int) : PV := .lst (ns.map PV.int)
def at0 (ns : List Int) (i : Nat) : Int := ns.getD i 0
theorem idx_int {ns : List Int} {i : Nat} (h : i < ns.length) : idx (ns.map PV.int) (i : Int) = some (.int (at0 ns i)) := by
  unfold idx at0
  rw [if_pos (by omega), Int.toNat_natCast, List.getElem?_map, List.getElem?_eq_getElem h]
  simp [List.getD, h]
theorem get_int {ns : List Int} {i : Nat} (h : i < ns.length) : (ns.map PV.int)[i]? = some (.int (at0 ns i)) := by
  unfold at0
  rw [List.getElem?_map, List.getElem?_eq_getElem h]
  simp [List.getD, h]
theorem at0_mem {ns : List Int} {i : Nat} (h : i < ns.length) : at0 ns i ∈ ns := by
  unfold at0
  simp [List.getD, h]
/-- times; numbers of a reading -/
def TOk (ts : List Int) : Prop := ts.length ≤ 27 ∧ ∀ x ∈ ts, 1 ≤ x ∧ x ≤ 9999
def ROk (rs : List Int) : Prop := ∀ x ∈ rs, 1 ≤ x ∧ x ≤ 7
theorem TOk.at {ts : List Int} {i : Nat} (h : TOk ts) (hi : i < ts.length) : 1 ≤ at0 ts i ∧ at0 ts i ≤ 9999 := h.2 _ (at0_mem hi)
theorem ROk.at {ts : List Int} {i : Nat} (h : ROk ts) (hi : i < ts.length) : 1 ≤ at0 ts i ∧ at0 ts i ≤ 7 := h _ (at0_mem hi)
def askTop (ts rs : List Int) (i j : Nat) : Int := at0 ts i * at0 rs j - at0 ts j * at0 rs i
def askF (ts rs : List Int) (i j : Nat) : Fr := mkF (askTop ts rs i j) (at0 ts i + at0 ts j)
theorem mulB {a b x y : Int} (ha : 1 ≤ a) (ha2 : a ≤ x) (hb : 1 ≤ b) (hb2 : b ≤ y) : 1 ≤ a * b ∧ a * b ≤ x * y := by
  have h1 := Int.mul_le_mul ha hb (by omega) (by omega)
  have h2 := Int.mul_le_mul ha2 hb2 (by omega) (by omega)
  omega
theorem askF_fb {ts rs : List Int} {i j : Nat} (ht : TOk ts) (hr : ROk rs) (hl : rs.length = ts.length) (hi : i < ts.length) (hj : j < ts.length) : FB (askF ts rs i j) := by
  have a1 := ht.at hi
  have a2 := ht.at hj
  have b1 := hr.at (i := i) (by omega)
  have b2 := hr.at (i := j) (by omega)
  have m1 := mulB a1.1 a1.2 b2.1 b2.2
  have m2 := mulB a2.1 a2.2 b1.1 b1.2
  unfold askF askTop
  refine mkF_fb (by omega) (by omega) (by omega) (by omega)
def sp_ask : VSp := fun ps R => ∃ (ts rs : List Int) (i j : Nat), ps = [ils ts, ils rs, .int i, .int j] ∧ TOk ts ∧ ROk rs ∧ rs.length = ts.length ∧ i < ts.length ∧ j < ts.length ∧ R (fr (askF ts rs i j))
/-- the greatest width that two times ask, the first pair that asks it -/
abbrev Wd := Fr × Nat × Nat
def wStep (ts rs : List Int) (i : Nat) (b : Wd) (j : Nat) : Wd := if lessF b.1 (askF ts rs i j) then (askF ts rs i j, i, j) else b
def wRow (ts rs : List Int) (b : Wd) (i : Nat) : Wd := (List.range ts.length).foldl (wStep ts rs i) b
def widthF (ts rs : List Int) : Wd := (List.range ts.length).foldl (wRow ts rs) ((0, 1), 0, 0)
@[reducible] def wdP (b : Wd) : PV := .tup [fr b.1, .tup [.int b.2.1, .int b.2.2]]
def sp_width : VSp := fun ps R => ∃ ts rs : List Int, ps = [ils ts, ils rs] ∧ TOk ts ∧ ROk rs ∧ rs.length = ts.length ∧ R (wdP (widthF ts rs))
theorem foldl_range_succ {α : Type} (f : α → Nat → α) (a : α) (n : Nat) : (List.range (n + 1)).foldl f a = f ((List.range n).foldl f a) n := by
  rw [List.range_succ, List.foldl_append]
  rfl
theorem wStep_fb {ts rs : List Int} {i j : Nat} {b : Wd} (ht : TOk ts) (hr : ROk rs) (hl : rs.length = ts.length) (hi : i < ts.length) (hj : j < ts.length) (hb : FB b.1) : FB (wStep ts rs i b j).1 := by
  unfold wStep
  split
  · exact askF_fb ht hr hl hi hj
  · exact hb
/-- .. by a reading that is a list or a tuple -/
@[reducible] def tls (ns : List Int) : PV := .tup (ns.map PV.int)
def sp_ask2 : VSp := fun ps R => ∃ (ts rs : List Int) (i j : Nat), (ps = [ils ts, ils rs, .int i, .int j] ∨ ps = [ils ts, tls rs, .int i, .int j]) ∧ TOk ts ∧ ROk rs ∧ rs.length = ts.length ∧ i < ts.length ∧ j < ts.length ∧ R (fr (askF ts rs i j))
def sp_width2 : VSp := fun ps R => ∃ ts rs : List Int, (ps = [ils ts, ils rs] ∨ ps = [ils ts, tls rs]) ∧ TOk ts ∧ ROk rs ∧ rs.length = ts.length ∧ R (wdP (widthF ts rs))
end VL

set_option Elab.async false
set_option linter.all false
set_option maxRecDepth 100000
set_option maxHeartbeats 2000000
/-! What the shared defs promise. -/
namespace VL
open PySem L2

theorem rngP_inv {lo : Int} {n i : Nat} {p : PV} (h : (rngP lo n)[i]? = some p) : i < n ∧ p = .int (lo + i) := by
  have hi : i < n := by
    have := (List.getElem?_eq_some_iff.mp h).1
    rw [rngP_len] at this
    exact this
  rw [rngP_get hi] at h
  exact ⟨hi, (Option.some.inj h).symm⟩
theorem rng0_inv {n i : Nat} {p : PV} (h : (rngP 0 n)[i]? = some p) : i < n ∧ p = .int i := by
  obtain ⟨h1, h2⟩ := rngP_inv h
  exact ⟨h1, by rw [h2, Int.zero_add]⟩
theorem ils_inv {ns : List Int} {i : Nat} {p : PV} (h : (ns.map PV.int)[i]? = some p) : i < ns.length ∧ p = .int (at0 ns i) := by
  have hi : i < ns.length := by
    have := (List.getElem?_eq_some_iff.mp h).1
    rw [List.length_map] at this
    exact this
  rw [get_int hi] at h
  exact ⟨hi, (Option.some.inj h).symm⟩

/-! ### readings -/
def kindsL (i : Nat) : List Int := if i % 2 = 1 then [1, 3, 7] else [1, 3]
def ValidAt (first : Nat) (rs : List Int) : Prop := ∀ i, i < rs.length → at0 rs i ∈ kindsL (first + i)
abbrev Valid (rs : List Int) : Prop := ValidAt 0 rs
theorem kinds_ok {i : Nat} {k : Int} (h : k ∈ kindsL i) : 1 ≤ k ∧ k ≤ 7 := by
  unfold kindsL at h
  split at h <;> simp at h <;> omega
theorem mem_at0 {ns : List Int} {x : Int} (h : x ∈ ns) : ∃ i, i < ns.length ∧ at0 ns i = x := by
  obtain ⟨i, hi, e⟩ := List.mem_iff_getElem.mp h
  exact ⟨i, hi, by unfold at0; simp [List.getD, hi, e]⟩
theorem ValidAt.rok {first : Nat} {rs : List Int} (h : ValidAt first rs) : ROk rs := fun x hx => by
  obtain ⟨i, hi, rfl⟩ := mem_at0 hx
  exact kinds_ok (h i hi)
theorem at0_append {ns : List Int} {x : Int} {i : Nat} : at0 (ns ++ [x]) i = if i < ns.length then at0 ns i else if i = ns.length then x else 0 := by
  unfold at0
  by_cases h : i < ns.length
  · rw [if_pos h]
    simp [List.getD, List.getElem?_append_left h]
  · rw [if_neg h]
    by_cases h2 : i = ns.length
    · rw [if_pos h2]; subst h2; simp [List.getD]
    · rw [if_neg h2]
      have : (ns ++ [x])[i]? = none := List.getElem?_eq_none (by simp; omega)
      simp [List.getD, this]
theorem ValidAt.snoc {first : Nat} {rs : List Int} {k : Int} (h : ValidAt first rs) (hk : k ∈ kindsL (first + rs.length)) : ValidAt first (rs ++ [k]) := fun i hi => by
  rw [at0_append]
  simp at hi
  by_cases h2 : i < rs.length
  · rw [if_pos h2]; exact h i h2
  · have e : i = rs.length := by omega
    subst e
    rw [if_neg h2, if_pos rfl]
    exact hk

@[reducible] def tapsP (ts : List Int) : PV := .ins "Taps" [("kept" : Str)] [ils ts]
def TapsOk (ts : List Int) : Prop := 1 ≤ ts.length ∧ ts.length ≤ 25 ∧ ts.length % 2 = 1 ∧ ∀ x ∈ ts, 1 ≤ x ∧ x ≤ 9999
theorem TapsOk.tok {ts : List Int} (h : TapsOk ts) : TOk ts := ⟨by have := h.2.1; omega, h.2.2.2⟩

def sp_kinds_at : VSp := fun ps R => ∃ i : Nat, ps = [.int i] ∧ R (.tup ((kindsL i).map PV.int))
def sp_need : VSp := fun ps R => ∃ ts rs : List Int, ps = [tapsP ts, ils rs] ∧ rs.length = ts.length ∧ rs.length ≤ 1000 ∧ Valid rs ∧ R .non
def sp_Taps : VSp := fun ps R => ∃ ts : List Int, ps = [ils ts] ∧ TapsOk ts ∧ R (tapsP ts)
def sp_times : VSp := fun ps R => ∃ ts : List Int, ps = [tapsP ts] ∧ R (ils ts)
def sp_least : VSp := fun ps R => ∃ ts rs : List Int, ps = [tapsP ts, ils rs] ∧ TOk ts ∧ rs.length = ts.length ∧ Valid rs ∧ R (wdP (widthF ts rs))

/-! ### the law's own -/
def sp_off : VSp := fun ps R => ∃ m : Int, ps = [.int m] ∧ 1 ≤ m ∧ m < 1073741824 ∧ ∀ r : Int, 0 ≤ r → r < m → R (.int r)
def sp_lkinds : VSp := fun ps R => ∃ i : Nat, ps = [.int i] ∧ R (ils (kindsL i))
def sp_lreading : VSp := fun ps R => ∃ n : Nat, ps = [.int n] ∧ n ≤ 1000 ∧ ∀ rs : List Int, rs.length = n → Valid rs → R (ils rs)
def sp_ltimes : VSp := fun ps R => ∃ m : Nat, ps = [.int m] ∧ m % 2 = 1 ∧ m ≤ 25 ∧ ∀ ts : List Int, TapsOk ts → ts.length ≤ m → R (ils ts)
/-- what alike says True of: a value and itself, not too deep -/
def alk : Nat → PV → Prop
  | _, .non => True
  | _, .bl _ => True
  | _, .int _ => True
  | _, .str _ => True
  | n + 1, .lst ps => ps.length ≤ 100000 ∧ ∀ p ∈ ps, alk n p
  | n + 1, .tup ps => ps.length ≤ 100000 ∧ ∀ p ∈ ps, alk n p
  | _, _ => False
def sp_alike (n : Nat) : VSp := fun ps R => ∃ p : PV, ps = [p, p] ∧ alk n p ∧ R (.bl true)
theorem alk_ils {n : Nat} {ns : List Int} (h : ns.length ≤ 100000) : alk (n + 1) (ils ns) := by
  refine ⟨by simpa using h, fun p hp => ?_⟩
  obtain ⟨k, _, rfl⟩ := List.mem_map.mp hp
  cases n <;> trivial
theorem dats_ils : ∀ ns : List Int, dats (ns.map PV.int) = true
  | [] => rfl
  | _ :: ns => by simp [dats, dat, dats_ils ns]
theorem dat_ils (ns : List Int) : dat (ils ns) = true := by simp [dat, dats_ils]
theorem depths_ils : ∀ ns : List Int, PyData.depthAll (toDs (ns.map PV.int)) ≤ 1
  | [] => by simp [toDs, PyData.depthAll]
  | n :: ns => by
    have := depths_ils ns
    simp only [List.map_cons, toDs, PyData.depthAll, toD, PyData.depth]
    omega
theorem dep_ils (ns : List Int) : dep (ils ns) := by
  unfold dep
  have := depths_ils ns
  simp only [toD, PyData.depth]
  omega
theorem ils_inj {ns ms : List Int} : ils ns = ils ms ↔ ns = ms := by
  constructor
  · intro h
    injection h with h
    induction ns generalizing ms with
    | nil => cases ms with
      | nil => rfl
      | cons m ms => simp at h
    | cons n ns ih => cases ms with
      | nil => simp at h
      | cons m ms =>
        simp only [List.map_cons, List.cons.injEq, PV.int.injEq] at h
        rw [h.1, ih h.2]
  · intro h; rw [h]
end VL

set_option Elab.async false
set_option linter.all false
set_option maxRecDepth 100000
set_option maxHeartbeats 2000000
/-! The value layer: loops and comprehensions over ranges and lists, in short. -/
namespace VL
open PySem L2
section
variable {n : Nat} {m lo hi : Int} {wg : WG} {b : WS} {D : PEnds} {sl : Sl} {st : Sto} {wt : WT} {we : WE} {vs : List Nat} {R : List PV → Sto → Prop}
/-- for i in range(m) -/
theorem forR (hm : m = (n : Int)) (hn : n ≤ 100000) (I : Nat → Sl → Sto → Prop) (h0 : I 0 sl st)
    (step : ∀ (i : Nat) sl st, i < n → I i sl st → wg (.v (.int i)) sl st fun sl2 st2 => b { D with nx := I (i + 1), ct := I (i + 1), bk := D.nx } sl2 st2) (done : ∀ sl st, I n sl st → D.nx sl st) :
    (-(2 ^ 62) ≤ m ∧ m < 2 ^ 62) ∧ ∃ I : Nat → Sl → Sto → Prop, I 0 sl st ∧
      (∀ i p sl st, (rngP 0 m.toNat)[i]? = some p → I i sl st → wg (.v p) sl st fun sl2 st2 => b { D with nx := I (i + 1), ct := I (i + 1), bk := D.nx } sl2 st2) ∧ ∀ sl st, I (rngP 0 m.toNat).length sl st → D.nx sl st := by
  subst hm
  rw [Int.toNat_natCast]
  refine ⟨⟨by omega, by omega⟩, I, h0, fun i p sl st hp h => ?_, fun sl st h => ?_⟩
  · obtain ⟨hi, rfl⟩ := rng0_inv hp
    exact step i sl st hi h
  · rw [rngP_len] at h
    exact done sl st h
/-- for i in range(lo, hi) -/
theorem forR2 {l : Nat} (hl : lo = (l : Int)) (hm : hi = (n : Int)) (hb : l ≤ 100000) (hn : n ≤ 100000) (I : Nat → Sl → Sto → Prop) (h0 : I l sl st)
    (step : ∀ (i : Nat) sl st, l ≤ i → i < n → I i sl st → wg (.v (.int i)) sl st fun sl2 st2 => b { D with nx := I (i + 1), ct := I (i + 1), bk := D.nx } sl2 st2) (done : ∀ sl st, I (max l n) sl st → D.nx sl st) :
    (-(2 ^ 62) ≤ lo ∧ lo < 2 ^ 62 ∧ -(2 ^ 62) ≤ hi ∧ hi < 2 ^ 62) ∧ ∃ I : Nat → Sl → Sto → Prop, I 0 sl st ∧
      (∀ i p sl st, (rngP lo (hi - lo).toNat)[i]? = some p → I i sl st → wg (.v p) sl st fun sl2 st2 => b { D with nx := I (i + 1), ct := I (i + 1), bk := D.nx } sl2 st2) ∧ ∀ sl st, I (rngP lo (hi - lo).toNat).length sl st → D.nx sl st := by
  subst hl hm
  refine ⟨⟨by omega, by omega, by omega, by omega⟩, fun i => I (l + i), h0, fun i p sl st hp h => ?_, fun sl st h => ?_⟩
  · obtain ⟨hi, rfl⟩ := rngP_inv hp
    have := step (l + i) sl st (by omega) (by omega) h
    rw [show (l : Int) + (i : Int) = ((l + i : Nat) : Int) by omega]
    exact this
  · rw [rngP_len] at h
    have e : l + ((n : Int) - (l : Int)).toNat = max l n := by omega
    try dsimp only at h
    rw [e] at h
    exact done sl st h
/-- for x in a list of whole numbers -/
theorem forI {ns : List Int} (I : Nat → Sl → Sto → Prop) (h0 : I 0 sl st)
    (step : ∀ (i : Nat) sl st, i < ns.length → I i sl st → wg (.v (.int (at0 ns i))) sl st fun sl2 st2 => b { D with nx := I (i + 1), ct := I (i + 1), bk := D.nx } sl2 st2) (done : ∀ sl st, I ns.length sl st → D.nx sl st) :
    ∃ I : Nat → Sl → Sto → Prop, I 0 sl st ∧
      (∀ i p sl st, (ns.map PV.int)[i]? = some p → I i sl st → wg (.v p) sl st fun sl2 st2 => b { D with nx := I (i + 1), ct := I (i + 1), bk := D.nx } sl2 st2) ∧ ∀ sl st, I (ns.map PV.int).length sl st → D.nx sl st := by
  refine ⟨I, h0, fun i p sl st hp h => ?_, fun sl st h => ?_⟩
  · obtain ⟨hi, rfl⟩ := ils_inv hp
    exact step i sl st hi h
  · rw [List.length_map] at h
    exact done sl st h
/-- [.. for i in range(m)] -/
theorem lcR (hm : m = (n : Int)) (hn : n ≤ 100000) (I : Nat → List PV → Sto → Prop) (h0 : I 0 [] st)
    (step : ∀ (i : Nat) acc st2, i < n → I i acc st2 → wg (.v (.int i)) (wipeS sl vs) st2 fun sl3 st3 => wt sl3 st3 fun b st4 =>
      if b = true then we sl3 st4 fun x st5 => match vals [x] st5 with
        | some ([q], st6) => I (i + 1) (acc ++ [q]) st6
        | _ => False
      else I (i + 1) acc st4) (done : ∀ acc st2, I n acc st2 → R acc st2) :
    (-(2 ^ 62) ≤ m ∧ m < 2 ^ 62) ∧ (rngP 0 m.toNat).length ≤ 100000 ∧ ∃ I : Nat → List PV → Sto → Prop, I 0 [] st ∧
      (∀ i acc p st2, (rngP 0 m.toNat)[i]? = some p → I i acc st2 → wg (.v p) (wipeS sl vs) st2 fun sl3 st3 => wt sl3 st3 fun b st4 =>
        if b = true then we sl3 st4 fun x st5 => match vals [x] st5 with
          | some ([q], st6) => I (i + 1) (acc ++ [q]) st6
          | _ => False
        else I (i + 1) acc st4) ∧ ∀ acc st2, I (rngP 0 m.toNat).length acc st2 → R acc st2 := by
  subst hm
  rw [Int.toNat_natCast, rngP_len]
  refine ⟨⟨by omega, by omega⟩, by omega, I, h0, fun i acc p st2 hp h => ?_, done⟩
  obtain ⟨hi, rfl⟩ := rng0_inv hp
  exact step i acc st2 hi h
/-- .. the target a name, no test -/
theorem lcRy {j : Nat} (hm : m = (n : Int)) (hn : n ≤ 100000) (I : Nat → List PV → Sto → Prop) (h0 : I 0 [] st)
    (step : ∀ (i : Nat) acc st2, i < n → I i acc st2 → we ((wipeS sl vs).set j (some (.v (.int i)))) st2 fun x st5 => match vals [x] st5 with
        | some ([q], st6) => I (i + 1) (acc ++ [q]) st6
        | _ => False) (done : ∀ acc st2, I n acc st2 → R acc st2) :
    (-(2 ^ 62) ≤ m ∧ m < 2 ^ 62) ∧ (rngP 0 m.toNat).length ≤ 100000 ∧ ∃ I : Nat → List PV → Sto → Prop, I 0 [] st ∧
      (∀ i acc p st2, (rngP 0 m.toNat)[i]? = some p → I i acc st2 → wName j (.v p) (wipeS sl vs) st2 fun sl3 st3 => wYes sl3 st3 fun b st4 =>
        if b = true then we sl3 st4 fun x st5 => match vals [x] st5 with
          | some ([q], st6) => I (i + 1) (acc ++ [q]) st6
          | _ => False
        else I (i + 1) acc st4) ∧ ∀ acc st2, I (rngP 0 m.toNat).length acc st2 → R acc st2 :=
  lcR hm hn I h0 (fun i acc st2 hi h => by
    have e := step i acc st2 hi h
    unfold wName wYes
    dsimp only
    rw [if_pos rfl]
    exact e) done
/-- [.. for x in a list of any] -/
theorem lcP {ps : List PV} (hn : ps.length ≤ 100000) (I : Nat → List PV → Sto → Prop) (h0 : I 0 [] st)
    (step : ∀ (i : Nat) acc p st2, ps[i]? = some p → I i acc st2 → wg (.v p) (wipeS sl vs) st2 fun sl3 st3 => wt sl3 st3 fun b st4 =>
      if b = true then we sl3 st4 fun x st5 => match vals [x] st5 with
        | some ([q], st6) => I (i + 1) (acc ++ [q]) st6
        | _ => False
      else I (i + 1) acc st4) (done : ∀ acc st2, I ps.length acc st2 → R acc st2) :
    ps.length ≤ 100000 ∧ ∃ I : Nat → List PV → Sto → Prop, I 0 [] st ∧
      (∀ i acc p st2, ps[i]? = some p → I i acc st2 → wg (.v p) (wipeS sl vs) st2 fun sl3 st3 => wt sl3 st3 fun b st4 =>
        if b = true then we sl3 st4 fun x st5 => match vals [x] st5 with
          | some ([q], st6) => I (i + 1) (acc ++ [q]) st6
          | _ => False
        else I (i + 1) acc st4) ∧ ∀ acc st2, I ps.length acc st2 → R acc st2 := ⟨hn, I, h0, step, done⟩
theorem lcPy {j : Nat} {ps : List PV} (hn : ps.length ≤ 100000) (I : Nat → List PV → Sto → Prop) (h0 : I 0 [] st)
    (step : ∀ (i : Nat) acc p st2, ps[i]? = some p → I i acc st2 → we ((wipeS sl vs).set j (some (.v p))) st2 fun x st5 => match vals [x] st5 with
        | some ([q], st6) => I (i + 1) (acc ++ [q]) st6
        | _ => False) (done : ∀ acc st2, I ps.length acc st2 → R acc st2) :
    ps.length ≤ 100000 ∧ ∃ I : Nat → List PV → Sto → Prop, I 0 [] st ∧
      (∀ i acc p st2, ps[i]? = some p → I i acc st2 → wName j (.v p) (wipeS sl vs) st2 fun sl3 st3 => wYes sl3 st3 fun b st4 =>
        if b = true then we sl3 st4 fun x st5 => match vals [x] st5 with
          | some ([q], st6) => I (i + 1) (acc ++ [q]) st6
          | _ => False
        else I (i + 1) acc st4) ∧ ∀ acc st2, I ps.length acc st2 → R acc st2 :=
  lcP hn I h0 (fun i acc p st2 hi h => by
    have e := step i acc p st2 hi h
    unfold wName wYes
    dsimp only
    rw [if_pos rfl]
    exact e) done
/-- [.. for x in a list of whole numbers] -/
theorem lcI {ns : List Int} (hn : ns.length ≤ 100000) (I : Nat → List PV → Sto → Prop) (h0 : I 0 [] st)
    (step : ∀ (i : Nat) acc st2, i < ns.length → I i acc st2 → wg (.v (.int (at0 ns i))) (wipeS sl vs) st2 fun sl3 st3 => wt sl3 st3 fun b st4 =>
      if b = true then we sl3 st4 fun x st5 => match vals [x] st5 with
        | some ([q], st6) => I (i + 1) (acc ++ [q]) st6
        | _ => False
      else I (i + 1) acc st4) (done : ∀ acc st2, I ns.length acc st2 → R acc st2) :
    (ns.map PV.int).length ≤ 100000 ∧ ∃ I : Nat → List PV → Sto → Prop, I 0 [] st ∧
      (∀ i acc p st2, (ns.map PV.int)[i]? = some p → I i acc st2 → wg (.v p) (wipeS sl vs) st2 fun sl3 st3 => wt sl3 st3 fun b st4 =>
        if b = true then we sl3 st4 fun x st5 => match vals [x] st5 with
          | some ([q], st6) => I (i + 1) (acc ++ [q]) st6
          | _ => False
        else I (i + 1) acc st4) ∧ ∀ acc st2, I (ns.map PV.int).length acc st2 → R acc st2 := by
  rw [List.length_map]
  refine ⟨hn, I, h0, fun i acc p st2 hp h => ?_, done⟩
  obtain ⟨hi, rfl⟩ := ils_inv hp
  exact step i acc st2 hi h
theorem lcIy {j : Nat} {ns : List Int} (hn : ns.length ≤ 100000) (I : Nat → List PV → Sto → Prop) (h0 : I 0 [] st)
    (step : ∀ (i : Nat) acc st2, i < ns.length → I i acc st2 → we ((wipeS sl vs).set j (some (.v (.int (at0 ns i))))) st2 fun x st5 => match vals [x] st5 with
        | some ([q], st6) => I (i + 1) (acc ++ [q]) st6
        | _ => False) (done : ∀ acc st2, I ns.length acc st2 → R acc st2) :
    (ns.map PV.int).length ≤ 100000 ∧ ∃ I : Nat → List PV → Sto → Prop, I 0 [] st ∧
      (∀ i acc p st2, (ns.map PV.int)[i]? = some p → I i acc st2 → wName j (.v p) (wipeS sl vs) st2 fun sl3 st3 => wYes sl3 st3 fun b st4 =>
        if b = true then we sl3 st4 fun x st5 => match vals [x] st5 with
          | some ([q], st6) => I (i + 1) (acc ++ [q]) st6
          | _ => False
        else I (i + 1) acc st4) ∧ ∀ acc st2, I (ns.map PV.int).length acc st2 → R acc st2 :=
  lcI hn I h0 (fun i acc st2 hi h => by
    have e := step i acc st2 hi h
    unfold wName wYes
    dsimp only
    rw [if_pos rfl]
    exact e) done
end
theorem enum_inv {ns : List Int} {i : Nat} {p : PV} (h : (enumP (ns.map PV.int))[i]? = some p) : i < ns.length ∧ p = .tup [.int i, .int (at0 ns i)] := by
  have hi : i < ns.length := by
    have := (List.getElem?_eq_some_iff.mp h).1
    rw [enumP_len, List.length_map] at this
    exact this
  refine ⟨hi, ?_⟩
  have e := get_int hi
  unfold enumP at h
  simp only [List.getElem?_map, List.getElem?_zipIdx] at h
  rw [List.getElem?_map] at e
  rw [e] at h
  simpa using h.symm
end VL

set_option Elab.async false
set_option linter.all false
set_option maxRecDepth 100000
set_option maxHeartbeats 2000000
/-! Small facts that the bodies' readings ask. -/
namespace VL
open PySem L2
theorem gcd_start (a b : Int) (hb : 0 < b) : (if a < 0 then -a else a).toNat.gcd b.toNat = Int.gcd a b := by
  unfold Int.gcd
  have h1 : (if a < 0 then -a else a).toNat = a.natAbs := by split <;> omega
  have h2 : b.toNat = b.natAbs := by omega
  rw [h1, h2]
theorem gcd_turn {x y : Int} (hx : 0 ≤ x) (h : 0 < y) : 0 ≤ x.fmod y ∧ (x.fmod y).toNat < y.toNat ∧ y.toNat.gcd (x.fmod y).toNat = x.toNat.gcd y.toNat := by
  rw [Int.fmod_eq_emod_of_nonneg _ (by omega)]
  have h1 := Int.emod_nonneg x (show y ≠ 0 by omega)
  have h2 := Int.emod_lt_of_pos x h
  refine ⟨h1, by omega, ?_⟩
  have e : (x % y).toNat = x.toNat % y.toNat := by
    have := Int.toNat_emod hx (show 0 ≤ y by omega)
    exact this
  rw [e, Nat.gcd_comm x.toNat, Nat.gcd_rec y.toNat x.toNat, Nat.gcd_comm]
theorem gcd_end {a b x y : Int} (hb : 0 < b) (hx : 0 ≤ x) (hy : 0 ≤ y) (h : ¬ 0 < y) (hg : x.toNat.gcd y.toNat = Int.gcd a b) : 0 < x ∧ x ≤ b ∧ a.fdiv x = a / (Int.gcd a b : Nat) ∧ b.fdiv x = b / (Int.gcd a b : Nat) := by
  have e : y = 0 := by omega
  subst e
  have e2 : x = (Int.gcd a b : Nat) := by
    rw [← hg]
    simp [Nat.gcd_zero_right]
    omega
  have p := gcd_pos (a := a) hb
  have q := gcd_le (a := a) hb
  rw [e2, Int.fdiv_eq_ediv_of_nonneg _ (by omega), Int.fdiv_eq_ediv_of_nonneg _ (by omega)]
  exact ⟨p, q, rfl, rfl⟩
theorem fb01 : FB ((0 : Int), (1 : Int)) := by unfold FB; omega
theorem fmod2 (i : Nat) : (i : Int).fmod 2 = ((i % 2 : Nat) : Int) := by rw [Int.fmod_eq_emod_of_nonneg _ (by decide)]; omega
theorem ixN_of {n k : Nat} (h : k < n) : ixN n (k : Int) = some k := by
  unfold ixN
  rw [if_pos (by omega), if_pos (by omega), Int.toNat_natCast]
theorem ixN_lit {n : Nat} {k : Int} (h0 : 0 ≤ k) (h : k < n) : ixN n k = some k.toNat := by
  unfold ixN
  rw [if_pos h0, if_pos h]
theorem map_erase (ds : List Int) (k : Nat) : (ds.map PV.int).eraseIdx k = (ds.eraseIdx k).map PV.int := by
  induction ds generalizing k with
  | nil => simp
  | cons d ds ih => cases k with
    | zero => simp
    | succ k => simp [ih]
theorem map_setI (ds : List Int) (k : Nat) (x : Int) : (ds.map PV.int).set k (.int x) = (ds.set k x).map PV.int := by
  rw [List.map_set]
theorem DiceOk.set {ds : List Int} {k : Nat} {x : Int} (h : DiceOk ds) (hx : 0 ≤ x) : DiceOk (ds.set k x) := by
  refine ⟨by simpa using h.1, by simpa using h.2.1, fun y hy => ?_⟩
  rcases List.mem_or_eq_of_mem_set hy with h1 | h1
  · exact h.2.2 y h1
  · rw [h1]; exact hx
theorem DiceOk.erase {ds : List Int} {k : Nat} (h : DiceOk ds) (h3 : 3 ≤ ds.length) : DiceOk (ds.eraseIdx k) := by
  refine ⟨?_, ?_, fun y hy => h.2.2 y (List.mem_of_mem_eraseIdx hy)⟩
  · rw [List.length_eraseIdx]; split <;> omega
  · have := h.2.1
    rw [List.length_eraseIdx]; split <;> omega
theorem DiceOk.at {ds : List Int} {k : Nat} (h : DiceOk ds) (hk : k < ds.length) : 0 ≤ at0 ds k := h.2.2 _ (at0_mem hk)
theorem fmodB {x m : Int} (hm : 1 ≤ m) : 0 ≤ x.fmod m ∧ x.fmod m < m := by
  rw [Int.fmod_eq_emod_of_nonneg _ (by omega)]
  exact ⟨Int.emod_nonneg _ (by omega), Int.emod_lt_of_pos _ (by omega)⟩
theorem fdiv0 {x m : Int} (hx : 0 ≤ x) (hm : 1 ≤ m) : 0 ≤ x.fdiv m := by
  rw [Int.fdiv_eq_ediv_of_nonneg _ (by omega)]
  exact Int.ediv_nonneg hx (by omega)
theorem all_snoc {α : Type} {P : α → Prop} {ts : List α} {y : α} (h : ∀ x ∈ ts, P x) (hy : P y) : ∀ x ∈ ts ++ [y], P x := fun x hx => by
  rcases List.mem_append.mp hx with q | q
  · exact h x q
  · rw [List.mem_singleton.mp q]; exact hy
theorem map_snoc (ts : List Int) (x : Int) : ts.map PV.int ++ [.int x] = (ts ++ [x]).map PV.int := by rw [List.map_append]; rfl
theorem maxB {v b : Int} (h : v ≤ b) (hb : 1 ≤ b) : 1 ≤ (if v > 1 then v else 1) ∧ (if v > 1 then v else 1) ≤ b := by split <;> omega
theorem pick {α : Type} {P : α → Prop} {xs : List α} {r : Int} (h0 : 0 ≤ r) (h1 : r < xs.length) (h : ∀ x ∈ xs, P x) : ∃ x, idx xs r = some x ∧ P x := by
  have hk : r.toNat < xs.length := by omega
  refine ⟨xs[r.toNat], ?_, h _ (List.getElem_mem hk)⟩
  unfold idx
  rw [if_pos h0, List.getElem?_eq_getElem hk]
theorem idx_get {α : Type} {ps : List α} {i : Nat} (h : i < ps.length) : idx ps (i : Int) = some ps[i] := by
  unfold idx
  rw [if_pos (by omega), Int.toNat_natCast, List.getElem?_eq_getElem h]
theorem alk_fr (n : Nat) (x : Fr) : alk (n + 1) (fr x) := by
  refine ⟨by simp, fun p hp => ?_⟩
  simp at hp
  rcases hp with rfl | rfl <;> cases n <;> trivial
theorem alk_wd (n : Nat) (b : Wd) : alk (n + 2) (wdP b) := by
  refine ⟨by simp, fun p hp => ?_⟩
  simp at hp
  rcases hp with rfl | rfl
  · exact alk_fr n _
  · refine ⟨by simp, fun p hp => ?_⟩
    simp at hp
    rcases hp with rfl | rfl <;> cases n <;> trivial
end VL

set_option Elab.async false
set_option linter.all false
set_option maxRecDepth 100000
set_option maxHeartbeats 2000000
/-! The value layer: an __init__, the dice's making, the law's row. -/
namespace VL
open PySem L2 PySem.Spec PyProof.Rows
section
variable {P : Program} {wd : World} {K : PySem.W.Frag} {mg : Str → Option Value} {base : Heap} {cl : Str → Option Addr}
theorem iteBT {b : Bool} {A B : Prop} (h : b = true) (k : A) : if b = true then A else B := by rw [if_pos h]; exact k
theorem iteBF {b : Bool} {A B : Prop} (h : b = false) (k : B) : if b = true then A else B := by rw [if_neg (by rw [h]; exact Bool.false_ne_true)]; exact k
/-- the fields of an instance under construction are stored at the end of its __init__: one field -/
theorem run_init1 {t : TS} {te : TE} {w : WS} {we : WE} {vsp : VSp} {C : Addr} {c f : Str} {N : List Str} {vs : List V} {H0 : Hp} {Q : VK} {E : XK} (hs : SS K cl t w) (he : SE K cl te we) (hC : cl c = some C) (hF : Cls K C ∧ NoAttr K C f) (hN : vs.length ≤ N.length)
    (h : toSpI K cl C vsp vs H0 Q E)
    (hw : ∀ (x : Addr) ps R, vsp ps R → w { nx := fun sl st => sl[0]? = some (some (.o (.ref x))) ∧ we sl st fun y st' => ∃ p, y = .v p ∧ R (.ins c [f] [p]), rt := fun _ _ => False } (some (.o (.ref x)) :: startS (N.length - 1) ps) []) :
    tSeq t (sFld K (tVar 0) te f) { nx := fun _ H' => Q .non H', rt := Q } (L2.start N vs) H0 := by
  obtain ⟨x, dx, us, H, G, ps, R, rfl, hx, hdx, ne, rfl, gh, r, hv, k⟩ := h
  have sH : Same H (upd (upd H dx (.own x)) x (.ins C dx [])) := fun b u e => by
    rw [upd_ne (ne_of_none e hx), upd_ne (ne_of_none e hdx)]
    exact e
  have gx : G x = none := gh.free hx
  have hN : us.length + 1 ≤ N.length := hN
  refine hs _ _ _ (hw x ps R hv) _ G _ (L2.start N (V.ref x :: us)) [] ⟨gh.trans sH, Same.refl _, fun i y e => ?_, ?_, fun k c h => (by simp at h), fun k j a h => (by simp at h), fun k a h => (by simp at h), rfl⟩ _ ⟨?_, ?_, ?_, ?_⟩
  · cases i with
    | zero =>
      have h' : some (some (W.o (.ref x))) = some (some y) := e
      cases h'
      exact ⟨.ref x, rfl, rfl⟩
    | succ i =>
      obtain ⟨v, hv, rv⟩ := slots_start (al := []) (i := i) r e
      refine ⟨v, ?_, rv⟩
      have e : N.length - (us.length + 1) = N.length - 1 - us.length := by omega
      show (us.map some ++ List.replicate (N.length - (us.length + 1)) none)[i]? = _
      rw [e]
      exact hv
  · unfold L2.start startS
    have := r.len
    simp only [List.length_append, List.length_map, List.length_cons, List.length_replicate, r.len]
    omega
  · intro σ' sl' st' F' G' H' al' hnx g S
    obtain ⟨hsl, hwe⟩ := hnx
    refine he _ _ _ hwe F' G' H' σ' al' S _ fun v y st2 F2 G2 H2 hy g2 S2 ry => ?_
    obtain ⟨p, rfl, hR⟩ := hy
    obtain ⟨u, hu, ru⟩ := S2.slots 0 _ hsl
    have ru' : u = V.ref x := ru
    subst ru'
    have gt := g.trans g2
    have h2x : H2 x = some (.ins C dx []) := S2.fh _ _ (gt.ff _ _ upd_same)
    refine ⟨.ref x, hu, x, C, dx, [], rfl, h2x, hF.1, hF.2, by decide, ?_⟩
    have g2x : G2 x = none := by
      cases e : G2 x with
      | none => rfl
      | some o =>
        rcases gt.new x o e with z | z | ⟨xs, z⟩
        · rw [gx] at z; cases z
        · rw [upd_same] at z; cases z
        · have := S2.fh _ _ (S2.gf _ _ e)
          rw [h2x, z] at this
          cases this
    refine k (.ins c [f] [p]) (upd G2 x (.ins C dx [(f, v)])) _ hR (fun b o e => ?_) (gt.gg.trans (same_new g2x)) (same_upd (S2.gf.trans S2.fh)) (fun b o e => ?_) (.ins hC (vs := [v]) upd_same rfl (.cons (Rep.mono (same_new g2x) _ _ ry) .nil))
    · rw [upd_ne (ne_of_none e hx)]
      exact S2.fh _ _ (gt.ff _ _ (sH _ _ e))
    · by_cases hb : b = x
      · subst hb; exact .inr (.inl hx)
      · rw [upd_ne hb] at e
        rcases gt.new b o e with z | z | z
        · exact .inl z
        · exact .inr (.inl (sH.free z))
        · exact .inr (.inr z)
  · intro _ _ _ _ _ _ _ h; exact h.elim
  · intro _ _ _ _ _ _ _ h; exact h.elim
  · intro _ _ _ _ _ _ _ _ _ h; exact h.elim
/-- the making of the dice -/
def spDice (K : PySem.W.Frag) : Sp := fun vs H Q _ => ∃ (a : Addr) (ns : List Int) (k : Int), vs = [.ref a, .int k] ∧ SqL K H a (ns.map V.int) ∧ ns.length ≤ 63 ∧ 0 ≤ k ∧ k < 1000 ∧
  ∀ p H', H p = none → Same H H' → DiceAt H' p → Q (.ref p) H'
def spLaw (K : PySem.W.Frag) : Sp := fun vs H Q _ => ∃ (a : Addr) (ns : List Int), vs = [.ref a] ∧ SqL K H a (ns.map V.int) ∧ ns.length ≤ 63 ∧ ∀ H', Q (.bl true) H'
theorem dice_len {ns ds : List Int} (h : ds.length ≤ ns.length) (h63 : ns.length ≤ 63) {f : Int} (hf : 0 ≤ f) (hd : ∀ x ∈ ds, 0 ≤ x) : DiceOk ([f, 0] ++ ds) := by
  refine ⟨by simp, by simp; omega, fun x hx => ?_⟩
  simp at hx
  rcases hx with rfl | rfl | hx
  · exact hf
  · omega
  · exact hd x hx
theorem pe_callF {X : Cx} {x : Str} {k : Nat} {sp : Sp} {e : Expr} {es : List Expr} {A : TA} {p2 pos : Pos} (F : Fn X.prog X.w X.K X.mg X.base x k sp) (hr : Room k X.A) (h : PA X (e :: es) A) (hg : Gl X x := by rfl) (hdb : (x == ("__debug__" : Str)) = false := by decide)
    (he : starEach (e :: es) X.env = (false, eval e X.env) :: starEach es X.env := by rfl) (hpl : (backTo pos (starEach es X.env)).any (·.1) = false := by rfl) : PE X (.Call (.Name x p2) (e :: es) [] pos) (tCall sp [] E0 A) := by
  obtain ⟨f, fd, ps, F1, hm, hk, hb⟩ := F.ex
  exact pe_call F1 hr hg hm hk hb .nil pass0 h hdb he hpl
/-- the law's body: its dice, then the rest by values -/
theorem run_law0 {X : Cx} {st0 : Stmt} {rest : List Stmt} {t : TS} {w : WS} {N : List Str} {vs : List V} {H : Hp} {Q : VK} {E : XK} (h0 : PS X st0 (tAsg (tCall (spDice K) [] E0 (tCons (tVar 0) (tCons (tC (.int 0)) tNil))) (gName 1))) (q : QSs cl K X rest t w) (hN : 2 ≤ N.length)
    (h : spLaw K vs H Q E) (hw : w { nx := fun _ _ => False, rt := fun p _ => p = .bl true } (none :: some (.l 0) :: List.replicate (N.length - 2) none) [.dice]) :
    ∃ t, PSs X (st0 :: rest) t ∧ t { nx := fun _ H' => Q .non H', rt := Q } (L2.start N vs) H := by
  obtain ⟨a, ns, rfl, hS, hlen, hQ⟩ := h
  refine ⟨_, pss_cons h0 q.pe, ?_⟩
  refine ⟨_, rfl, a, ns, 0, rfl, hS, hlen, by omega, by omega, fun p H' hp sH dice => ?_⟩
  refine run_law (d := p) (H0 := H) q.se sH hp dice ?_ (fun i x e => ?_) hQ hw
  · unfold L2.start
    simp
    omega
  · match i, e with
    | 0, e => simp at e
    | 1, e =>
      have e' : x = .l 0 := by simpa using e.symm
      refine ⟨e', ?_⟩
      unfold L2.start
      rw [List.getElem?_set_self]
      simp
      omega
    | i + 2, e =>
      exfalso
      simp [List.getElem?_replicate] at e
/-- an __init__ of one field, behind two statements -/
theorem run_init1' {X : Cx} {s1 s2 : Stmt} {t1 t2 : TS} {w1 w2 : WS} {te : TE} {we : WE} {vsp : VSp} {C : Addr} {c f x : Str} {e : Expr} {p1 p2 p3 : Pos} {N : List Str} {vs : List V} {H0 : Hp} {Q : VK} {E : XK}
    (h1 : QS cl K X s1 t1 w1) (h2 : QS cl K X s2 t2 w2) (h3 : QE cl K X e te we) (hN0 : X.N[0]? = some x) (hv : Vis X.env.scope x) (hs : swapsWith e (some (.Attribute (.Name x p1) f p2)) p3.line X.env = pure false) (hC : cl c = some C) (hF : Cls K C ∧ NoAttr K C f) (hN : vs.length ≤ N.length)
    (hd : (x == ("__debug__" : Str)) = false) (hcd : (x == ("__classdict__" : Str)) = false) (h : toSpI K cl C vsp vs H0 Q E)
    (hw : ∀ (y : Addr) ps R, vsp ps R → wSeq w1 w2 { nx := fun sl st => sl[0]? = some (some (.o (.ref y))) ∧ we sl st fun z st' => ∃ p, z = .v p ∧ R (.ins c [f] [p]), rt := fun _ _ => False } (some (.o (.ref y)) :: startS (N.length - 1) ps) []) :
    ∃ t, PSs X [s1, s2, .Assign [.Attribute (.Name x p1) f p2] e p3] t ∧ t { nx := fun _ H' => Q .non H', rt := Q } (L2.start N vs) H0 := by
  obtain rfl := h1.k
  exact ⟨_, pss_cons h1.pe (pss_cons h2.pe (pss_one (ps_fld (pe_var hN0 hv hd hcd) h3.pe hs))), run_init1 (ss_seq h1.se h2.se) h3.se hC hF hN h hw⟩
end
end VL

set_option Elab.async false
set_option linter.all false
set_option maxRecDepth 100000
set_option maxHeartbeats 2000000
/-! Mathematics: fractions as rationals; least widths; units. -/
namespace VL
open PySem L2

def val (x : Fr) : Rat := (x.1 : Rat) / (x.2 : Rat)
theorem castpos {n : Int} (h : 0 < n) : (0 : Rat) < (n : Rat) := by exact_mod_cast h
theorem div_lt_div_iff' {a b c d : Rat} (hb : 0 < b) (hd : 0 < d) : a / b < c / d ↔ a * d < c * b := by
  rw [Rat.div_lt_iff hb, Rat.div_def c d]
  have : c * d⁻¹ * b = (c * b) / d := by rw [Rat.div_def]; grind
  rw [this, Rat.lt_div_iff hd]
theorem lessF_iff {x y : Fr} (hx : 0 < x.2) (hy : 0 < y.2) : lessF x y ↔ val x < val y := by
  unfold lessF val
  rw [div_lt_div_iff' (castpos hx) (castpos hy)]
  constructor
  · intro h; exact_mod_cast h
  · intro h; exact_mod_cast h
/-- lowest terms -/
def Low (x : Fr) : Prop := 0 < x.2 ∧ Int.gcd x.1 x.2 = 1
theorem mkF_low {a b : Int} (hb : 0 < b) : Low (mkF a b) := by
  have g := gcd_pos (a := a) hb
  have gn : 0 < Int.gcd a b := by omega
  refine ⟨?_, ?_⟩
  · show 0 < b / (Int.gcd a b : Int)
    exact Int.ediv_pos_of_pos_of_dvd hb (by omega) (Int.gcd_dvd_right _ _)
  · show Int.gcd (a / (Int.gcd a b : Int)) (b / (Int.gcd a b : Int)) = 1
    exact Int.gcd_ediv_gcd_ediv_gcd gn
theorem val_mkF {a b : Int} (hb : 0 < b) : val (mkF a b) = (a : Rat) / (b : Rat) := by
  have g := gcd_pos (a := a) hb
  obtain ⟨c, hc⟩ := Int.gcd_dvd_left a b
  obtain ⟨e, he⟩ := Int.gcd_dvd_right a b
  have e1 : a / (Int.gcd a b : Int) = c := by
    conv => lhs; lhs; rw [hc]
    exact Int.mul_ediv_cancel_left _ (by omega)
  have e2 : b / (Int.gcd a b : Int) = e := by
    conv => lhs; lhs; rw [he]
    exact Int.mul_ediv_cancel_left _ (by omega)
  unfold val mkF
  dsimp only
  rw [e1, e2]
  have hep : 0 < e := by
    rw [← e2]
    exact Int.ediv_pos_of_pos_of_dvd hb (by omega) (Int.gcd_dvd_right _ _)
  have ha : (a : Rat) = ((Int.gcd a b : Int) : Rat) * (c : Rat) := by exact_mod_cast hc
  have hb' : (b : Rat) = ((Int.gcd a b : Int) : Rat) * (e : Rat) := by exact_mod_cast he
  rw [ha, hb']
  have hg : (0 : Rat) < ((Int.gcd a b : Int) : Rat) := castpos g
  have he' : (0 : Rat) < (e : Rat) := castpos hep
  generalize ((Int.gcd a b : Int) : Rat) = k at *
  grind
theorem dvd_cop {a b c : Int} (h : a ∣ b * c) (h2 : Int.gcd a b = 1) : a ∣ c := by
  have h' : a.natAbs ∣ b.natAbs * c.natAbs := by rw [← Int.natAbs_mul]; exact Int.natAbs_dvd_natAbs.mpr h
  exact Int.natAbs_dvd_natAbs.mp (Nat.Coprime.dvd_of_dvd_mul_left h2 h')
theorem rdiv_le {a b c : Rat} (h : 0 < b) : a / b ≤ c ↔ a ≤ c * b := by
  have := Rat.lt_div_iff (a := c) (b := a) (c := b) h
  grind
theorem low_inj {x y : Fr} (hx : Low x) (hy : Low y) (h : val x = val y) : x = y := by
  obtain ⟨x1, x2⟩ := x
  obtain ⟨y1, y2⟩ := y
  obtain ⟨hx0, hxg⟩ := hx
  obtain ⟨hy0, hyg⟩ := hy
  have hq : x1 * y2 = y1 * x2 := by
    have a1 := castpos hx0
    have a2 := castpos hy0
    unfold val at h
    have : ((x1 * y2 : Int) : Rat) = ((y1 * x2 : Int) : Rat) := by
      rw [Rat.intCast_mul, Rat.intCast_mul]
      dsimp only at *
      grind
    exact_mod_cast this
  dsimp only at *
  have d1 : x2 ∣ y2 := by
    have : x2 ∣ x1 * y2 := ⟨y1, by rw [hq, Int.mul_comm]⟩
    exact dvd_cop this (by rw [Int.gcd_comm]; exact hxg)
  have d2 : y2 ∣ x2 := by
    have : y2 ∣ y1 * x2 := ⟨x1, by rw [← hq, Int.mul_comm]⟩
    exact dvd_cop this (by rw [Int.gcd_comm]; exact hyg)
  have e : x2 = y2 := by
    have l1 := Int.le_of_dvd hy0 d1
    have l2 := Int.le_of_dvd hx0 d2
    omega
  subst e
  have : x1 = y1 := Int.eq_of_mul_eq_mul_right (by omega) hq
  rw [this]
theorem low01 : Low ((0 : Int), (1 : Int)) := ⟨by decide, by decide⟩
theorem val01 : val ((0 : Int), (1 : Int)) = 0 := by unfold val; grind
theorem askF_low {ts rs : List Int} {i j : Nat} (ht : TOk ts) (hi : i < ts.length) (hj : j < ts.length) : Low (askF ts rs i j) := mkF_low (by have := ht.at hi; have := ht.at hj; omega)
/-- what two times ask, as a rational -/
def ask (ts rs : List Int) (i j : Nat) : Rat := ((askTop ts rs i j : Int) : Rat) / ((at0 ts i + at0 ts j : Int) : Rat)
theorem val_ask {ts rs : List Int} {i j : Nat} (ht : TOk ts) (hi : i < ts.length) (hj : j < ts.length) : val (askF ts rs i j) = ask ts rs i j := val_mkF (by have := ht.at hi; have := ht.at hj; omega)
/-! ### the least width -/
theorem foldl_inv {α : Type} {f : α → Nat → α} {P : α → Prop} {a : α} {n : Nat} (h0 : P a) (hs : ∀ b i, i < n → P b → P (f b i)) : P ((List.range n).foldl f a) := by
  induction n with
  | zero => exact h0
  | succ n ih =>
    rw [foldl_range_succ]
    exact hs _ n (by omega) (ih fun b i hi => hs b i (by omega))
structure WInv (ts rs : List Int) (S : Nat → Nat → Prop) (b : Wd) : Prop where
  low : Low b.1
  nn : 0 ≤ val b.1
  ge : ∀ i j, S i j → ask ts rs i j ≤ val b.1
  is : b = ((0, 1), 0, 0) ∨ (S b.2.1 b.2.2 ∧ b.1 = askF ts rs b.2.1 b.2.2)
theorem width_inv {ts rs : List Int} (ht : TOk ts) : WInv ts rs (fun i j => i < ts.length ∧ j < ts.length) (widthF ts rs) := by
  have step : ∀ (S : Nat → Nat → Prop) b i j, i < ts.length → j < ts.length → WInv ts rs S b → WInv ts rs (fun a c => S a c ∨ (a = i ∧ c = j)) (wStep ts rs i b j) := by
    intro S b i j hi hj h
    have hl := askF_low (rs := rs) ht hi hj
    have hv := val_ask (rs := rs) ht hi hj
    unfold wStep
    by_cases c : lessF b.1 (askF ts rs i j)
    · rw [if_pos c]
      have c' := (lessF_iff h.low.1 hl.1).mp c
      refine ⟨hl, by have := h.nn; grind, fun a d hs => ?_, .inr ⟨.inr ⟨rfl, rfl⟩, rfl⟩⟩
      rcases hs with hs | ⟨rfl, rfl⟩
      · have := h.ge a d hs; grind
      · rw [hv]; exact Rat.le_refl
    · rw [if_neg c]
      have c' := mt (lessF_iff h.low.1 hl.1).mpr c
      refine ⟨h.low, h.nn, fun a d hs => ?_, ?_⟩
      · rcases hs with hs | ⟨rfl, rfl⟩
        · exact h.ge a d hs
        · grind
      · rcases h.is with e | ⟨e1, e2⟩
        · exact .inl e
        · exact .inr ⟨.inl e1, e2⟩
  have row : ∀ (S : Nat → Nat → Prop) b i, i < ts.length → WInv ts rs S b → WInv ts rs (fun a c => S a c ∨ (a = i ∧ c < ts.length)) (wRow ts rs b i) := by
    intro S b i hi h
    unfold wRow
    have aux : ∀ m, m ≤ ts.length → WInv ts rs (fun a c => S a c ∨ (a = i ∧ c < m)) ((List.range m).foldl (wStep ts rs i) b) := by
      intro m
      induction m with
      | zero =>
        intro _
        refine ⟨h.low, h.nn, fun a d hs => ?_, ?_⟩
        · rcases hs with hs | ⟨_, hs⟩
          · exact h.ge a d hs
          · omega
        · rcases h.is with e | ⟨e1, e2⟩
          · exact .inl e
          · exact .inr ⟨.inl e1, e2⟩
      | succ m ih =>
        intro hm
        rw [foldl_range_succ]
        have q := step _ _ i m hi (by omega) (ih (by omega))
        refine ⟨q.low, q.nn, fun a d hs => q.ge a d ?_, ?_⟩
        · rcases hs with hs | ⟨e, hs⟩
          · exact .inl (.inl hs)
          · by_cases hd : d = m
            · exact .inr ⟨e, hd⟩
            · exact .inl (.inr ⟨e, by omega⟩)
        · rcases q.is with e | ⟨e1, e2⟩
          · exact .inl e
          · refine .inr ⟨?_, e2⟩
            rcases e1 with (e1 | ⟨e1, e3⟩) | ⟨e1, e3⟩
            · exact .inl e1
            · exact .inr ⟨e1, by omega⟩
            · exact .inr ⟨e1, by omega⟩
    exact aux _ (Nat.le_refl _)
  have all : ∀ m, m ≤ ts.length → WInv ts rs (fun a c => a < m ∧ c < ts.length) ((List.range m).foldl (wRow ts rs) ((0, 1), 0, 0)) := by
    intro m
    induction m with
    | zero =>
      intro _
      exact ⟨low01, by show 0 ≤ val (0, 1); rw [val01]; exact Rat.le_refl, fun a d hs => by omega, .inl rfl⟩
    | succ m ih =>
      intro hm
      rw [foldl_range_succ]
      have q := row _ _ m (by omega) (ih (by omega))
      refine ⟨q.low, q.nn, fun a d hs => q.ge a d ?_, ?_⟩
      · by_cases ha : a = m
        · exact .inr ⟨ha, hs.2⟩
        · exact .inl ⟨by omega, hs.2⟩
      · rcases q.is with e | ⟨e1, e2⟩
        · exact .inl e
        · refine .inr ⟨?_, e2⟩
          rcases e1 with e1 | ⟨e1, e3⟩
          · exact ⟨by omega, e1.2⟩
          · exact ⟨by omega, e3⟩
  exact all _ (Nat.le_refl _)
/-- the least width, as a rational -/
def wv (ts rs : List Int) : Rat := val (widthF ts rs).1
theorem wv_le {ts rs : List Int} (ht : TOk ts) {w : Rat} (hw : 0 ≤ w) : wv ts rs ≤ w ↔ ∀ i j, i < ts.length → j < ts.length → ask ts rs i j ≤ w := by
  have h := width_inv (rs := rs) ht
  constructor
  · intro hle i j hi hj
    have := h.ge i j ⟨hi, hj⟩
    unfold wv at hle
    grind
  · intro hall
    rcases h.is with e | ⟨⟨e1, e2⟩, e3⟩
    · unfold wv
      rw [e]
      show val (0, 1) ≤ w
      rw [val01]
      exact hw
    · unfold wv
      rw [e3, val_ask ht e1 e2]
      exact hall _ _ e1 e2
theorem wv_nn {ts rs : List Int} (ht : TOk ts) : 0 ≤ wv ts rs := (width_inv ht).nn
/-- what two times ask is at most w: by whole numbers -/
theorem ask_le {ts rs : List Int} (ht : TOk ts) {w : Rat} {i j : Nat} (hi : i < ts.length) (hj : j < ts.length) :
    ask ts rs i j ≤ w ↔ (at0 ts i : Rat) * (at0 rs j : Rat) - (at0 ts j : Rat) * (at0 rs i : Rat) ≤ w * ((at0 ts i : Rat) + (at0 ts j : Rat)) := by
  have hp : (0 : Rat) < ((at0 ts i + at0 ts j : Int) : Rat) := castpos (by have := ht.at hi; have := ht.at hj; omega)
  unfold ask askTop
  rw [rdiv_le hp]
  have e1 : ((at0 ts i * at0 rs j - at0 ts j * at0 rs i : Int) : Rat) = (at0 ts i : Rat) * (at0 rs j : Rat) - (at0 ts j : Rat) * (at0 rs i : Rat) := by
    rw [Rat.intCast_sub, Rat.intCast_mul, Rat.intCast_mul]
  have e2 : ((at0 ts i + at0 ts j : Int) : Rat) = (at0 ts i : Rat) + (at0 ts j : Rat) := by rw [Rat.intCast_add]
  rw [e1, e2]
end VL

set_option Elab.async false
set_option linter.all false
set_option maxRecDepth 100000
set_option maxHeartbeats 2000000
/-! Mathematics: units by a width; what the width defs promise. -/
namespace VL
open PySem L2

theorem lessF_irr (x : Fr) : ¬ lessF x x := by unfold lessF; omega
theorem nless_val {x y : Fr} (hx : 0 < x.2) (hy : 0 < y.2) : ¬ lessF x y ↔ val y ≤ val x := by rw [lessF_iff hx hy]; grind
theorem val_raw (a b : Int) : val (a, b) = (a : Rat) / (b : Rat) := rfl
theorem lessF_mk {a b c d : Int} (hb : 0 < b) (hd : 0 < d) : lessF (mkF a b) (mkF c d) ↔ a * d < c * b := by
  rw [lessF_iff (mkF_low hb).1 (mkF_low hd).1, val_mkF hb, val_mkF hd, div_lt_div_iff' (castpos hb) (castpos hd)]
  constructor
  · intro h; exact_mod_cast h
  · intro h; exact_mod_cast h
theorem lessF_mkL {a b : Int} {u : Fr} (hb : 0 < b) (hu : 0 < u.2) : lessF (mkF a b) u ↔ a * u.2 < u.1 * b := by
  rw [lessF_iff (mkF_low hb).1 hu, val_mkF hb]
  unfold val
  rw [div_lt_div_iff' (castpos hb) (castpos hu)]
  constructor
  · intro h; exact_mod_cast h
  · intro h; exact_mod_cast h
theorem lessF_mkR {a b : Int} {u : Fr} (hb : 0 < b) (hu : 0 < u.2) : lessF u (mkF a b) ↔ u.1 * b < a * u.2 := by
  rw [lessF_iff hu (mkF_low hb).1, val_mkF hb]
  unfold val
  rw [div_lt_div_iff' (castpos hu) (castpos hb)]
  constructor
  · intro h; exact_mod_cast h
  · intro h; exact_mod_cast h
theorem low_mk {x : Fr} (h : Low x) : mkF x.1 x.2 = x := by
  obtain ⟨a, b⟩ := x
  have e : Int.gcd a b = 1 := h.2
  unfold mkF
  dsimp only
  rw [e]
  simp
/-- a width -/
def WOk (w : Fr) : Prop := 0 ≤ w.1 ∧ w.1 < w.2 ∧ w.2 < 134217728 ∧ mkF w.1 w.2 = w
theorem WOk.low {w : Fr} (h : WOk w) : Low w := by
  rw [← h.2.2.2]
  exact mkF_low (by have := h.1; have := h.2.1; omega)
theorem WOk.fb {w : Fr} (h : WOk w) : FB w := by
  obtain ⟨a, b, c, _⟩ := h
  unfold FB
  omega
theorem widthF_is {ts : List Int} (rs : List Int) (ht : TOk ts) : Low (widthF ts rs).1 ∧ 0 ≤ (widthF ts rs).1.1 ∧ ((widthF ts rs).1 = (0, 1) ∨ ∃ i j, i < ts.length ∧ j < ts.length ∧ (widthF ts rs).1 = askF ts rs i j) := by
  have h := width_inv (rs := rs) ht
  refine ⟨h.low, ?_, ?_⟩
  · have l := low01
    have : ¬ lessF (widthF ts rs).1 (0, 1) := by
      rw [nless_val h.low.1 l.1, val01]
      exact h.nn
    unfold lessF at this
    dsimp only at this
    omega
  · rcases h.is with e | ⟨⟨e1, e2⟩, e3⟩
    · rw [e]; exact .inl rfl
    · exact .inr ⟨_, _, e1, e2, e3⟩
theorem widthF_fb {ts rs : List Int} (ht : TOk ts) (hr : ROk rs) (hl : rs.length = ts.length) : FB (widthF ts rs).1 := by
  rcases (widthF_is rs ht).2.2 with e | ⟨i, j, hi, hj, e⟩
  · rw [e]; exact fb01
  · rw [e]; exact askF_fb ht hr hl hi hj
/-- the bottom of a least width -/
theorem mkF_bot {a b : Int} (hb : 0 < b) : (mkF a b).2 ≤ b := by
  have g := gcd_pos (a := a) hb
  show b / (Int.gcd a b : Int) ≤ b
  exact Int.ediv_le_self _ (by omega)
theorem widthF_bot {ts : List Int} (rs : List Int) (ht : TOk ts) : (widthF ts rs).1.2 ≤ 19998 := by
  rcases (widthF_is rs ht).2.2 with e | ⟨i, j, hi, hj, e⟩
  · rw [e]; decide
  · rw [e]
    have h1 := ht.at hi
    have h2 := ht.at hj
    have := mkF_bot (a := askTop ts rs i j) (b := at0 ts i + at0 ts j) (by omega)
    unfold askF
    omega
theorem width_less {ts : List Int} (rs : List Int) {w : Fr} (ht : TOk ts) (hw : 0 < w.2) (h0 : 0 ≤ w.1) : lessF w (widthF ts rs).1 ↔ ∃ i j, i < ts.length ∧ j < ts.length ∧ lessF w (askF ts rs i j) := by
  have h := width_inv (rs := rs) ht
  constructor
  · intro hl
    rcases h.is with e | ⟨⟨e1, e2⟩, e3⟩
    · rw [e] at hl
      unfold lessF at hl
      dsimp only at hl
      omega
    · exact ⟨_, _, e1, e2, by rw [← e3]; exact hl⟩
  · rintro ⟨i, j, hi, hj, hl⟩
    have a := h.ge i j ⟨hi, hj⟩
    rw [lessF_iff hw (askF_low ht hi hj).1, val_ask ht hi hj] at hl
    rw [lessF_iff hw h.low.1]
    grind
/-! ### units -/
def lowF (ts rs : List Int) (w : Fr) (i : Nat) : Fr := mkF (at0 ts i * w.2) (at0 rs i * w.2 + w.1)
def highF (ts rs : List Int) (w : Fr) (i : Nat) : Fr := mkF (at0 ts i * w.2) (at0 rs i * w.2 - w.1)
theorem rw_pos {r a b : Int} (hr : 1 ≤ r) (hr7 : r ≤ 7) (ha : 0 ≤ a) (hb : a < b) : 0 < r * b + a ∧ 0 < r * b - a ∧ r * b + a < 8 * b ∧ r * b - a ≤ 7 * b := by
  have h1 := Int.mul_le_mul_of_nonneg_right hr (show 0 ≤ b by omega)
  have h2 := Int.mul_le_mul_of_nonneg_right hr7 (show 0 ≤ b by omega)
  omega
structure Wx (ts rs : List Int) (w : Fr) : Prop where
  t : TOk ts
  r : ROk rs
  l : rs.length = ts.length
  w : WOk w
variable {ts rs : List Int} {w : Fr}
theorem Wx.pos (h : Wx ts rs w) {i : Nat} (hi : i < ts.length) : 0 < at0 rs i * w.2 + w.1 ∧ 0 < at0 rs i * w.2 - w.1 ∧ at0 rs i * w.2 + w.1 < 1073741824 ∧ at0 rs i * w.2 - w.1 < 1073741824 := by
  have a := h.r.at (i := i) (by rw [h.l]; exact hi)
  have b := rw_pos a.1 a.2 h.w.1 h.w.2.1
  have := h.w.2.2.1
  omega
theorem Wx.tb (h : Wx ts rs w) {i : Nat} (hi : i < ts.length) : 1 ≤ at0 ts i * w.2 ∧ at0 ts i * w.2 ≤ 9999 * 134217728 := by
  have a := h.t.at hi
  exact mulB a.1 a.2 (by have := h.w.1; have := h.w.2.1; omega) (by have := h.w.2.2.1; omega)
theorem Wx.lowL (h : Wx ts rs w) {i : Nat} (hi : i < ts.length) : Low (lowF ts rs w i) := mkF_low (h.pos hi).1
theorem Wx.highL (h : Wx ts rs w) {i : Nat} (hi : i < ts.length) : Low (highF ts rs w i) := mkF_low (h.pos hi).2.1
theorem Wx.lowB (h : Wx ts rs w) {i : Nat} (hi : i < ts.length) : FB (lowF ts rs w i) := by
  have a := h.pos hi
  have b := h.tb hi
  exact mkF_fb a.1 (by omega) (by omega) (by omega)
theorem Wx.highB (h : Wx ts rs w) {i : Nat} (hi : i < ts.length) : FB (highF ts rs w i) := by
  have a := h.pos hi
  have b := h.tb hi
  exact mkF_fb a.2.1 (by omega) (by omega) (by omega)
theorem Wx.bar (h : Wx ts rs w) {i j : Nat} (hi : i < ts.length) (hj : j < ts.length) : lessF (highF ts rs w j) (lowF ts rs w i) ↔ lessF w (askF ts rs i j) := by
  have hb : 0 < w.2 := h.w.low.1
  have t1 := h.t.at hi
  have t2 := h.t.at hj
  unfold highF lowF askF askTop
  rw [lessF_mk (h.pos hj).2.1 (h.pos hi).1, lessF_mkR (by omega) hb]
  generalize at0 ts i = p
  generalize at0 ts j = q
  generalize at0 rs i = r
  generalize at0 rs j = s
  generalize w.2 = b at hb
  generalize w.1 = a
  have e1 : q * b * (r * b + a) = b * (q * (r * b + a)) := by grind
  have e2 : p * b * (s * b - a) = b * (p * (s * b - a)) := by grind
  rw [e1, e2]
  constructor
  · intro x
    have := Int.lt_of_mul_lt_mul_left x (by omega)
    grind
  · intro x
    refine Int.mul_lt_mul_of_pos_left ?_ hb
    grind
def IsG (f : Nat → Fr) (n : Nat) (x : Fr) : Prop := (∃ j, j < n ∧ x = f j) ∧ ∀ j, j < n → ¬ lessF x (f j)
def IsL (f : Nat → Fr) (n : Nat) (x : Fr) : Prop := (∃ j, j < n ∧ x = f j) ∧ ∀ j, j < n → ¬ lessF (f j) x
theorem IsG.one {f : Nat → Fr} : IsG f 1 (f 0) := ⟨⟨0, by omega, rfl⟩, fun j hj => by
  have : j = 0 := by omega
  subst this
  exact lessF_irr _⟩
theorem IsL.one {f : Nat → Fr} : IsL f 1 (f 0) := ⟨⟨0, by omega, rfl⟩, fun j hj => by
  have : j = 0 := by omega
  subst this
  exact lessF_irr _⟩
theorem IsG.step {f : Nat → Fr} {n : Nat} {x : Fr} (h : IsG f n x) (hf : ∀ j, j < n + 1 → 0 < (f j).2) : IsG f (n + 1) (if lessF x (f n) then f n else x) := by
  obtain ⟨⟨k, hk, e⟩, h2⟩ := h
  have hx : 0 < x.2 := by rw [e]; exact hf k (by omega)
  split
  · rename_i c
    refine ⟨⟨n, by omega, rfl⟩, fun j hj => ?_⟩
    by_cases hjn : j < n
    · have := h2 j hjn
      rw [nless_val hx (hf j hj)] at this
      rw [lessF_iff hx (hf n (by omega))] at c
      rw [nless_val (hf n (by omega)) (hf j hj)]
      grind
    · have : j = n := by omega
      subst this
      exact lessF_irr _
  · rename_i c
    refine ⟨⟨k, by omega, e⟩, fun j hj => ?_⟩
    by_cases hjn : j < n
    · exact h2 j hjn
    · have : j = n := by omega
      subst this
      exact c
theorem IsL.step {f : Nat → Fr} {n : Nat} {x : Fr} (h : IsL f n x) (hf : ∀ j, j < n + 1 → 0 < (f j).2) : IsL f (n + 1) (if lessF (f n) x then f n else x) := by
  obtain ⟨⟨k, hk, e⟩, h2⟩ := h
  have hx : 0 < x.2 := by rw [e]; exact hf k (by omega)
  split
  · rename_i c
    refine ⟨⟨n, by omega, rfl⟩, fun j hj => ?_⟩
    by_cases hjn : j < n
    · have := h2 j hjn
      rw [nless_val (hf j hj) hx] at this
      rw [lessF_iff (hf n (by omega)) hx] at c
      rw [nless_val (hf j hj) (hf n (by omega))]
      grind
    · have : j = n := by omega
      subst this
      exact lessF_irr _
  · rename_i c
    refine ⟨⟨k, by omega, e⟩, fun j hj => ?_⟩
    by_cases hjn : j < n
    · exact h2 j hjn
    · have : j = n := by omega
      subst this
      exact c
theorem IsG.uniq {f : Nat → Fr} {n : Nat} {x y : Fr} (h : IsG f n x) (h' : IsG f n y) (hf : ∀ j, j < n → Low (f j)) : x = y := by
  obtain ⟨⟨k, hk, e⟩, h2⟩ := h
  obtain ⟨⟨k', hk', e'⟩, h2'⟩ := h'
  subst e e'
  have a := h2 k' hk'
  have b := h2' k hk
  rw [nless_val (hf _ hk).1 (hf _ hk').1] at a
  rw [nless_val (hf _ hk').1 (hf _ hk).1] at b
  exact low_inj (hf _ hk) (hf _ hk') (by grind)
theorem IsL.uniq {f : Nat → Fr} {n : Nat} {x y : Fr} (h : IsL f n x) (h' : IsL f n y) (hf : ∀ j, j < n → Low (f j)) : x = y := by
  obtain ⟨⟨k, hk, e⟩, h2⟩ := h
  obtain ⟨⟨k', hk', e'⟩, h2'⟩ := h'
  subst e e'
  have a := h2 k' hk'
  have b := h2' k hk
  rw [nless_val (hf _ hk').1 (hf _ hk).1] at a
  rw [nless_val (hf _ hk).1 (hf _ hk').1] at b
  exact low_inj (hf _ hk) (hf _ hk') (by grind)
/-- the units meet iff the width allows the reading -/
theorem Wx.meet (h : Wx ts rs w) {lo hi : Fr} (hlo : IsG (lowF ts rs w) ts.length lo) (hhi : IsL (highF ts rs w) ts.length hi) : lessF hi lo ↔ lessF w (widthF ts rs).1 := by
  rw [width_less rs h.t h.w.low.1 h.w.1]
  obtain ⟨⟨i, hi1, rfl⟩, hlo2⟩ := hlo
  obtain ⟨⟨j, hj1, rfl⟩, hhi2⟩ := hhi
  constructor
  · intro hl
    exact ⟨i, j, hi1, hj1, (h.bar hi1 hj1).mp hl⟩
  · rintro ⟨a, c, ha, hc, hl⟩
    have hl := (h.bar ha hc).mpr hl
    have a1 := hlo2 a ha
    have a2 := hhi2 c hc
    rw [lessF_iff (h.highL hc).1 (h.lowL ha).1] at hl
    rw [nless_val (h.lowL hi1).1 (h.lowL ha).1] at a1
    rw [nless_val (h.highL hc).1 (h.highL hj1).1] at a2
    rw [lessF_iff (h.highL hj1).1 (h.lowL hi1).1]
    grind
/-- a unit between fits all -/
def Fits (ts rs : List Int) (w u : Fr) : Prop := ∀ i, i < ts.length → ¬ lessF (highF ts rs w i) u ∧ ¬ lessF u (lowF ts rs w i)
theorem Wx.fits (h : Wx ts rs w) {lo hi : Fr} (hlo : IsG (lowF ts rs w) ts.length lo) (hhi : IsL (highF ts rs w) ts.length hi) (hn : ¬ lessF hi lo) : Fits ts rs w lo ∧ Fits ts rs w hi := by
  obtain ⟨⟨i, hi1, rfl⟩, hlo2⟩ := hlo
  obtain ⟨⟨j, hj1, rfl⟩, hhi2⟩ := hhi
  rw [nless_val (h.highL hj1).1 (h.lowL hi1).1] at hn
  constructor
  · intro k hk
    refine ⟨?_, hlo2 k hk⟩
    have := hhi2 k hk
    rw [nless_val (h.highL hk).1 (h.highL hj1).1] at this
    rw [nless_val (h.highL hk).1 (h.lowL hi1).1]
    grind
  · intro k hk
    refine ⟨hhi2 k hk, ?_⟩
    have := hlo2 k hk
    rw [nless_val (h.lowL hi1).1 (h.lowL hk).1] at this
    rw [nless_val (h.highL hj1).1 (h.lowL hk).1]
    grind
theorem IsG.low (h : Wx ts rs w) {lo : Fr} (hlo : IsG (lowF ts rs w) ts.length lo) : Low lo ∧ FB lo := by
  obtain ⟨⟨i, hi1, rfl⟩, _⟩ := hlo
  exact ⟨h.lowL hi1, h.lowB hi1⟩
theorem IsL.low (h : Wx ts rs w) {lo : Fr} (hlo : IsL (highF ts rs w) ts.length lo) : Low lo ∧ FB lo := by
  obtain ⟨⟨i, hi1, rfl⟩, _⟩ := hlo
  exact ⟨h.highL hi1, h.highB hi1⟩
/-- by the least width, if not 0, there is just one unit -/
theorem Wx.one (h : Wx ts rs w) (hw : w = (widthF ts rs).1) (h0 : 0 < w.1) {lo hi : Fr} (hlo : IsG (lowF ts rs w) ts.length lo) (hhi : IsL (highF ts rs w) ts.length hi) : lo = hi := by
  have m := h.meet hlo hhi
  have m' : ¬ lessF hi lo := fun x => by
    have := m.mp x
    rw [← hw] at this
    exact lessF_irr _ this
  rcases (widthF_is rs h.t).2.2 with e | ⟨i, j, hi1, hj1, e⟩
  · rw [← hw] at e
    rw [e] at h0
    exact absurd h0 (by decide)
  · rw [← hw] at e
    have b := h.bar hi1 hj1
    rw [← e] at b
    have n1 : ¬ lessF (highF ts rs w j) (lowF ts rs w i) := fun x => lessF_irr _ (b.mp x)
    have n2 : ¬ lessF (lowF ts rs w i) (highF ts rs w j) := by
      have hb : 0 < w.2 := h.w.low.1
      have t1 := h.t.at hi1
      have t2 := h.t.at hj1
      have q : w.1 * (at0 ts i + at0 ts j) = askTop ts rs i j * w.2 := by
        have p : ¬ lessF w (askF ts rs i j) := by rw [← e]; exact lessF_irr _
        have p' : ¬ lessF (askF ts rs i j) w := by rw [← e]; exact lessF_irr _
        unfold askF at p p'
        rw [lessF_mkR (by omega) hb] at p
        rw [lessF_mkL (by omega) hb] at p'
        omega
      unfold askTop at q
      unfold highF lowF
      rw [lessF_mk (h.pos hi1).1 (h.pos hj1).2.1]
      revert q
      generalize at0 ts i = p
      generalize at0 ts j = q
      generalize at0 rs i = r
      generalize at0 rs j = s
      generalize w.2 = b at hb
      generalize w.1 = a
      intro hq
      have e1 : p * b * (s * b - a) = b * (p * (s * b - a)) := by grind
      have e2 : q * b * (r * b + a) = b * (q * (r * b + a)) := by grind
      rw [e1, e2]
      intro x
      have := Int.lt_of_mul_lt_mul_left x (by omega)
      grind
    obtain ⟨⟨i', hi', rfl⟩, hlo2⟩ := hlo
    obtain ⟨⟨j', hj', rfl⟩, hhi2⟩ := hhi
    have a1 := hlo2 i hi1
    have a2 := hhi2 j hj1
    rw [nless_val (h.lowL hi').1 (h.lowL hi1).1] at a1
    rw [nless_val (h.highL hj1).1 (h.highL hj').1] at a2
    rw [nless_val (h.highL hj').1 (h.lowL hi').1] at m'
    rw [nless_val (h.lowL hi1).1 (h.highL hj1).1] at n2
    exact low_inj (h.lowL hi') (h.highL hj') (by grind)
end VL
namespace VL
theorem widthF_top {ts rs : List Int} (ht : TOk ts) (hr : ROk rs) (hl : rs.length = ts.length) : (widthF ts rs).1.1 ≤ 70000 := by
  rcases (widthF_is rs ht).2.2 with e | ⟨i, j, hi, hj, e⟩
  · rw [e]; decide
  · rw [e]
    have a1 := ht.at hi
    have a2 := ht.at hj
    have b1 := hr.at (i := i) (by omega)
    have b2 := hr.at (i := j) (by omega)
    have m1 := mulB a1.1 a1.2 b2.1 b2.2
    have m2 := mulB a2.1 a2.2 b1.1 b1.2
    have g := gcd_pos (a := askTop ts rs i j) (b := at0 ts i + at0 ts j) (by omega)
    show askTop ts rs i j / (Int.gcd (askTop ts rs i j) (at0 ts i + at0 ts j) : Int) ≤ 70000
    have ha : askTop ts rs i j ≤ 69993 := by unfold askTop; omega
    rcases Int.lt_or_le (askTop ts rs i j) 0 with h | h
    · have := Int.ediv_neg_of_neg_of_pos h g
      omega
    · have := Int.ediv_le_self (Int.gcd (askTop ts rs i j) (at0 ts i + at0 ts j) : Int) h
      omega
end VL

set_option Elab.async false
set_option linter.all false
set_option maxRecDepth 100000
set_option maxHeartbeats 2000000
/-! Promises: fractions of lists, widths, units, bars. -/
namespace VL
open PySem L2
theorem ciT {c A B : Prop} {d : Decidable c} (h : c) (k : A) : if @decide c d = true then A else B := by
  rw [@decide_eq_true c d h, if_pos rfl]; exact k
theorem ciF {c A B : Prop} {d : Decidable c} (h : ¬ c) (k : B) : if @decide c d = true then A else B := by
  rw [@decide_eq_false c d h, if_neg Bool.false_ne_true]; exact k
theorem ciNT {c A B : Prop} {d : Decidable c} (h : c) (k : B) : if (!@decide c d) = true then A else B := by
  rw [@decide_eq_true c d h, Bool.not_true, if_neg Bool.false_ne_true]; exact k
theorem ciNF {c A B : Prop} {d : Decidable c} (h : ¬ c) (k : A) : if (!@decide c d) = true then A else B := by
  rw [@decide_eq_false c d h, Bool.not_false, if_pos rfl]; exact k
/-! ### x is True -/
def wIsB (f : Bool → Bool) : W2 := fun x y st R => match x, y with
  | .v (.bl a), .v (.bl b) => R (.v (.bl (f (decide (a = b))))) st
  | _, _ => False
section
variable {K : PySem.W.Frag} {cl : Str → Option Addr}
theorem sr_isB : SR K cl rIsB (wIsB id) := by
  intro x y sl st R hw F G H σ al S v u rv ru Q q
  unfold wIsB at hw
  split at hw
  · cases rv; cases ru
    exact ⟨_, _, rfl, rfl, q.at hw S (.bl _)⟩
  · exact hw.elim
theorem sr_notB : SR K cl rNotB (wIsB not) := by
  intro x y sl st R hw F G H σ al S v u rv ru Q q
  unfold wIsB at hw
  split at hw
  · cases rv; cases ru
    exact ⟨_, _, rfl, rfl, q.at hw S (.bl _)⟩
  · exact hw.elim
end
section
variable {wg : WG} {b : WS} {D : PEnds} {sl : Sl} {st : Sto} {wt : WT} {we : WE} {vs : List Nat} {R : List PV → Sto → Prop} {α : Type} {f : α → PV}
/-- for x in a list of values of one kind -/
theorem forM {xs : List α} (I : Nat → Sl → Sto → Prop) (h0 : I 0 sl st)
    (step : ∀ (i : Nat) (x : α) sl st, xs[i]? = some x → I i sl st → wg (.v (f x)) sl st fun sl2 st2 => b { D with nx := I (i + 1), ct := I (i + 1), bk := D.nx } sl2 st2) (done : ∀ sl st, I xs.length sl st → D.nx sl st) :
    ∃ I : Nat → Sl → Sto → Prop, I 0 sl st ∧
      (∀ i p sl st, (xs.map f)[i]? = some p → I i sl st → wg (.v p) sl st fun sl2 st2 => b { D with nx := I (i + 1), ct := I (i + 1), bk := D.nx } sl2 st2) ∧ ∀ sl st, I (xs.map f).length sl st → D.nx sl st := by
  refine ⟨I, h0, fun i p sl st hp h => ?_, fun sl st h => ?_⟩
  · rw [List.getElem?_map] at hp
    cases e : xs[i]? with
    | none => rw [e] at hp; cases hp
    | some x =>
      rw [e] at hp
      cases hp
      exact step i x sl st e h
  · rw [List.length_map] at h
    exact done sl st h
/-- [.. for x in a list of values of one kind if ..] -/
theorem lcM {xs : List α} (hn : xs.length ≤ 100000) (I : Nat → List PV → Sto → Prop) (h0 : I 0 [] st)
    (step : ∀ (i : Nat) (x : α) acc st2, xs[i]? = some x → I i acc st2 → wg (.v (f x)) (wipeS sl vs) st2 fun sl3 st3 => wt sl3 st3 fun b st4 =>
      if b = true then we sl3 st4 fun x st5 => match vals [x] st5 with
        | some ([q], st6) => I (i + 1) (acc ++ [q]) st6
        | _ => False
      else I (i + 1) acc st4) (done : ∀ acc st2, I xs.length acc st2 → R acc st2) :
    (xs.map f).length ≤ 100000 ∧ ∃ I : Nat → List PV → Sto → Prop, I 0 [] st ∧
      (∀ i acc p st2, (xs.map f)[i]? = some p → I i acc st2 → wg (.v p) (wipeS sl vs) st2 fun sl3 st3 => wt sl3 st3 fun b st4 =>
        if b = true then we sl3 st4 fun x st5 => match vals [x] st5 with
          | some ([q], st6) => I (i + 1) (acc ++ [q]) st6
          | _ => False
        else I (i + 1) acc st4) ∧ ∀ acc st2, I (xs.map f).length acc st2 → R acc st2 := by
  refine ⟨by rw [List.length_map]; exact hn, I, h0, fun i acc p st2 hp h => ?_, fun acc st2 h => ?_⟩
  · rw [List.getElem?_map] at hp
    cases e : xs[i]? with
    | none => rw [e] at hp; cases hp
    | some x =>
      rw [e] at hp
      cases hp
      exact step i x acc st2 e h
  · rw [List.length_map] at h
    exact done acc st2 h
end
theorem dat_fr (x : Fr) : dat (fr x) = true := by simp [dat, dats]
theorem dep_fr (x : Fr) : dep (fr x) := by
  show PyData.depth (toD (fr x)) ≤ _
  simp only [toD, toDs, PyData.depth, PyData.depthAll]
  decide
def atF (xs : List Fr) (i : Nat) : Fr := xs.getD i (0, 1)
theorem atF_get {xs : List Fr} {i : Nat} {x : Fr} (h : xs[i]? = some x) : atF xs i = x := by unfold atF; simp [List.getD, h]
theorem atF_mem {xs : List Fr} {i : Nat} (h : i < xs.length) : atF xs i ∈ xs := by unfold atF; simp [List.getD, h]
theorem atF_map {f : Nat → Fr} {n i : Nat} (h : i < n) : atF ((List.range n).map f) i = f i := by
  unfold atF
  simp [List.getD, h]
theorem idx_fr {xs : List Fr} {i : Nat} (h : i < xs.length) : idx (xs.map fr) (i : Int) = some (fr (atF xs i)) := by
  unfold idx atF
  rw [if_pos (by omega), Int.toNat_natCast, List.getElem?_map, List.getElem?_eq_getElem h]
  simp [List.getD, h]
def sp_great : VSp := fun ps R => ∃ xs : List Fr, ps = [.lst (xs.map fr)] ∧ 0 < xs.length ∧ (∀ x ∈ xs, FB x) ∧ ∀ g, IsG (atF xs) xs.length g → R (fr g)
def sp_leastof : VSp := fun ps R => ∃ xs : List Fr, ps = [.lst (xs.map fr)] ∧ 0 < xs.length ∧ (∀ x ∈ xs, FB x) ∧ ∀ g, IsL (atF xs) xs.length g → R (fr g)
theorem FB.pos {x : Fr} (h : FB x) : 0 < x.2 := by unfold FB at h; omega
theorem IsG.fb {xs : List Fr} {n : Nat} {g : Fr} (h : IsG (atF xs) n g) (hn : n ≤ xs.length) (hx : ∀ x ∈ xs, FB x) : FB g := by
  obtain ⟨⟨j, hj, rfl⟩, _⟩ := h
  exact hx _ (atF_mem (by omega))
theorem IsL.fb {xs : List Fr} {n : Nat} {g : Fr} (h : IsL (atF xs) n g) (hn : n ≤ xs.length) (hx : ∀ x ∈ xs, FB x) : FB g := by
  obtain ⟨⟨j, hj, rfl⟩, _⟩ := h
  exact hx _ (atF_mem (by omega))
theorem IsG.cong {f g : Nat → Fr} {n : Nat} {x : Fr} (h : IsG f n x) (e : ∀ i, i < n → f i = g i) : IsG g n x := by
  obtain ⟨⟨j, hj, rfl⟩, h2⟩ := h
  exact ⟨⟨j, hj, e j hj⟩, fun k hk => by rw [← e k hk]; exact h2 k hk⟩
theorem IsL.cong {f g : Nat → Fr} {n : Nat} {x : Fr} (h : IsL f n x) (e : ∀ i, i < n → f i = g i) : IsL g n x := by
  obtain ⟨⟨j, hj, rfl⟩, h2⟩ := h
  exact ⟨⟨j, hj, e j hj⟩, fun k hk => by rw [← e k hk]; exact h2 k hk⟩
def sp_need_width : VSp := fun ps R => ∃ w : Fr, ps = [fr w] ∧ WOk w ∧ R .non
def sp_allowed : VSp := fun ps R => ∃ ts rs w, ps = [tapsP ts, ils rs, fr w] ∧ TOk ts ∧ rs.length = ts.length ∧ Valid rs ∧ WOk w ∧ R (.bl (!decide (lessF w (widthF ts rs).1)))
def UnitsR (ts rs : List Int) (w : Fr) (R : PV → Prop) : Prop := (lessF w (widthF ts rs).1 → R .non) ∧ (¬ lessF w (widthF ts rs).1 → ∀ lo hi, IsG (lowF ts rs w) ts.length lo → IsL (highF ts rs w) ts.length hi → R (.tup [fr lo, fr hi]))
def sp_units : VSp := fun ps R => ∃ ts rs w, ps = [tapsP ts, ils rs, fr w] ∧ 0 < ts.length ∧ TOk ts ∧ rs.length = ts.length ∧ Valid rs ∧ WOk w ∧ UnitsR ts rs w R
def sp_lunits : VSp := fun ps R => ∃ ts rs w, ps = [ils ts, ils rs, fr w] ∧ 0 < ts.length ∧ TOk ts ∧ rs.length = ts.length ∧ ROk rs ∧ WOk w ∧ UnitsR ts rs w R
/-- the first pair that bars -/
def Bars (ts rs : List Int) (w : Fr) (i j : Nat) : Prop := i < ts.length ∧ j < ts.length ∧ lessF w (askF ts rs i j)
def IsBar (ts rs : List Int) (w : Fr) (i j : Nat) : Prop := Bars ts rs w i j ∧ ∀ a c, (a < i ∨ a = i ∧ c < j) → ¬ Bars ts rs w a c
theorem IsBar.uniq {ts rs : List Int} {w : Fr} {i j a c : Nat} (h : IsBar ts rs w i j) (h' : IsBar ts rs w a c) : a = i ∧ c = j := by
  have h1 := h.2 a c
  have h2 := h'.2 i j
  have n1 : ¬ (a < i ∨ a = i ∧ c < j) := fun x => h1 x h'.1
  have n2 : ¬ (i < a ∨ i = a ∧ j < c) := fun x => h2 x h.1
  omega
def BarR (ts rs : List Int) (w : Fr) (R : PV → Prop) : Prop := (lessF w (widthF ts rs).1 → ∀ i j : Nat, IsBar ts rs w i j → R (.tup [.int i, .int j])) ∧ (¬ lessF w (widthF ts rs).1 → R .non)
def sp_barring : VSp := fun ps R => ∃ ts rs w, ps = [tapsP ts, ils rs, fr w] ∧ TOk ts ∧ rs.length = ts.length ∧ Valid rs ∧ WOk w ∧ BarR ts rs w R
def sp_lbar : VSp := fun ps R => ∃ ts rs w, ps = [ils ts, ils rs, fr w] ∧ TOk ts ∧ rs.length = ts.length ∧ ROk rs ∧ WOk w ∧ BarR ts rs w R
def sp_lfits : VSp := fun ps R => ∃ ts rs w u, ps = [ils ts, ils rs, fr w, fr u] ∧ Wx ts rs w ∧ FB u ∧ Fits ts rs w u ∧ R (.bl true)
def sp_some_width : VSp := fun ps R => ps = [] ∧ ∀ w, WOk w → R (fr w)
theorem wok_mk {a b : Int} (h0 : 0 ≤ a) (hab : a < b) (hb : b < 134217728) : WOk (mkF a b) := by
  have l := mkF_low (a := a) (b := b) (by omega)
  have g := gcd_pos (a := a) (b := b) (by omega)
  refine ⟨?_, ?_, ?_, low_mk l⟩
  · show 0 ≤ a / (Int.gcd a b : Int)
    exact Int.ediv_nonneg h0 (by omega)
  · have : lessF (mkF a b) (1, 1) := by
      rw [lessF_mkL (by omega) (by decide)]
      omega
    unfold lessF at this
    omega
  · have := mkF_bot (a := a) (b := b) (by omega)
    omega
theorem wok_less {x : Fr} (h : Low x) (h0 : 0 ≤ x.1) (hb : x.2 < 134217728) (hl : lessF x (1, 1)) : WOk x := by
  refine ⟨h0, ?_, hb, low_mk h⟩
  unfold lessF at hl
  dsimp only at hl
  omega
end VL
namespace VL
theorem test_isN {i : Nat} {p : PV} {f : Bool → Bool} {sl : Sl} {st : Sto} {R : Bool → Sto → Prop} (hs : sl[i]? = some (some (.v p))) (hp : p ≠ .non) : wTest (wOp (wIsN f) (wVar i) (wC .non)) sl st R = R (f false) st := by
  unfold wTest wOp wVar wC
  rw [hs]
  dsimp only
  unfold wIsN
  split
  · rename_i h1 h2
    cases h1
    exact (hp rfl).elim
  · rename_i h1
    cases h1
  · rfl
  · rename_i h1 h2 h3
    first | exact (h2 rfl).elim | exact (h1 rfl).elim | simp_all
end VL

set_option Elab.async false
set_option linter.all false
set_option maxRecDepth 100000
set_option maxHeartbeats 2000000
/-! Rules: < of lists, .remove by value. -/
namespace L2
open PySem PySem.Spec PyProof.Rows
section
variable {X : Cx}
def rLtD (K : PySem.W.Frag) : R2 := fun x y H Q => ∃ d e, Dp K H x d ∧ Dp K H y e ∧ PySem.W.alike d e = true ∧ d ≠ .none ∧ d.depth ≤ 64 ∧ Q (.bl (PySem.W.dataLt d e)) H
theorem op_ltD (hu : X.A.units + 64 < cLine) : OpR X (compareOp .Lt) (rLtD X.K) := by
  intro pins s σ H x y v u Q I rx ry h
  obtain ⟨d, e, hd, he, al, nn, dp, q⟩ := h
  obtain ⟨as, r1⟩ := Dp.reads I d x v hd rx
  obtain ⟨bs, r2⟩ := Dp.reads I e y u he ry
  have hm : min d.depth e.depth ≤ d.depth := Nat.min_le_left _ _
  exact PySem.W.rcLt_alike d e X.A s v u as bs r1 r2 al nn (by omega) X.prog X.w X.xe _ ⟨.bl _, H, I, rfl, q⟩
theorem op_ltDK {K : PySem.W.Frag} (hu : X.A.units + 64 < cLine) (hk : X.K = K := by rfl) : OpR X (compareOp .Lt) (rLtD K) := by subst hk; exact op_ltD hu
/-- l.remove(x): the first equal one -/
def rRemD (K : PySem.W.Frag) : V → List V → Hp → VK → Prop := fun x xs H Q => ∃ (a : Addr) (y : V) (d : PyData) (vs : List V) (ds : List PyData) (j : Nat) (z : PyData), x = V.ref a ∧ xs = [y] ∧ H a = some (.lst vs) ∧ DpAll K H vs ds ∧ Dp K H y d ∧
  SeqAt.shaped (.list ds) = true ∧ SeqAt.shaped d = true ∧ ds[j]? = some z ∧ PyData.eqv z d = true ∧ (∀ (m : Nat) (z' : PyData), m < j → ds[m]? = some z' → PyData.eqv z' d = false) ∧ Q .non (upd H a (.lst (vs.eraseIdx j)))
theorem mt_removeD (hu : X.A.units + 65 < cLine) : MtR X "list.remove" (rRemD X.K) := by
  intro pins s σ H x xs v us Q I rx rxs h
  obtain ⟨a, y, d, vs, ds, j, z, rfl, rfl, hH, ha, hy, sl, sd, hz, hzj, hno, q⟩ := h
  cases rx
  cases rxs with
  | cons ry rt =>
    rename_i uy ut
    cases rt
    obtain ⟨bs, r1⟩ := Dp.reads I d y uy hy ry
    have hxs : PyData.canLayAll0 ds = true := SeqAt.canLay_of_shaped sl
    have hroom : X.A.units + 1 + min (PyData.depthAll ds) d.depth < cLine := room_in_shaped sd hu
    obtain ⟨zl, its, n, rv, hlen, ho⟩ := I.lstM hH
    obtain ⟨as, h4⟩ := Dp.readsAll I ds _ its ha rv
    have hn : its.length = ds.length := SeqAt.ReadsAll.length ds its as h4
    have hmap : its.map (SeqAt.readOf s.heap) = ds := SeqAt.readsAll_map ds its as hxs h4
    obtain ⟨hjd, _⟩ := List.getElem?_eq_some_iff.mp hz
    have hjl : j < its.length := by omega
    have hj : j < its.toArray.size := by simpa using hjl
    have at_ : ∀ (m : Nat) (hm : m < its.toArray.size) (z' : PyData), ds[m]? = some z' → SeqAt.readOf s.heap its.toArray[m] = z' := by
      intro m hm z' hz'
      have hml : m < its.length := by simpa using hm
      rw [← hmap, List.getElem?_map, List.getElem?_eq_getElem hml] at hz'
      have e1 : SeqAt.readOf s.heap its[m] = z' := Option.some.inj (show some (SeqAt.readOf s.heap its[m]) = some z' from hz')
      simpa using e1
    refine call_meets PySem.F.slot_list_remove ⟨_, ho, rfl⟩ PySem.F.entry_list_remove (PySem.F.args_list_remove_2 _ _)
      (SeqAt.list_removeAt a its.toArray n none #[] uy (fun u => PyData.eqv (SeqAt.readOf s.heap u) d) j hj ?_ ?_ (by rw [List.size_toArray]; omega)) ⟨ho, SeqAt.items_eqAt (vs := its.toArray) (show ReadsAll s.heap its.toArray.toList ds as from h4) r1 hxs (SeqAt.canLay_of_shaped sd) hroom, ?_⟩
    · show PyData.eqv (SeqAt.readOf s.heap its.toArray[j]) d = true
      rw [at_ j hj z hz]
      exact hzj
    · intro m hm hmj
      have hmd : m < ds.length := by omega
      have hz' : ds[m]? = some ds[m] := List.getElem?_eq_getElem hmd
      show PyData.eqv (SeqAt.readOf s.heap its.toArray[m]) d = false
      rw [at_ m hm _ hz']
      exact hno m _ hmj hz'
    · have rr := rv.eraseIdx j
      refine ⟨.non, _, I.lset (its' := its.eraseIdx j) (t' := s.toks) hH ho ?_ rr ?_, rfl, q⟩
      · show its.toArray.eraseIdxIfInBounds j = (its.eraseIdx j).toArray
        rw [List.eraseIdxIfInBounds_toArray]
      · rw [List.length_eraseIdx]
        split <;> omega
theorem mt_removeDK {K : PySem.W.Frag} (hu : X.A.units + 65 < cLine) (hk : X.K = K := by rfl) : MtR X "list.remove" (rRemD K) := by subst hk; exact mt_removeD hu
theorem Room.units65 {k : Nat} {A : Around} (r : Room k A) : A.units + 65 < cLine := by have := r.un; omega
end
end L2
namespace VL
open PySem L2
section
variable {K : PySem.W.Frag} {cl : Str → Option Addr}
/-! ### < of lists of whole numbers -/
def lexB : List Int → List Int → Bool
  | [], [] => false
  | [], _ :: _ => true
  | _ :: _, [] => false
  | x :: xs, y :: ys => if x = y then lexB xs ys else decide (x < y)
theorem lex_toks : ∀ ns ms : List Int, PyProof.Rows.lexLt PyProof.Rows.itemOrd (PySem.W.keyToksAll (toDs (ns.map PV.int))) (PySem.W.keyToksAll (toDs (ms.map PV.int))) = lexB ns ms
  | [], [] => by simp [toDs, PySem.W.keyToksAll, lexB, PyProof.Rows.lex_irrefl]
  | [], m :: ms => by
    simp only [List.map_nil, List.map_cons, toDs]
    rw [PySem.W.toks_all_cons]
    simp only [PySem.W.keyToksAll]
    rw [PyProof.Rows.lex_diff (O := PyProof.Rows.itemOrd) (by simp)]
    simp [PyProof.Rows.itemLt, lexB]
  | n :: ns, [] => by
    simp only [List.map_nil, List.map_cons, toDs]
    rw [PySem.W.toks_all_cons]
    simp only [PySem.W.keyToksAll]
    rw [PyProof.Rows.lex_diff (O := PyProof.Rows.itemOrd) (by simp)]
    simp [PyProof.Rows.itemLt, lexB]
  | n :: ns, m :: ms => by
    simp only [List.map_cons, toDs, toD]
    have ih := lex_toks ns ms
    unfold lexB
    by_cases h : n = m
    · subst h
      rw [if_pos rfl, PySem.W.dataLt_all_yes (by simp [PySem.W.alike]) (by simp [PyData.eqv]), ih]
    · rw [if_neg h, PySem.W.dataLt_all_no (by simp [PySem.W.alike]) (by simpa [PyData.eqv] using h), PySem.W.dataLt_int]
theorem alike_ints : ∀ ns ms : List Int, PySem.W.alikeAll (toDs (ns.map PV.int)) (toDs (ms.map PV.int)) = true
  | [], _ => by simp [toDs, PySem.W.alikeAll]
  | _ :: _, [] => by simp [toDs, PySem.W.alikeAll]
  | n :: ns, m :: ms => by simp [toDs, toD, PySem.W.alikeAll, PySem.W.alike, alike_ints ns ms]
def wLtL : W2 := fun x y st R => ∃ ns ms, asV x st = some (ils ns) ∧ asV y st = some (ils ms) ∧ R (.v (.bl (lexB ns ms))) st
theorem sr_ltL : SR K cl (rLtD K) wLtL := by
  intro x y sl st R hw F G H σ al S v u rv ru Q q
  obtain ⟨ns, ms, e1, e2, hw⟩ := hw
  refine ⟨_, _, asV_dp S rv e1 (dat_ils _), asV_dp S ru e2 (dat_ils _), ?_, ?_, dep_ils ns, ?_⟩
  · simp only [toD, PySem.W.alike]
    exact alike_ints ns ms
  · simp [toD]
  · have : PySem.W.dataLt (toD (ils ns)) (toD (ils ms)) = lexB ns ms := by
      simp only [toD]
      rw [PySem.W.dataLt_list, lex_toks]
    rw [this]
    exact q.at hw S (.bl _)
/-! ### .remove by value -/
open Classical in
def mRem : LM := fun ps qs R => match qs with
  | [q] => ∃ j, (dats ps = true ∧ dat q = true ∧ dep (.lst ps) ∧ dep q) ∧ ps[j]? = some q ∧ (∀ m, m < j → ps[m]? ≠ some q) ∧ R .non (ps.eraseIdx j)
  | _ => False
theorem toDs_get : ∀ (ps : List PV) (j : Nat), (toDs ps)[j]? = ps[j]?.map toD
  | [], j => by simp [toDs]
  | p :: ps, 0 => by simp [toDs]
  | p :: ps, j + 1 => by simp [toDs, toDs_get ps j]
theorem dats_get : ∀ {ps : List PV} {j : Nat} {p : PV}, dats ps = true → ps[j]? = some p → dat p = true
  | p :: ps, 0, q, h, e => by
    cases e
    have : dat p = true ∧ dats ps = true := by simpa [dats] using h
    exact this.1
  | p :: ps, j + 1, q, h, e => by
    have : dat p = true ∧ dats ps = true := by simpa [dats] using h
    exact dats_get this.2 (by simpa using e)
theorem slm_remove : SLM K cl (rRemD K) mRem := by
  intro a vs us ps qs G H Q R gh lv lu e hm q
  unfold mRem at hm
  split at hm
  · rename_i p
    obtain ⟨j, ⟨d1, d2, s1, s2⟩, hj, hno, hR⟩ := hm
    cases lu with
    | cons l1 l2 =>
      cases l2
      refine ⟨a, _, toD p, vs, toDs ps, j, toD p, rfl, rfl, e, rep_dps gh ps vs d1 lv, rep_dp gh p _ d2 l1, ?_, shaped_of d2 s2, ?_, ?_, ?_, ?_⟩
      · have := shaped_of (p := .lst ps) (by simpa [dat] using d1) s1
        simpa [toD] using this
      · rw [toDs_get, hj]; rfl
      · rw [eqv_dec p p d2 d2]; simp
      · intro m z' hmj hz'
        rw [toDs_get] at hz'
        cases hp : ps[m]? with
        | none => rw [hp] at hz'; cases hz'
        | some p' =>
          rw [hp] at hz'
          cases hz'
          rw [eqv_dec p' p (dats_get d1 hp) d2]
          by_cases h : p' = p
          · exact (hno m hmj (by rw [hp, h])).elim
          · simp [h]
      · exact q _ _ _ _ hR .non (lv.eraseIdx _)
  · exact hm.elim
end
end VL

set_option Elab.async false
set_option linter.all false
set_option maxRecDepth 100000
set_option maxHeartbeats 2000000
/-! Mathematics: selection sort; all readings in order. -/
namespace VL
open PySem L2

section
variable {α : Type} {lt : α → α → Prop}
structure SelInv (lt : α → α → Prop) (orig done left : List α) : Prop where
  perm : (done ++ left).Perm orig
  sorted : done.Pairwise lt
  before : ∀ d ∈ done, ∀ x ∈ left, lt d x
theorem SelInv.start (orig : List α) : SelInv lt orig [] orig := ⟨.refl _, .nil, fun _ h => by cases h⟩
theorem SelInv.sub {orig done left : List α} (h : SelInv lt orig done left) {x : α} (hx : x ∈ left) : x ∈ orig := h.perm.mem_iff.mp (List.mem_append.mpr (.inr hx))
theorem SelInv.nodup {orig done left : List α} (h : SelInv lt orig done left) (hn : orig.Nodup) : left.Nodup := (List.nodup_append.mp (h.perm.nodup_iff.mpr hn)).2.1
theorem erase_perm : ∀ {l : List α} {i : Nat} {x : α}, l[i]? = some x → (x :: l.eraseIdx i).Perm l
  | [], i, x, h => by simp at h
  | y :: l, 0, x, h => by
    cases h
    simp
  | y :: l, i + 1, x, h => by
    have ih := erase_perm (l := l) (i := i) (x := x) (by simpa using h)
    rw [List.eraseIdx_cons_succ]
    exact (List.Perm.swap y x _).trans (ih.cons y)
theorem nodup_erase_ne {left : List α} {j : Nat} {m x : α} (hn : left.Nodup) (hj : left[j]? = some m) (hx : x ∈ left.eraseIdx j) : x ≠ m := by
  obtain ⟨hj1, hj2⟩ := List.getElem?_eq_some_iff.mp hj
  have this := (erase_perm hj).nodup_iff.mpr hn
  intro e
  subst e
  exact (List.nodup_cons.mp this).1 hx
theorem SelInv.step {orig done left : List α} (h : SelInv lt orig done left) (hn : orig.Nodup) (tot : ∀ x ∈ orig, ∀ y ∈ orig, x ≠ y → ¬ lt y x → lt x y) {j : Nat} {m : α} (hj : left[j]? = some m) (hm : ∀ x ∈ left, ¬ lt x m) :
    SelInv lt orig (done ++ [m]) (left.eraseIdx j) := by
  obtain ⟨hj1, hj2⟩ := List.getElem?_eq_some_iff.mp hj
  have hml : m ∈ left := by rw [← hj2]; exact List.getElem_mem hj1
  have nd := h.nodup hn
  refine ⟨?_, ?_, ?_⟩
  · refine List.Perm.trans ?_ h.perm
    rw [List.append_assoc]
    refine List.Perm.append_left done ?_
    exact erase_perm hj
  · rw [List.pairwise_append]
    refine ⟨h.sorted, List.pairwise_singleton _ _, fun a ha b hb => ?_⟩
    rw [List.mem_singleton.mp hb]
    exact h.before a ha m hml
  · intro d hd x hx
    have hxl : x ∈ left := List.mem_of_mem_eraseIdx hx
    rcases List.mem_append.mp hd with q | q
    · exact h.before d q x hxl
    · rw [List.mem_singleton.mp q]
      exact tot m (h.sub hml) x (h.sub hxl) (fun e => nodup_erase_ne nd hj hx e.symm) (hm x hxl)
theorem SelInv.done {orig done : List α} (h : SelInv lt orig done []) : done.Perm orig ∧ done.Pairwise lt := by
  have := h.perm
  rw [List.append_nil] at this
  exact ⟨this, h.sorted⟩
theorem first_place {left : List α} {m : α} (hm : m ∈ left) [DecidableEq α] : ∃ j : Nat, left[j]? = some m ∧ ∀ k, k < j → left[k]? ≠ some m := by
  induction left with
  | nil => cases hm
  | cons x xs ih =>
    by_cases h : x = m
    · exact ⟨0, by rw [h]; rfl, fun k hk => by omega⟩
    · rcases List.mem_cons.mp hm with e | e
      · exact (h e.symm).elim
      · obtain ⟨j, h1, h2⟩ := ih e
        refine ⟨j + 1, by simpa using h1, fun k hk => ?_⟩
        cases k with
        | zero => intro e; exact h (Option.some.inj e)
        | succ k => simpa using h2 k (by omega)
theorem sorted_uniq (irr : ∀ x, ¬ lt x x) (asym : ∀ x y, lt x y → ¬ lt y x) : ∀ L1 L2 : List α, L1.Pairwise lt → L2.Pairwise lt → (∀ x, x ∈ L1 ↔ x ∈ L2) → L1 = L2
  | [], [], _, _, _ => rfl
  | [], b :: l2, _, _, h => by have := (h b).mpr (List.mem_cons_self ..); cases this
  | a :: l1, [], _, _, h => by have := (h a).mp (List.mem_cons_self ..); cases this
  | a :: l1, b :: l2, h1, h2, h => by
    obtain ⟨p1, p2⟩ := List.pairwise_cons.mp h1
    obtain ⟨q1, q2⟩ := List.pairwise_cons.mp h2
    have e : a = b := by
      rcases List.mem_cons.mp ((h a).mp (List.mem_cons_self ..)) with e | e
      · exact e
      · rcases List.mem_cons.mp ((h b).mpr (List.mem_cons_self ..)) with e' | e'
        · exact e'.symm
        · exact (asym _ _ (p1 b e') (q1 a e)).elim
    subst e
    congr 1
    refine sorted_uniq irr asym l1 l2 p2 q2 fun x => ?_
    constructor
    · intro hx
      rcases List.mem_cons.mp ((h x).mp (List.mem_cons_of_mem _ hx)) with e | e
      · subst e; exact (irr _ (p1 _ hx)).elim
      · exact e
    · intro hx
      rcases List.mem_cons.mp ((h x).mpr (List.mem_cons_of_mem _ hx)) with e | e
      · subst e; exact (irr _ (q1 _ hx)).elim
      · exact e
end

/-! ### the order -/
theorem lexB_irr : ∀ a : List Int, lexB a a = false
  | [] => rfl
  | x :: xs => by unfold lexB; rw [if_pos rfl]; exact lexB_irr xs
theorem lexB_tot : ∀ a b : List Int, a ≠ b → lexB b a = false → lexB a b = true
  | [], [], h, _ => (h rfl).elim
  | [], _ :: _, _, _ => rfl
  | _ :: _, [], _, h => by simp [lexB] at h
  | x :: xs, y :: ys, h, h2 => by
    unfold lexB at h2 ⊢
    by_cases e : x = y
    · subst e
      rw [if_pos rfl] at h2 ⊢
      exact lexB_tot xs ys (fun e => h (by rw [e])) h2
    · rw [if_neg e]
      rw [if_neg (fun e' => e e'.symm)] at h2
      simp at h2 ⊢
      omega
theorem lexB_trans : ∀ a b c : List Int, lexB a b = true → lexB b c = true → lexB a c = true
  | [], [], _, h, _ => by simp [lexB] at h
  | [], _ :: _, [], _, h => by simp [lexB] at h
  | [], _ :: _, _ :: _, _, _ => rfl
  | _ :: _, [], _, h, _ => by simp [lexB] at h
  | _ :: _, _ :: _, [], _, h => by simp [lexB] at h
  | x :: xs, y :: ys, z :: zs, h1, h2 => by
    unfold lexB at h1 h2 ⊢
    by_cases e : x = y
    · subst e
      rw [if_pos rfl] at h1
      by_cases e2 : x = z
      · subst e2
        rw [if_pos rfl] at h2 ⊢
        exact lexB_trans xs ys zs h1 h2
      · rw [if_neg e2] at h2 ⊢
        exact h2
    · rw [if_neg e] at h1
      by_cases e2 : y = z
      · subst e2
        rw [if_neg e]
        exact h1
      · rw [if_neg e2] at h2
        simp at h1 h2
        rw [if_neg (by omega)]
        simp
        omega
def wd1 (ts rs : List Int) : Fr := (widthF ts rs).1
theorem wd1_low {ts : List Int} (rs : List Int) (ht : TOk ts) : Low (wd1 ts rs) := (widthF_is rs ht).1
def ahead (ts a b : List Int) : Prop := lessF (wd1 ts a) (wd1 ts b) ∨ (wd1 ts a = wd1 ts b ∧ lexB a b = true)
theorem ahead_irr (ts a : List Int) : ¬ ahead ts a a := by
  rintro (h | ⟨_, h⟩)
  · exact lessF_irr _ h
  · rw [lexB_irr] at h; cases h
theorem lessF_asym {x y : Fr} (h : lessF x y) : ¬ lessF y x := by unfold lessF at *; omega
theorem lessF_trans {x y z : Fr} (hx : Low x) (hy : Low y) (hz : Low z) (h1 : lessF x y) (h2 : lessF y z) : lessF x z := by
  rw [lessF_iff hx.1 hy.1] at h1
  rw [lessF_iff hy.1 hz.1] at h2
  rw [lessF_iff hx.1 hz.1]
  grind
theorem lessF_tot {x y : Fr} (hx : Low x) (hy : Low y) (hne : x ≠ y) (h : ¬ lessF y x) : lessF x y := by
  rw [lessF_iff hx.1 hy.1]
  rw [nless_val hy.1 hx.1] at h
  rcases Rat.le_iff_lt_or_eq.mp h with h | h
  · exact h
  · exact (hne (low_inj hx hy h)).elim
theorem ahead_trans {ts a b c : List Int} (ht : TOk ts) (h1 : ahead ts a b) (h2 : ahead ts b c) : ahead ts a c := by
  rcases h1 with h1 | ⟨e1, h1⟩
  · rcases h2 with h2 | ⟨e2, h2⟩
    · exact .inl (lessF_trans (wd1_low a ht) (wd1_low b ht) (wd1_low c ht) h1 h2)
    · rw [e2] at h1; exact .inl h1
  · rcases h2 with h2 | ⟨e2, h2⟩
    · rw [← e1] at h2; exact .inl h2
    · exact .inr ⟨e1.trans e2, lexB_trans _ _ _ h1 h2⟩
theorem ahead_asym {ts a b : List Int} (ht : TOk ts) (h1 : ahead ts a b) : ¬ ahead ts b a := fun h2 => ahead_irr _ _ (ahead_trans ht h1 h2)
theorem ahead_tot {ts a b : List Int} (ht : TOk ts) (hne : a ≠ b) (h : ¬ ahead ts b a) : ahead ts a b := by
  by_cases e : wd1 ts a = wd1 ts b
  · refine .inr ⟨e, lexB_tot a b hne ?_⟩
    cases q : lexB b a with
    | false => rfl
    | true => exact (h (.inr ⟨e.symm, q⟩)).elim
  · exact .inl (lessF_tot (wd1_low a ht) (wd1_low b ht) e fun q => h (.inl q))
def RdOk (first : Nat) (ts rs : List Int) : Prop := rs.length = ts.length ∧ ValidAt first rs ∧ lessF (wd1 ts rs) (1, 1)
def SortedAll (first : Nat) (ts : List Int) (L : List (List Int)) : Prop := L.Pairwise (ahead ts) ∧ ∀ rs, rs ∈ L ↔ RdOk first ts rs
theorem SortedAll.uniq {first : Nat} {ts : List Int} {L L' : List (List Int)} (ht : TOk ts) (h : SortedAll first ts L) (h' : SortedAll first ts L') : L = L' :=
  sorted_uniq (ahead_irr ts) (fun _ _ => ahead_asym ht) L L' h.1 h'.1 fun x => by rw [h.2, h'.2]
/-! ### all readings -/
def allRows (first : Nat) : Nat → List (List Int)
  | 0 => [[]]
  | n + 1 => (allRows first n).flatMap fun r => (kindsL (first + n)).map fun k => r ++ [k]
theorem ValidAt.init {first : Nat} {rs : List Int} {k : Int} (h : ValidAt first (rs ++ [k])) : ValidAt first rs ∧ k ∈ kindsL (first + rs.length) := by
  constructor
  · intro i hi
    have := h i (by simp; omega)
    rw [at0_append, if_pos hi] at this
    exact this
  · have := h rs.length (by simp)
    rw [at0_append, if_neg (by omega), if_pos rfl] at this
    exact this
theorem mem_allRows {first : Nat} : ∀ {n : Nat} {rs : List Int}, rs ∈ allRows first n ↔ rs.length = n ∧ ValidAt first rs
  | 0, rs => by
    unfold allRows
    rw [List.mem_singleton]
    constructor
    · rintro rfl; exact ⟨rfl, fun i hi => by simp at hi⟩
    · rintro ⟨h, _⟩; exact List.length_eq_zero_iff.mp h
  | n + 1, rs => by
    unfold allRows
    rw [List.mem_flatMap]
    constructor
    · rintro ⟨r, hr, hk⟩
      obtain ⟨k, hk', rfl⟩ := List.mem_map.mp hk
      obtain ⟨h1, h2⟩ := mem_allRows.mp hr
      exact ⟨by simp [h1], h2.snoc (by rw [h1]; exact hk')⟩
    · rintro ⟨h1, h2⟩
      rcases List.eq_nil_or_concat rs with e | ⟨r, k, e⟩
      · subst e; cases h1
      · rw [List.concat_eq_append] at e
        subst e
        have hl : r.length = n := by simpa using h1
        obtain ⟨v1, v2⟩ := h2.init
        exact ⟨r, mem_allRows.mpr ⟨hl, v1⟩, List.mem_map.mpr ⟨k, by rw [← hl]; exact v2, rfl⟩⟩
theorem kinds_nodup (i : Nat) : (kindsL i).Nodup := by unfold kindsL; split <;> decide
theorem kinds_len (i : Nat) : (kindsL i).length ≤ 3 := by unfold kindsL; split <;> decide
theorem allRows_nodup {first : Nat} : ∀ n, (allRows first n).Nodup
  | 0 => by unfold allRows; simp
  | n + 1 => by
    unfold allRows
    have ih := allRows_nodup (first := first) n
    unfold List.Nodup
    rw [List.pairwise_flatMap]
    refine ⟨fun r hr => ?_, ?_⟩
    · rw [List.pairwise_map]
      exact List.Pairwise.imp (fun h e => h (by simpa using e)) (kinds_nodup (first + n))
    · refine List.Pairwise.imp (fun h x hx y hy e => ?_) ih
      obtain ⟨k, _, rfl⟩ := List.mem_map.mp hx
      obtain ⟨k', _, rfl⟩ := List.mem_map.mp hy
      exact h (List.append_inj_left' e rfl)
theorem allRows_len {first : Nat} : ∀ n, (allRows first n).length ≤ 3 ^ n
  | 0 => by unfold allRows; simp
  | n + 1 => by
    unfold allRows
    have ih := allRows_len (first := first) n
    rw [List.length_flatMap]
    have : ∀ l : List (List Int), (l.map fun r => ((kindsL (first + n)).map fun k => r ++ [k]).length).sum ≤ 3 * l.length := by
      intro l
      induction l with
      | nil => simp
      | cons a l ih =>
        have := kinds_len (first + n)
        simp only [List.map_cons, List.sum_cons, List.length_map, List.length_cons] at ih ⊢
        omega
    have := this (allRows first n)
    rw [Nat.pow_succ]
    omega
/-- the reading of ones -/
def ones (n : Nat) : List Int := List.replicate n 1
theorem at0_ones {n i : Nat} (h : i < n) : at0 (ones n) i = 1 := by unfold at0 ones; simp [List.getD, h]
theorem ones_ok {first : Nat} {ts : List Int} (ht : TOk ts) : RdOk first ts (ones ts.length) := by
  refine ⟨by simp [ones], fun i hi => ?_, ?_⟩
  · rw [at0_ones (by simpa [ones] using hi)]
    unfold kindsL; split <;> simp
  · rcases (widthF_is (ones ts.length) ht).2.2 with e | ⟨i, j, hi, hj, e⟩
    · unfold wd1; rw [e]; decide
    · unfold wd1
      rw [e]
      unfold askF askTop
      have a := ht.at hi
      have b := ht.at hj
      rw [lessF_mkL (by omega) (by decide), at0_ones hi, at0_ones hj]
      dsimp only
      omega
theorem SortedAll.ne {first : Nat} {ts : List Int} {L : List (List Int)} (ht : TOk ts) (h : SortedAll first ts L) : ∃ r L', L = r :: L' := by
  have := (h.2 _).mpr (ones_ok (first := first) ht)
  cases L with
  | nil => cases this
  | cons r L' => exact ⟨r, L', rfl⟩
end VL

set_option Elab.async false
set_option linter.all false
set_option maxRecDepth 100000
set_option maxHeartbeats 2000000
/-! Promises: all readings, by trying. -/
namespace VL
open PySem L2
section
variable {wg : WG} {b : WS} {D : PEnds} {sl : Sl} {st : Sto} {α : Type} {f : α → PV}
/-- for x in one's own list -/
theorem forLM {xs : List α} {k : Nat} (I : Nat → Sl → Sto → Prop) (h0 : I 0 sl (st.set k (.lk (xs.map f)))) (keep : ∀ i sl st, I i sl st → st[k]? = some (.lk (xs.map f)))
    (step : ∀ (i : Nat) (x : α) sl st, xs[i]? = some x → I i sl st → wg (.v (f x)) sl st fun sl2 st2 => b { D with nx := I (i + 1), ct := I (i + 1), bk := fun sl st => st[k]? = some (.lk (xs.map f)) ∧ D.nx sl (st.set k (.lst (xs.map f))) } sl2 st2)
    (done : ∀ sl st, I xs.length sl st → D.nx sl (st.set k (.lst (xs.map f)))) :
    ∃ I : Nat → Sl → Sto → Prop, I 0 sl (st.set k (.lk (xs.map f))) ∧ (∀ i sl st, I i sl st → st[k]? = some (.lk (xs.map f))) ∧
      (∀ i p sl st, (xs.map f)[i]? = some p → I i sl st → wg (.v p) sl st fun sl2 st2 => b { D with nx := I (i + 1), ct := I (i + 1), bk := fun sl st => st[k]? = some (.lk (xs.map f)) ∧ D.nx sl (st.set k (.lst (xs.map f))) } sl2 st2) ∧ ∀ sl st, I (xs.map f).length sl st → D.nx sl (st.set k (.lst (xs.map f))) := by
  refine ⟨I, h0, keep, fun i p sl st hp h => ?_, fun sl st h => ?_⟩
  · rw [List.getElem?_map] at hp
    cases e : xs[i]? with
    | none => rw [e] at hp; cases hp
    | some x =>
      rw [e] at hp
      cases hp
      exact step i x sl st e h
  · rw [List.length_map] at h
    exact done sl st h
end
theorem erase_map {α β : Type} (f : α → β) : ∀ (l : List α) (j : Nat), (l.map f).eraseIdx j = (l.eraseIdx j).map f
  | [], j => by simp
  | a :: r, 0 => by simp
  | a :: r, j + 1 => by simp [erase_map f r j]
theorem idx_map {α : Type} {f : α → PV} {xs : List α} {i : Nat} {x : α} (h : xs[i]? = some x) : idx (xs.map f) (i : Int) = some (f x) := by
  unfold idx
  rw [if_pos (by omega), Int.toNat_natCast, List.getElem?_map, h]
  rfl
theorem dats_of : ∀ {ps : List PV}, (∀ p ∈ ps, dat p = true) → dats ps = true
  | [], _ => rfl
  | p :: ps, h => by
    simp only [dats, Bool.and_eq_true]
    exact ⟨h p (List.mem_cons_self ..), dats_of fun q hq => h q (List.mem_cons_of_mem _ hq)⟩
theorem depths_of {d : Nat} : ∀ {ps : List PV}, (∀ p ∈ ps, PyData.depth (toD p) ≤ d) → PyData.depthAll (toDs ps) ≤ d
  | [], _ => by simp [toDs, PyData.depthAll]
  | p :: ps, h => by
    have h1 := h p (List.mem_cons_self ..)
    have h2 := depths_of (ps := ps) fun q hq => h q (List.mem_cons_of_mem _ hq)
    simp only [toDs, PyData.depthAll]
    omega
theorem dep_lst {d : Nat} {ps : List PV} (hd : d < 60) (h : ∀ p ∈ ps, PyData.depth (toD p) ≤ d) : dep (.lst ps) := by
  unfold dep
  have := depths_of h
  simp only [toD, PyData.depth]
  omega
theorem dep_of {d : Nat} {p : PV} (hd : d < 60) (h : PyData.depth (toD p) ≤ d) : dep p := by unfold dep; omega
theorem dat_map {α : Type} {f : α → PV} (xs : List α) (h : ∀ x, dat (f x) = true) : dat (.lst (xs.map f)) = true := by
  simp only [dat]
  refine dats_of fun p hp => ?_
  obtain ⟨x, _, rfl⟩ := List.mem_map.mp hp
  exact h x
theorem dep_map {α : Type} {f : α → PV} {d : Nat} (hd : d < 60) (xs : List α) (h : ∀ x, PyData.depth (toD (f x)) ≤ d) : dep (.lst (xs.map f)) := by
  refine dep_lst hd fun p hp => ?_
  obtain ⟨x, _, rfl⟩ := List.mem_map.mp hp
  exact h x
theorem depth_ils (ns : List Int) : PyData.depth (toD (ils ns)) ≤ 2 := by
  have := depths_ils ns
  simp only [toD, PyData.depth]
  omega
theorem depth_fr (x : Fr) : PyData.depth (toD (fr x)) ≤ 2 := by
  simp only [toD, toDs, PyData.depth, PyData.depthAll]
  decide
@[reducible] def evP (ts rs : List Int) : PV := .tup [fr (wd1 ts rs), ils rs]
theorem dat_ev (ts rs : List Int) : dat (evP ts rs) = true := by
  have h1 := dat_fr (wd1 ts rs)
  have h2 := dat_ils rs
  unfold evP
  simp only [dat, dats, Bool.and_eq_true, Bool.and_true] at h1 h2 ⊢
  exact ⟨h1, h2⟩
theorem depth_ev (ts rs : List Int) : PyData.depth (toD (evP ts rs)) ≤ 3 := by
  have h1 := depth_fr (wd1 ts rs)
  have h2 := depth_ils rs
  unfold evP
  simp only [toD, toDs, PyData.depth, PyData.depthAll] at h1 h2 ⊢
  omega
theorem ev_inj {ts a b : List Int} (h : evP ts a = evP ts b) : a = b := by
  injection h with h
  injection h with _ h
  injection h with h _
  exact ils_inj.mp h
theorem dep_ev (ts rs : List Int) : dep (evP ts rs) := dep_of (d := 3) (by decide) (depth_ev ts rs)
def sp_levery : VSp := fun ps R => ∃ (first : Nat) (ts : List Int), ps = [.int first, ils ts] ∧ ts.length ≤ 8 ∧ TOk ts ∧ ∀ L, SortedAll first ts L → R (.lst (L.map (evP ts)))
theorem flat_len {α β : Type} {g : α → List β} {d : Nat} (hg : ∀ x, (g x).length ≤ d) : ∀ l : List α, (l.flatMap g).length ≤ d * l.length
  | [] => by simp
  | a :: l => by
    have := hg a
    have := flat_len hg l
    rw [List.flatMap_cons, List.length_append, List.length_cons, Nat.mul_succ]
    omega
theorem take_snoc {α : Type} {l : List α} {i : Nat} {x : α} (h : l[i]? = some x) : l.take (i + 1) = l.take i ++ [x] := by
  rw [List.take_succ, h]
  rfl
def grow (first i : Nat) (r : List Int) : List (List Int) := (kindsL (first + i)).map fun k => r ++ [k]
theorem grow_len (first i : Nat) (r : List Int) : (grow first i r).length ≤ 3 := by
  unfold grow
  rw [List.length_map]
  exact kinds_len _
theorem pow38 {n : Nat} (h : n ≤ 8) : 3 ^ n ≤ 6561 := by
  have := Nat.pow_le_pow_right (show 0 < 3 by decide) h
  exact this
def okRows (first : Nat) (ts : List Int) : List (List Int) := (allRows first ts.length).filter fun r => decide (lessF (wd1 ts r) (1, 1))
theorem mem_okRows {first : Nat} {ts rs : List Int} : rs ∈ okRows first ts ↔ RdOk first ts rs := by
  unfold okRows RdOk
  rw [List.mem_filter, mem_allRows, decide_eq_true_iff, and_assoc]
theorem okRows_nodup (first : Nat) (ts : List Int) : (okRows first ts).Nodup := (allRows_nodup _).sublist List.filter_sublist
theorem cutP_to {α : Type} {f : α → PV} (ns : List α) (k : Nat) : cutP (ns.map f) none (some (k : Int)) = (ns.take k).map f := by
  unfold cutP
  rw [HT.sIx_none, HT.sIx_nat, List.drop_zero, Nat.sub_zero, List.length_map, ← List.map_take]
  congr 1
  rcases Nat.le_total k ns.length with h | h
  · rw [Nat.min_eq_left h]
  · rw [Nat.min_eq_right h, List.take_length, List.take_of_length_le h]
theorem cutP_from {α : Type} {f : α → PV} (ns : List α) (k : Nat) : cutP (ns.map f) (some (k : Int)) none = (ns.drop k).map f := by
  unfold cutP
  rw [HT.sIx_none, HT.sIx_nat, List.length_map]
  rcases Nat.le_total k ns.length with h | h
  · rw [Nat.min_eq_left h, List.take_of_length_le (by rw [List.length_drop, List.length_map]; omega), ← List.map_drop]
  · rw [Nat.min_eq_right h, Nat.sub_self, List.take_zero, List.drop_of_length_le h]
    rfl
theorem at0_app {a b : List Int} {i : Nat} : at0 (a ++ b) i = if i < a.length then at0 a i else at0 b (i - a.length) := by
  unfold at0
  by_cases h : i < a.length
  · rw [if_pos h]
    simp [List.getD, List.getElem?_append_left h]
  · rw [if_neg h]
    simp [List.getD, List.getElem?_append_right (by omega : a.length ≤ i)]
theorem at0_drop {a : List Int} {k i : Nat} : at0 (a.drop k) i = at0 a (k + i) := by
  unfold at0
  simp [List.getD]
theorem valid_patch {first : Nat} {a rs : List Int} (ha : ValidAt first a) (hr : ValidAt first rs) (hl : a.length ≤ rs.length) : ValidAt first (a ++ rs.drop a.length) ∧ (a ++ rs.drop a.length).length = rs.length := by
  constructor
  · intro i hi
    rw [at0_app]
    split
    · rename_i h
      exact ha i h
    · rename_i h
      rw [at0_drop]
      have e : a.length + (i - a.length) = i := by omega
      rw [e]
      refine hr i ?_
      rw [List.length_append, List.length_drop] at hi
      omega
  · rw [List.length_append, List.length_drop]
    omega
theorem TOk.take {ts : List Int} (h : TOk ts) (k : Nat) : TOk (ts.take k) := ⟨by have := h.1; rw [List.length_take]; omega, fun x hx => h.2 x (List.mem_of_mem_take hx)⟩
theorem TOk.drop {ts : List Int} (h : TOk ts) (k : Nat) : TOk (ts.drop k) := ⟨by have := h.1; rw [List.length_drop]; omega, fun x hx => h.2 x (List.mem_of_mem_drop hx)⟩
end VL

set_option Elab.async false
set_option linter.all false
set_option maxRecDepth 100000
set_option maxHeartbeats 2000000
/-! Rules: lists of instances: != [], .remove by identity. -/
namespace HN
open PySem PySem.Spec PyProof.Rows PySem.SeqAt
section
variable {M : Model} {prog : Program} {w : World} {A : Around} {E : Value → Shared → Prop} {s : Shared} {K : PySem.W.Frag} {x y C : Addr} {ox oy : Obj} {od od' : Option Obj}
theorem isSame_two {o1 o2 : Obj} (hne : x ≠ y) (e1 : s.heap.get? x = some o1) (n1 : o1.cls ≠ .type "tuple") (e2 : s.heap.get? y = some o2) {R : Bool → Shared → Prop} (h : R false s) : wpAny M A (isSame (.ref x) (.ref y)) R E s :=
  wpAny_isSame_ref_other hne e1 e2 n1 h
theorem entry_two {o1 o2 : Obj} (hne : x ≠ y) (e1 : s.heap.get? x = some o1) (n1 : o1.cls ≠ .type "tuple") (e2 : s.heap.get? y = some o2) {Q : Fin → Shared → Prop} (hq : Q (.done (.ret .notImplemented)) s) : wpAny M A (Builtin.«object.__eq__» ⟨[.ref x, .ref y], []⟩) Q E s := by
  unfold Builtin.«object.__eq__»
  repeat (first | with_reducible refine isSame_two hne e1 n1 e2 ?_ | wp_step)
  exact hq
theorem call_objEq2 {o1 o2 : Obj} (hne : x ≠ y) (e1 : s.heap.get? x = some o1) (n1 : o1.cls ≠ .type "tuple") (e2 : s.heap.get? y = some o2) {Q : Value → Shared → Prop} (X : K.In s.heap) (I : PySem.W.InstAt s.heap x ox C od) (hm : PySem.W.mroIn K C (.type "object") = some true) (hq : Q .notImplemented s) :
    wpAny (model prog w) A (call (.builtin "object.__eq__") [.ref x, .ref y]) Q E s :=
  wpAny_call (codeAny_call_builtin F.cmp_object.eq.plain F.cmpEntry_eq (PySem.W.check_slot F.cmpKind_eq F.cmpSplit_eq (I.type.andThen (PySem.W.looks_mroIn X hm)) (F.cmpArgs_eq _ _) (entry_two hne e1 n1 e2 hq)))
theorem try_two {o1 o2 : Obj} (hne : x ≠ y) (e1 : s.heap.get? x = some o1) (n1 : o1.cls ≠ .type "tuple") (e2 : s.heap.get? y = some o2) (X : K.In s.heap) (I : PySem.W.InstAt s.heap x ox C od) (hm : PySem.W.mroIn K C (.type "object") = some true) (hs : PySem.W.findIn K (.ref C) "__eq__" = some (some (.builtin "object.__eq__"))) :
    wpAny (model prog w) A (tryCompare (.ref x) "__eq__" (.ref y)) (fun r s' => r = none ∧ s' = s) E s := by
  unfold tryCompare
  exact wpAny_bind (ifBound_objEq X I hs (call_objEq2 hne e1 n1 e2 X I hm (wpAny_pure ⟨rfl, rfl⟩)))
theorem rc_two {o1 o2 : Obj} (hne : x ≠ y) (e1 : s.heap.get? x = some o1) (n1 : o1.cls ≠ .type "tuple") (e2 : s.heap.get? y = some o2) (n2 : o2.cls ≠ .type "tuple") (hu : A.units < cLine) (X : K.In s.heap) (I : PySem.W.InstAt s.heap x ox C od) (J : PySem.W.InstAt s.heap y oy C od') (hm : PySem.W.mroIn K C (.type "object") = some true) (hs : PySem.W.findIn K (.ref C) "__eq__" = some (some (.builtin "object.__eq__"))) :
    RcAt A s (.ref x) (.ref y) false := fun prog w E Q h => by
  have one := try_two (prog := prog) (w := w) (A := A) (E := E) hne e1 n1 e2 X I hm hs
  have two := try_two (prog := prog) (w := w) (A := A) (E := E) (Ne.symm hne) e2 n2 e1 X J hm hs
  simp only [richCompare, cmpInfo_Eq, oneThing_ref]
  refine wpAny_holding (wpAny_bind (wpAny_cRoomFor hu ?_))
  refine wpAny_bind (I.type.here ?_)
  refine wpAny_bind (J.type.here ?_)
  split
  · rename_i q
    exact absurd q (by simp)
  · refine wpAny_bind (wpAny_pure ?_)
    simp only [Bool.false_eq_true, if_false, Bool.not_false, if_true]
    refine wpAny_bind (m := tryCompare (.ref x) _ (.ref y)) (wpAny_mono one (fun r s1 z => ?_) fun _ _ e => e)
    obtain ⟨z1, z2⟩ := z
    subst z1
    subst z2
    refine wpAny_bind (m := tryCompare (.ref y) _ (.ref x)) (wpAny_mono two (fun r s2 z => ?_) fun _ _ e => e)
    obtain ⟨z1, z2⟩ := z
    subst z1
    subst z2
    exact wpAny_bind (wpAny_rule (wpAny_bind (isSame_two hne e1 n1 e2 (wpAny_pure h))))
theorem eqAt_two {o1 o2 : Obj} (hne : x ≠ y) (e1 : s.heap.get? x = some o1) (n1 : o1.cls ≠ .type "tuple") (e2 : s.heap.get? y = some o2) (n2 : o2.cls ≠ .type "tuple") (hu : A.units < cLine) (X : K.In s.heap) (I : PySem.W.InstAt s.heap x ox C od) (J : PySem.W.InstAt s.heap y oy C od') (hm : PySem.W.mroIn K C (.type "object") = some true) (hs : PySem.W.findIn K (.ref C) "__eq__" = some (some (.builtin "object.__eq__"))) :
    EqAt A s (.ref x) (.ref y) false := EqAt.of_refs hne (rc_two hne e1 n1 e2 n2 hu X I J hm hs)
end
end HN
namespace L2
open PySem PySem.Spec PyProof.Rows
section
variable {X : Cx}
def rNeNil (K : PySem.W.Frag) : R2 := fun x y H Q => ∃ (a b : Addr) (xs : List V), x = .ref a ∧ y = .ref b ∧ SqL K H a xs ∧ SqL K H b [] ∧ Q (.bl (!xs.isEmpty)) H
theorem op_neNil (hu : X.A.units + 64 < cLine) : OpR X (compareOp .NotEq) (rNeNil X.K) := by
  intro pins s σ H x y v u Q I rx ry h
  obtain ⟨a, b, xs, rfl, rfl, ha, hb, q⟩ := h
  cases rx
  cases ry
  obtain ⟨its, rv, hl, _⟩ := I.list ha
  obtain ⟨its2, rv2, hl2, _⟩ := I.list hb
  have e2 : its2 = [] := by cases rv2; rfl
  subst e2
  have hu1 : X.A.units < cLine := by omega
  cases rv with
  | nil => exact SeqAt.RcNeAt.lists hl.isList hl2.isList rfl hu1 (e := fun _ => true) (fun j h1 _ => absurd h1 (Nat.not_lt_zero _)) X.prog X.w X.xe _ ⟨.bl false, H, I, rfl, q⟩
  | cons r t => exact SeqAt.RcNeAt.lists_lengths hl.isList hl2.isList (by simp) hu1 X.prog X.w X.xe _ ⟨.bl true, H, I, rfl, q⟩
/-- instances of a class without an __eq__ of its own -/
def Plain (K : PySem.W.Frag) (C : Addr) : Prop := PySem.W.mroIn K C (.type "object") = some true ∧ PySem.W.findIn K (.ref C) "__eq__" = some (some (.builtin "object.__eq__"))
def InsOf (H : Hp) (C : Addr) (v : V) : Prop := ∃ b dx fs, v = .ref b ∧ H b = some (.ins C dx fs)
def rRemO (K : PySem.W.Frag) : V → List V → Hp → VK → Prop := fun x xs H Q => ∃ (a y : Addr) (C : Addr) (vs : List V) (j : Nat), x = V.ref a ∧ xs = [.ref y] ∧ H a = some (.lst vs) ∧ Plain K C ∧ (∀ v ∈ vs, InsOf H C v) ∧
  vs[j]? = some (.ref y) ∧ (∀ m : Nat, m < j → vs[m]? ≠ some (.ref y)) ∧ Q .non (upd H a (.lst (vs.eraseIdx j)))
theorem mt_removeO (hu : X.A.units + 65 < cLine) : MtR X "list.remove" (rRemO X.K) := by
  intro pins s σ H x xs v us Q I rx rxs h
  obtain ⟨a, y, C, vs, j, rfl, rfl, hH, hP, hI, hj, hno, q⟩ := h
  cases rx
  cases rxs with
  | cons ry rt =>
    cases rt
    cases ry
    obtain ⟨zl, its, n, rv, hlen, ho⟩ := I.lstM hH
    obtain ⟨hj1, hj2⟩ := List.getElem?_eq_some_iff.mp hj
    have hjl : j < its.length := by omega
    have at_ : ∀ (m : Nat) (hm : m < its.length) (b : Addr), vs[m]? = some (.ref b) → its[m] = .ref b := by
      intro m hm b hb
      obtain ⟨u, hu, ru⟩ := rv.get hb
      rw [List.getElem?_eq_getElem hm] at hu
      cases hu
      exact ru
    have ins : ∀ (m : Nat) (hm : m < its.length), ∃ b dx fs, its[m] = .ref b ∧ vs[m]? = some (.ref b) ∧ H b = some (.ins C dx fs) := by
      intro m hm
      have hm' : m < vs.length := by omega
      obtain ⟨b, dx, fs, e, hb⟩ := hI _ (List.getElem_mem hm')
      have e' : vs[m]? = some (.ref b) := by rw [List.getElem?_eq_getElem hm', e]
      exact ⟨b, dx, fs, at_ m hm b e', e', hb⟩
    have info : ∀ {b : Addr} {dx : Addr} {fs : List (Str × V)}, H b = some (.ins C dx fs) → ∃ ox od, PySem.W.InstAt s.heap b ox C od ∧ ∃ o, s.heap.get? b = some o ∧ o.cls ≠ .type "tuple" := by
      intro b dx fs hb
      obtain ⟨mA, O, _⟩ := ins_get I.hok hb
      obtain ⟨od, J, _⟩ := O.look
      obtain ⟨o, e, ne⟩ := obj_there I hb rfl
      exact ⟨_, od, J, o, e, ne⟩
    refine call_meets PySem.F.slot_list_remove ⟨_, ho, rfl⟩ PySem.F.entry_list_remove (PySem.F.args_list_remove_2 _ _)
      (SeqAt.list_removeAt a its.toArray n none #[] (.ref y) (fun u => u == .ref y) j (by simpa using hjl) ?_ ?_ (by rw [List.size_toArray]; omega)) ⟨ho, fun u hu' => ?_, ?_⟩
    · have e := at_ j hjl y hj
      simp [e]
    · intro m hm hmj
      have hm' : m < its.length := by simpa using hm
      obtain ⟨b, dx, fs, e, e', hb⟩ := ins m hm'
      have hne : b ≠ y := fun z => hno m hmj (by rw [e', z])
      have : its.toArray[m] = .ref b := by simpa using e
      rw [this]
      cases q : (Value.ref b == Value.ref y) with
      | false => rfl
      | true =>
        have := eq_of_beq q
        injection this with this
        exact (hne this).elim
    · obtain ⟨m, hm, e⟩ := List.mem_iff_getElem.mp (show u ∈ its by simpa using hu')
      subst e
      obtain ⟨b, dx, fs, e, e', hb⟩ := ins m hm
      obtain ⟨by_, dy, fy, ey, hy⟩ := hI _ (List.mem_of_getElem? hj)
      cases ey
      rw [e]
      by_cases hby : b = y
      · subst hby
        have : (Value.ref b == Value.ref b) = true := by simp
        rw [this]
        exact SeqAt.EqAt.same _
      · have : (Value.ref b == Value.ref y) = false := by
          cases q : (Value.ref b == Value.ref y) with
          | false => rfl
          | true =>
            have := eq_of_beq q
            injection this with this
            exact (hby this).elim
        rw [this]
        obtain ⟨_, _, I1, o1, e1, n1⟩ := info hb
        obtain ⟨_, _, I2, o2, e2, n2⟩ := info hy
        exact HN.eqAt_two hby e1 n1 e2 n2 (by show X.A.units + 1 < cLine; omega) I.kIn I1 I2 hP.1 hP.2
    · have rr := rv.eraseIdx j
      refine ⟨.non, _, I.lset (its' := its.eraseIdx j) (t' := s.toks) hH ho ?_ rr ?_, rfl, q⟩
      · show its.toArray.eraseIdxIfInBounds j = (its.eraseIdx j).toArray
        rw [List.eraseIdxIfInBounds_toArray]
      · rw [List.length_eraseIdx]
        split <;> omega
end
end L2
namespace VL
open PySem L2
section
variable {K : PySem.W.Frag} {cl : Str → Option Addr} {X : Cx}
/-- rules that are used for their steps alone -/
def wF2 : W2 := fun _ _ _ _ => False
theorem sr_false {r : R2} : SR K cl r wF2 := fun _ _ _ _ _ hw => hw.elim
def mF : LM := fun _ _ _ => False
theorem slm_false {r : V → List V → Hp → VK → Prop} : SLM K cl r mF := fun _ _ _ _ _ _ _ _ _ _ _ _ _ hm => hm.elim
theorem op_neNilK (hu : X.A.units + 64 < cLine) (hk : X.K = K := by rfl) : OpR X (compareOp .NotEq) (rNeNil K) := by subst hk; exact op_neNil hu
theorem mt_removeOK (hu : X.A.units + 65 < cLine) (hk : X.K = K := by rfl) : MtR X "list.remove" (rRemO K) := by subst hk; exact mt_removeO hu
end
end VL

set_option Elab.async false
set_option linter.all false
set_option maxRecDepth 100000
set_option maxHeartbeats 2000000
/-! Promises: readings_of and what it calls. -/
namespace VL
open PySem L2
instance (ts a b : List Int) : Decidable (ahead ts a b) := by unfold ahead; infer_instance
@[reducible] def foundP (ts rs : List Int) : PV := .ins "Found" [("reading" : Str), ("width" : Str)] [ils rs, fr (wd1 ts rs)]
def RdL (ts rs : List Int) : Prop := ROk rs ∧ rs.length = ts.length
def sp_ahead : VSp := fun ps R => ∃ ts a b, ps = [foundP ts a, foundP ts b] ∧ TOk ts ∧ RdL ts a ∧ RdL ts b ∧ R (.bl (decide (ahead ts a b)))
def sp_by_width : VSp := fun ps R => ∃ (ts : List Int) (rss : List (List Int)), ps = [.lst (rss.map (foundP ts))] ∧ TOk ts ∧ (∀ rs ∈ rss, RdL ts rs) ∧ rss.Nodup ∧ rss.length ≤ 10000 ∧
  ∀ L : List (List Int), L.Perm rss → L.Pairwise (ahead ts) → R (.lst (L.map (foundP ts)))
def sp_Found : VSp := fun ps R => ∃ (rs : List Int) (w : Fr), ps = [ils rs, fr w] ∧ R (.ins "Found" [("reading" : Str), ("width" : Str)] [ils rs, fr w])
def sp_in_order : VSp := fun ps R => ∃ xs : List Fr, ps = [.lst (xs.map fr)] ∧ (∀ x ∈ xs, Low x ∧ FB x) ∧ xs.Nodup ∧ xs.length ≤ 10000 ∧ ∀ L : List Fr, L.Perm xs → L.Pairwise lessF → R (.lst (L.map fr))
section
variable {K : PySem.W.Frag} {cl : Str → Option Addr} {G : Hp}
theorem reps_items {α : Type} {f : α → PV} : ∀ {xs : List α} {vs : List V}, RepL K cl G vs (xs.map f) → (∀ x v, Rep K cl G v (f x) → ∃ b, v = .ref b) → ∃ its : List (α × Addr), its.map (·.1) = xs ∧ vs = its.map (fun x => V.ref x.2) ∧ ∀ x ∈ its, Rep K cl G (.ref x.2) (f x.1)
  | [], vs, r, _ => by
    cases r
    exact ⟨[], rfl, rfl, fun x h => by cases h⟩
  | x :: xs, vs, r, hf => by
    cases r with
    | cons a b =>
      obtain ⟨ad, rfl⟩ := hf x _ a
      obtain ⟨its, h1, h2, h3⟩ := reps_items b hf
      refine ⟨(x, ad) :: its, by rw [List.map_cons, h1], by rw [h2]; rfl, fun y hy => ?_⟩
      rcases List.mem_cons.mp hy with e | e
      · subst e; exact a
      · exact h3 y e
theorem ints_inj : ∀ {a b : List Int}, a.map V.int = b.map V.int → a = b
  | [], [], _ => rfl
  | [], _ :: _, h => by cases h
  | _ :: _, [], h => by cases h
  | x :: a, y :: b, h => by
    simp only [List.map_cons, List.cons.injEq, V.int.injEq] at h
    rw [h.1, ints_inj h.2]
theorem ils_det {v : V} {a b : List Int} (h : Rep K cl G v (ils a)) (h' : Rep K cl G v (ils b)) : a = b := by
  cases h with
  | lst e l =>
    cases h' with
    | lst e' l' =>
      rw [e] at e'
      cases e'
      have h1 := l.ints_inv
      have h2 := l'.ints_inv
      exact ints_inj (h1.symm.trans h2)
theorem found_ref {ts a : List Int} {v : V} (h : Rep K cl G v (foundP ts a)) : ∃ b, v = .ref b := by
  cases h
  exact ⟨_, rfl⟩
theorem found_det {ts a b : List Int} {v : V} (h : Rep K cl G v (foundP ts a)) (h' : Rep K cl G v (foundP ts b)) : a = b := by
  cases h with
  | ins c1 e1 n1 l1 =>
    cases h' with
    | ins c2 e2 n2 l2 =>
      rw [e1] at e2
      cases l1 with
      | cons p1 q1 =>
        cases l2 with
        | cons p2 q2 =>
          simp only [Option.some.injEq, HO.ins.injEq, List.zip_cons_cons, List.cons.injEq, Prod.mk.injEq] at e2
          obtain ⟨_, _, ⟨_, e⟩, _⟩ := e2
          subst e
          exact ils_det p1 p2
theorem found_ins {ts a : List Int} {b C : Addr} (hC : cl "Found" = some C) (h : Rep K cl G (.ref b) (foundP ts a)) : InsOf G C (.ref b) := by
  cases h with
  | ins c1 e1 n1 l1 =>
    rw [hC] at c1
    cases c1
    exact ⟨_, _, _, rfl, e1⟩
end
theorem nodup_of_map {α β : Type} {f : α → β} : ∀ {l : List α}, (l.map f).Nodup → l.Nodup
  | [], _ => .nil
  | x :: l, h => by
    rw [List.map_cons, List.nodup_cons] at h
    rw [List.nodup_cons]
    exact ⟨fun hx => h.1 (List.mem_map.mpr ⟨x, hx, rfl⟩), nodup_of_map h.2⟩
theorem inj_of_nodup {α β : Type} {f : α → β} : ∀ {l : List α}, (l.map f).Nodup → ∀ x ∈ l, ∀ y ∈ l, f x = f y → x = y
  | [], _, x, hx, _, _, _ => by cases hx
  | a :: l, h, x, hx, y, hy, e => by
    rw [List.map_cons, List.nodup_cons] at h
    rcases List.mem_cons.mp hx with e1 | h1
    · rcases List.mem_cons.mp hy with e2 | h2
      · rw [e1, e2]
      · exact (h.1 (List.mem_map.mpr ⟨y, h2, by rw [← e, e1]⟩)).elim
    · rcases List.mem_cons.mp hy with e2 | h2
      · exact (h.1 (List.mem_map.mpr ⟨x, h1, by rw [e, e2]⟩)).elim
      · exact inj_of_nodup h.2 x h1 y h2 e
theorem same_updN {A B : Hp} {p : Addr} {o : HO} (s : Same A B) (h : A p = none) : Same A (upd B p o) := fun b u e => by
  rw [upd_ne (ne_of_none e h)]
  exact s _ _ e
theorem fr_inj {x y : Fr} (e : fr x = fr y) : x = y := by
  injection e with e'
  injection e' with e1 e2
  injection e1 with e1
  injection e2 with e2
  injection e2 with e2
  exact Prod.ext e1 e2
section
open PySem.Spec PyProof.Rows
variable {K : PySem.W.Frag} {cl : Str → Option Addr}
/-- an __init__ of two fields, its parameters -/
theorem run_init2 {vsp : VSp} {C : Addr} {c f1 f2 : Str} {N : List Str} {vs : List V} {H0 : Hp} {Q : VK} {E : XK} (hC : cl c = some C) (hF1 : Cls K C ∧ NoAttr K C f1) (hF2 : Cls K C ∧ NoAttr K C f2) (hne : f1 ≠ f2) (hN : N.length = 3)
    (h : toSpI K cl C vsp vs H0 Q E) (hw : ∀ ps R, vsp ps R → ∃ p1 p2, ps = [p1, p2] ∧ R (.ins c [f1, f2] [p1, p2])) :
    tSeq (sFld K (tVar 0) (tVar 1) f1) (sFld K (tVar 0) (tVar 2) f2) { nx := fun _ H' => Q .non H', rt := Q } (L2.start N vs) H0 := by
  obtain ⟨x, dx, us, H, G, ps, R, rfl, hx, hdx, ne, rfl, gh, r, hv, k⟩ := h
  obtain ⟨p1, p2, rfl, hR⟩ := hw ps R hv
  cases r with
  | @cons v1 _ _ _ r1 r' =>
  cases r' with
  | @cons v2 _ _ _ r2 r'' =>
  cases r''
  have gx : G x = none := gh.free hx
  refine ⟨_, rfl, _, rfl, x, C, dx, [], rfl, upd_same, hF1.1, hF1.2, by decide, ?_⟩
  refine ⟨_, rfl, _, rfl, x, C, dx, _, rfl, upd_same, hF2.1, hF2.2, by show 1 < 1000; decide, ?_⟩
  have e : putF f2 v2 (putF f1 v1 []) = [f1, f2].zip [v1, v2] := by
    show (if f1 = f2 then (f1, v2) :: [] else (f1, v1) :: putF f2 v2 []) = _
    rw [if_neg hne]
    rfl
  rw [upd_upd, upd_upd, e]
  refine k (.ins c [f1, f2] [p1, p2]) (upd G x (.ins C dx ([f1, f2].zip [v1, v2]))) _ hR (fun b o e => ?_) (same_new gx) (same_upd (fun b o e => ?_)) (fun b o e => ?_) (.ins hC upd_same rfl (.cons (Rep.mono (same_new gx) _ _ r1) (.cons (Rep.mono (same_new gx) _ _ r2) .nil)))
  · rw [upd_ne (ne_of_none e hx), upd_ne (ne_of_none e hdx)]
    exact e
  · rw [upd_ne (ne_of_none (gh _ _ e) hdx)]
    exact gh _ _ e
  · by_cases hb : b = x
    · subst hb; exact .inr (.inl hx)
    · rw [upd_ne hb] at e
      exact .inl e
end
end VL

set_option Elab.async false
set_option linter.all false
set_option maxRecDepth 100000
set_option maxHeartbeats 2000000
/-! What a time is nearest to; the marks; the units between them. -/
namespace VL
open PySem L2
def absI (x : Int) : Int := if x < 0 then -x else x
def nearStep (x y f k : Int) : Int := if absI (x - k * y) < absI (x - f * y) then k else f
/-- what a time is nearest to, by comparisons -/
def nearF (i : Nat) (x y : Int) : Int := if 2 * y < x then (if i % 2 = 1 ∧ 5 * y < x then 7 else 3) else 1
theorem near_fold {i : Nat} {x y : Int} (hy : 0 < y) (hx : 0 < x) : (kindsL i).foldl (nearStep x y) 1 = nearF i x y := by
  have e1 : nearStep x y 1 1 = 1 := by unfold nearStep; split <;> rfl
  have e3 : nearStep x y 1 3 = if 2 * y < x then 3 else 1 := by
    unfold nearStep absI
    by_cases h : 2 * y < x
    · rw [if_pos h, if_pos]
      split <;> split <;> omega
    · rw [if_neg h, if_neg]
      split <;> split <;> omega
  have e7 : nearStep x y 1 7 = if 4 * y < x then 7 else 1 := by
    unfold nearStep absI
    by_cases h : 4 * y < x
    · rw [if_pos h, if_pos]
      split <;> split <;> omega
    · rw [if_neg h, if_neg]
      split <;> split <;> omega
  have e37 : nearStep x y 3 7 = if 5 * y < x then 7 else 3 := by
    unfold nearStep absI
    by_cases h : 5 * y < x
    · rw [if_pos h, if_pos]
      split <;> split <;> omega
    · rw [if_neg h, if_neg]
      split <;> split <;> omega
  unfold nearF kindsL
  by_cases hi : i % 2 = 1
  · rw [if_pos hi]
    simp only [List.foldl_cons, List.foldl_nil, e1, e3]
    by_cases h : 2 * y < x
    · rw [if_pos h, if_pos h, e37]
      by_cases h5 : 5 * y < x
      · rw [if_pos h5, if_pos ⟨hi, h5⟩]
      · rw [if_neg h5, if_neg (fun z => h5 z.2)]
    · rw [if_neg h, if_neg h, e7, if_neg (by omega)]
  · rw [if_neg hi]
    simp only [List.foldl_cons, List.foldl_nil, e1, e3]
    by_cases h : 2 * y < x
    · rw [if_pos h, if_pos h, if_neg (fun z => hi z.1)]
    · rw [if_neg h, if_neg h]
theorem nearF_mem (i : Nat) (x y : Int) : nearF i x y ∈ kindsL i := by
  unfold nearF kindsL
  by_cases hi : i % 2 = 1
  · rw [if_pos hi]
    by_cases h : 2 * y < x
    · rw [if_pos h]
      by_cases h5 : i % 2 = 1 ∧ 5 * y < x
      · rw [if_pos h5]; simp
      · rw [if_neg h5]; simp
    · rw [if_neg h]; simp
  · rw [if_neg hi]
    by_cases h : 2 * y < x
    · rw [if_pos h, if_neg (fun z => hi z.1)]; simp
    · rw [if_neg h]; simp
def sp_near : VSp := fun ps R => ∃ (i : Nat) (t a b : Int), ps = [.int i, .int t, .int a, .int b] ∧ 1 ≤ t ∧ t ≤ 9999 ∧ 0 < a ∧ 0 < b ∧ R (.int (nearF i (t * b) a))
theorem kinds_cons (i : Nat) : ∃ l, kindsL i = 1 :: l := by unfold kindsL; split <;> exact ⟨_, rfl⟩
/-! ### marks and units -/
/-- the row of a unit -/
def rowF (first : Nat) (ts : List Int) (u : Fr) : List Int := (List.range ts.length).map fun k => nearF (first + k) (at0 ts k * u.2) u.1
theorem rowF_len (first : Nat) (ts : List Int) (u : Fr) : (rowF first ts u).length = ts.length := by unfold rowF; simp
theorem rowF_at {first : Nat} {ts : List Int} {u : Fr} {i : Nat} (h : i < ts.length) : at0 (rowF first ts u) i = nearF (first + i) (at0 ts i * u.2) u.1 := by
  unfold rowF at0
  simp [List.getD, h]
theorem rowF_valid (first : Nat) (ts : List Int) (u : Fr) : ValidAt first (rowF first ts u) := fun i hi => by
  rw [rowF_len] at hi
  rw [rowF_at hi]
  exact nearF_mem _ _ _
/-- the marks of times -/
def IsMark (ts : List Int) (m : Fr) : Prop := ∃ t ∈ ts, m = mkF t 2 ∨ m = mkF t 5
theorem near_less {i : Nat} {t : Int} {u : Fr} (hu : 0 < u.2) : nearF i (t * u.2) u.1 = if lessF u (mkF t 2) then (if i % 2 = 1 ∧ lessF u (mkF t 5) then 7 else 3) else 1 := by
  unfold nearF
  have e2 : lessF u (mkF t 2) ↔ 2 * u.1 < t * u.2 := by rw [lessF_mkR (by decide) hu]; omega
  have e5 : lessF u (mkF t 5) ↔ 5 * u.1 < t * u.2 := by rw [lessF_mkR (by decide) hu]; omega
  simp only [e2, e5]
theorem row_eq {first : Nat} {ts : List Int} {u v : Fr} (hu : 0 < u.2) (hv : 0 < v.2) (h : ∀ m, IsMark ts m → (lessF u m ↔ lessF v m)) : rowF first ts u = rowF first ts v := by
  unfold rowF
  refine List.map_congr_left fun k hk => ?_
  have hk' := List.mem_range.mp hk
  rw [near_less hu, near_less hv]
  have h2 := h _ ⟨_, at0_mem hk', .inl rfl⟩
  have h5 := h _ ⟨_, at0_mem hk', .inr rfl⟩
  simp only [h2, h5]
theorem exists_G {f : Nat → Fr} : ∀ {n : Nat}, (∀ j, j < n + 1 → 0 < (f j).2) → ∃ x, IsG f (n + 1) x
  | 0, _ => ⟨_, IsG.one⟩
  | n + 1, h => by
    obtain ⟨x, hx⟩ := exists_G (f := f) (n := n) fun j hj => h j (by omega)
    exact ⟨_, hx.step h⟩
theorem exists_L {f : Nat → Fr} : ∀ {n : Nat}, (∀ j, j < n + 1 → 0 < (f j).2) → ∃ x, IsL f (n + 1) x
  | 0, _ => ⟨_, IsL.one⟩
  | n + 1, h => by
    obtain ⟨x, hx⟩ := exists_L (f := f) (n := n) fun j hj => h j (by omega)
    exact ⟨_, hx.step h⟩
theorem rdok_wok {first : Nat} {ts rs : List Int} (ht : TOk ts) (h : RdOk first ts rs) : WOk (wd1 ts rs) := by
  have Lf := widthF_is rs ht
  exact wok_less Lf.1 Lf.2.1 (by have := widthF_bot rs ht; unfold wd1; omega) h.2.2
/-- a reading that a width below 1 allows is the nearest one by some unit -/
theorem unit_of {first : Nat} {ts rs : List Int} (ht : TOk ts) (h0 : 0 < ts.length) (h : RdOk first ts rs) : ∃ u : Fr, 0 < u.2 ∧ 0 < u.1 ∧ rs = rowF first ts u ∧ ∀ m, IsMark ts m → lessF u m ∨ lessF m u := by
  have hw := rdok_wok ht h
  have X : Wx ts rs (wd1 ts rs) := ⟨ht, h.2.1.rok, h.1, hw⟩
  obtain ⟨n, hn⟩ : ∃ n, ts.length = n + 1 := ⟨ts.length - 1, by omega⟩
  obtain ⟨lo, hlo⟩ := exists_G (f := lowF ts rs (wd1 ts rs)) (n := n) fun j hj => (X.lowL (by omega)).1
  obtain ⟨hi, hhi⟩ := exists_L (f := highF ts rs (wd1 ts rs)) (n := n) fun j hj => (X.highL (by omega)).1
  rw [← hn] at hlo hhi
  have fits := (X.fits hlo hhi (fun x => lessF_irr _ ((X.meet hlo hhi).mp x))).1
  have low := (IsG.low X hlo).1
  have pos : 0 < lo.1 := by
    obtain ⟨⟨j, hj, rfl⟩, _⟩ := hlo
    have tb := X.tb hj
    have hp := X.pos hj
    have : lessF (0, 1) (lowF ts rs (wd1 ts rs) j) := by
      unfold lowF
      rw [lessF_mkR hp.1 (by decide)]
      dsimp only
      omega
    unfold lessF at this
    dsimp only at this
    omega
  -- by this unit each time is nearer than one unit to what it is read as
  have near : ∀ i, i < ts.length → (at0 rs i - 1) * lo.1 < at0 ts i * lo.2 ∧ at0 ts i * lo.2 < (at0 rs i + 1) * lo.1 := by
    intro i hi'
    obtain ⟨f1, f2⟩ := fits i hi'
    have hp := X.pos hi'
    unfold highF at f1
    unfold lowF at f2
    rw [lessF_mkL hp.2.1 low.1] at f1
    rw [lessF_mkR hp.1 low.1] at f2
    have w0 := hw.1
    have w1 := hw.2.1
    generalize (wd1 ts rs).1 = a at *
    generalize (wd1 ts rs).2 = b at *
    generalize at0 ts i = t at *
    generalize at0 rs i = r at *
    generalize lo.1 = p at *
    generalize lo.2 = q at *
    have hb : 0 < b := by omega
    have m1 : 0 < (b - a) * p := Int.mul_pos (by omega) pos
    constructor
    · have : b * ((r - 1) * p) < b * (t * q) := by grind
      exact Int.lt_of_mul_lt_mul_left this (by omega)
    · have : b * (t * q) < b * ((r + 1) * p) := by grind
      exact Int.lt_of_mul_lt_mul_left this (by omega)
  have kind : ∀ i, i < ts.length → at0 rs i = 1 ∨ at0 rs i = 3 ∨ (at0 rs i = 7 ∧ (first + i) % 2 = 1) := by
    intro i hi'
    have := h.2.1 i (by rw [h.1]; exact hi')
    unfold kindsL at this
    split at this
    · rename_i o
      simp at this
      rcases this with e | e | e
      · exact .inl e
      · exact .inr (.inl e)
      · exact .inr (.inr ⟨e, o⟩)
    · simp at this
      rcases this with e | e
      · exact .inl e
      · exact .inr (.inl e)
  refine ⟨lo, low.1, pos, ?_, ?_⟩
  · refine List.ext_getElem (by rw [rowF_len, h.1]) fun i h1 h2 => ?_
    have hi' : i < ts.length := by rw [← h.1]; exact h1
    have e1 : rs[i] = at0 rs i := by unfold at0; simp [List.getD, h1]
    have e2 : (rowF first ts lo)[i] = at0 (rowF first ts lo) i := by unfold at0; simp [List.getD, h2]
    rw [e1, e2, rowF_at hi']
    have nr := near i hi'
    unfold nearF
    rcases kind i hi' with e | e | ⟨e, o⟩
    · rw [e] at nr ⊢
      rw [if_neg (by omega)]
    · rw [e] at nr ⊢
      rw [if_pos (by omega), if_neg (by omega)]
    · rw [e] at nr ⊢
      rw [if_pos (by omega), if_pos ⟨o, by omega⟩]
  · rintro m ⟨t, ht', hm⟩
    obtain ⟨i, hi', rfl⟩ := mem_at0 ht'
    have nr := near i hi'
    rcases hm with rfl | rfl
    · rw [lessF_mkR (by decide) low.1, lessF_mkL (by decide) low.1]
      rcases kind i hi' with e | e | ⟨e, o⟩ <;> rw [e] at nr <;> omega
    · rw [lessF_mkR (by decide) low.1, lessF_mkL (by decide) low.1]
      rcases kind i hi' with e | e | ⟨e, o⟩ <;> rw [e] at nr <;> omega
end VL

set_option Elab.async false
set_option linter.all false
set_option maxRecDepth 100000
set_option maxHeartbeats 2000000
/-! The units between the marks: one for every place. -/
namespace VL
open PySem L2
theorem lessP_trans {x y z : Fr} (hx : 0 < x.2) (hy : 0 < y.2) (hz : 0 < z.2) (h1 : lessF x y) (h2 : lessF y z) : lessF x z := by
  rw [lessF_iff hx hy] at h1
  rw [lessF_iff hy hz] at h2
  rw [lessF_iff hx hz]
  grind
def midF (a b : Fr) : Fr := mkF (a.1 * b.2 + b.1 * a.2) (2 * a.2 * b.2)
def halfF (a : Fr) : Fr := mkF a.1 (2 * a.2)
def dblF (a : Fr) : Fr := mkF (2 * a.1) a.2
def PosF (x : Fr) : Prop := 0 < x.1 ∧ 0 < x.2
theorem mid_lo {a b : Fr} (ha : PosF a) (hb : PosF b) (h : lessF a b) : lessF a (midF a b) := by
  unfold midF
  have p : 0 < a.2 * b.2 := Int.mul_pos ha.2 hb.2
  rw [lessF_mkR (by grind) ha.2]
  unfold lessF at h
  have := Int.mul_lt_mul_of_pos_left h ha.2
  grind
theorem mid_hi {a b : Fr} (ha : PosF a) (hb : PosF b) (h : lessF a b) : lessF (midF a b) b := by
  unfold midF
  have p : 0 < a.2 * b.2 := Int.mul_pos ha.2 hb.2
  rw [lessF_mkL (by grind) hb.2]
  unfold lessF at h
  have := Int.mul_lt_mul_of_pos_left h hb.2
  grind
theorem half_lt {a : Fr} (ha : PosF a) : lessF (halfF a) a := by
  unfold halfF
  rw [lessF_mkL (by have := ha.2; omega) ha.2]
  have := Int.mul_pos ha.1 ha.2
  grind
theorem dbl_gt {a : Fr} (ha : PosF a) : lessF a (dblF a) := by
  unfold dblF
  rw [lessF_mkR ha.2 ha.2]
  have := Int.mul_pos ha.1 ha.2
  grind
theorem mkF_pos {a b : Int} (ha : 0 < a) (hb : 0 < b) : PosF (mkF a b) := by
  refine ⟨?_, (mkF_low hb).1⟩
  have : lessF (0, 1) (mkF a b) := by
    rw [lessF_mkR hb (by decide)]
    dsimp only
    omega
  unfold lessF at this
  dsimp only at this
  omega
theorem mid_pos {a b : Fr} (ha : PosF a) (hb : PosF b) : PosF (midF a b) := by
  refine mkF_pos ?_ ?_
  · have := Int.mul_pos ha.1 hb.2
    have := Int.mul_pos hb.1 ha.2
    omega
  · have p : 0 < a.2 * b.2 := Int.mul_pos ha.2 hb.2
    grind
theorem half_pos {a : Fr} (ha : PosF a) : PosF (halfF a) := mkF_pos ha.1 (by have := ha.2; omega)
theorem dbl_pos {a : Fr} (ha : PosF a) : PosF (dblF a) := mkF_pos (by have := ha.1; omega) ha.2
def midsOf (ys : List Fr) (n : Nat) : List Fr := (List.range n).map fun k => midF (atF ys k) (atF ys (k + 1))
def unitsOf (ys : List Fr) : List Fr := [halfF (atF ys 0), dblF (atF ys (ys.length - 1))] ++ midsOf ys (ys.length - 1)
theorem sorted_at {ys : List Fr} (h : ys.Pairwise lessF) {i j : Nat} (hij : i < j) (hj : j < ys.length) : lessF (atF ys i) (atF ys j) := by
  have := (List.pairwise_iff_getElem.mp h) i j (by omega) hj hij
  unfold atF
  simpa [List.getD, hj, (show i < ys.length by omega)] using this
theorem turn_at {P : Nat → Prop} : ∀ n, ¬ P 0 → P n → ∃ i, i < n ∧ ¬ P i ∧ P (i + 1)
  | 0, h0, hn => (h0 hn).elim
  | n + 1, h0, hn => by
    by_cases h : P n
    · obtain ⟨i, h1, h2⟩ := turn_at n h0 h
      exact ⟨i, by omega, h2⟩
    · exact ⟨n, by omega, h, hn⟩
theorem atF_of_mem {ys : List Fr} {m : Fr} (h : m ∈ ys) : ∃ j, j < ys.length ∧ atF ys j = m := by
  obtain ⟨j, hj, e⟩ := List.mem_iff_getElem.mp h
  exact ⟨j, hj, by unfold atF; simp [List.getD, hj, e]⟩
theorem unit_rep {ys : List Fr} (hs : ys.Pairwise lessF) (hp : ∀ m ∈ ys, PosF m) (h0 : 0 < ys.length) {u : Fr} (hu : 0 < u.2) (hne : ∀ m ∈ ys, lessF u m ∨ lessF m u) :
    ∃ v, v ∈ unitsOf ys ∧ ∀ m ∈ ys, (lessF u m ↔ lessF v m) := by
  have pat : ∀ i, i < ys.length → PosF (atF ys i) := fun i hi => hp _ (atF_mem hi)
  by_cases c0 : lessF u (atF ys 0)
  · refine ⟨halfF (atF ys 0), by unfold unitsOf; simp, fun m hm => ?_⟩
    obtain ⟨j, hj, rfl⟩ := atF_of_mem hm
    have p0 := pat 0 h0
    have pj := pat j hj
    have hv := half_lt p0
    have ph := half_pos p0
    rcases Nat.eq_zero_or_pos j with e | e
    · subst e; exact ⟨fun _ => hv, fun _ => c0⟩
    · have q := sorted_at hs e hj
      exact ⟨fun _ => lessP_trans ph.2 p0.2 pj.2 hv q, fun _ => lessP_trans hu p0.2 pj.2 c0 q⟩
  · by_cases cn : lessF u (atF ys (ys.length - 1))
    · obtain ⟨i, hi, n1, n2⟩ := turn_at (P := fun i => lessF u (atF ys i)) _ c0 cn
      have pi := pat i (by omega)
      have pi1 := pat (i + 1) (by omega)
      have ii := sorted_at hs (Nat.lt_succ_self i) (show i + 1 < ys.length by omega)
      refine ⟨midF (atF ys i) (atF ys (i + 1)), ?_, fun m hm => ?_⟩
      · unfold unitsOf midsOf
        exact List.mem_append.mpr (.inr (List.mem_map.mpr ⟨i, List.mem_range.mpr hi, rfl⟩))
      obtain ⟨j, hj, rfl⟩ := atF_of_mem hm
      have pj := pat j hj
      have pm := mid_pos pi pi1
      have lo := mid_lo pi pi1 ii
      have hi' := mid_hi pi pi1 ii
      rcases Nat.lt_or_ge i j with h | h
      · have um : lessF u (atF ys j) := by
          rcases Nat.lt_or_ge (i + 1) j with q | q
          · exact lessP_trans hu pi1.2 pj.2 n2 (sorted_at hs q hj)
          · have e : j = i + 1 := by omega
            subst e; exact n2
        have vm : lessF (midF (atF ys i) (atF ys (i + 1))) (atF ys j) := by
          rcases Nat.lt_or_ge (i + 1) j with q | q
          · exact lessP_trans pm.2 pi1.2 pj.2 hi' (sorted_at hs q hj)
          · have e : j = i + 1 := by omega
            subst e; exact hi'
        exact ⟨fun _ => vm, fun _ => um⟩
      · have mu : lessF (atF ys j) u := by
          have iu : lessF (atF ys i) u := (hne _ (atF_mem (by omega))).resolve_left n1
          rcases Nat.lt_or_ge j i with q | q
          · exact lessP_trans pj.2 pi.2 hu (sorted_at hs q (by omega)) iu
          · have e : j = i := by omega
            subst e; exact iu
        have mv : lessF (atF ys j) (midF (atF ys i) (atF ys (i + 1))) := by
          rcases Nat.lt_or_ge j i with q | q
          · exact lessP_trans pj.2 pi.2 pm.2 (sorted_at hs q (by omega)) lo
          · have e : j = i := by omega
            subst e; exact lo
        exact ⟨fun z => (lessF_asym z mu).elim, fun z => (lessF_asym z mv).elim⟩
    · refine ⟨dblF (atF ys (ys.length - 1)), by unfold unitsOf; simp, fun m hm => ?_⟩
      obtain ⟨j, hj, rfl⟩ := atF_of_mem hm
      have pn := pat (ys.length - 1) (by omega)
      have pj := pat j hj
      have nu : lessF (atF ys (ys.length - 1)) u := (hne _ (atF_mem (by omega))).resolve_left cn
      have nv := dbl_gt pn
      have pd := dbl_pos pn
      rcases Nat.lt_or_ge j (ys.length - 1) with q | q
      · have s := sorted_at hs q (by omega)
        have a := lessP_trans pj.2 pn.2 hu s nu
        have b := lessP_trans pj.2 pn.2 pd.2 s nv
        exact ⟨fun z => (lessF_asym z a).elim, fun z => (lessF_asym z b).elim⟩
      · have e : j = ys.length - 1 := by omega
        subst e
        exact ⟨fun z => (lessF_asym z nu).elim, fun z => (lessF_asym z nv).elim⟩
/-- bounds of marks -/
def MkB (x : Fr) : Prop := 1 ≤ x.1 ∧ x.1 ≤ 9999 ∧ 1 ≤ x.2 ∧ x.2 ≤ 5
theorem mark_mkb {t h : Int} (ht : 1 ≤ t) (ht2 : t ≤ 9999) (hh : 1 ≤ h) (hh2 : h ≤ 5) : MkB (mkF t h) ∧ Low (mkF t h) := by
  have p := mkF_pos (a := t) (b := h) (by omega) (by omega)
  have l := mkF_low (a := t) (b := h) (by omega)
  have b := mkF_bot (a := t) (b := h) (by omega)
  have g := gcd_pos (a := t) (b := h) (by omega)
  have q : (mkF t h).1 ≤ t := by
    show t / (Int.gcd t h : Int) ≤ t
    exact Int.ediv_le_self _ (by omega)
  refine ⟨⟨?_, by omega, ?_, by omega⟩, l⟩
  · have := p.1; omega
  · have := p.2; omega
theorem MkB.pos {x : Fr} (h : MkB x) : PosF x := by unfold MkB at h; exact ⟨by omega, by omega⟩
theorem MkB.fb {x : Fr} (h : MkB x) : FB x := by unfold MkB at h; unfold FB; omega
theorem mark_is {ts : List Int} {m : Fr} (ht : TOk ts) (h : IsMark ts m) : MkB m ∧ Low m := by
  obtain ⟨t, ht', rfl | rfl⟩ := h
  · exact mark_mkb (ht.2 t ht').1 (ht.2 t ht').2 (by decide) (by decide)
  · exact mark_mkb (ht.2 t ht').1 (ht.2 t ht').2 (by decide) (by decide)
/-- the readings that the rows tell are all -/
theorem all_found {first : Nat} {ts : List Int} (ht : TOk ts) (h0 : 0 < ts.length) {ys : List Fr} (hs : ys.Pairwise lessF) (hy : ∀ m, m ∈ ys ↔ IsMark ts m) (rs : List Int) :
    (∃ v, v ∈ unitsOf ys ∧ rs = rowF first ts v) ∧ lessF (wd1 ts rs) (1, 1) ↔ RdOk first ts rs := by
  have yl : 0 < ys.length := by
    have : mkF (at0 ts 0) 2 ∈ ys := (hy _).mpr ⟨_, at0_mem h0, .inl rfl⟩
    exact List.length_pos_of_mem this
  have hp : ∀ m ∈ ys, PosF m := fun m hm => (mark_is ht ((hy m).mp hm)).1.pos
  have pat : ∀ i, i < ys.length → PosF (atF ys i) := fun i hi => hp _ (atF_mem hi)
  constructor
  · rintro ⟨⟨v, hv, rfl⟩, hl⟩
    exact ⟨rowF_len _ _ _, rowF_valid _ _ _, hl⟩
  · intro h
    refine ⟨?_, h.2.2⟩
    obtain ⟨u, hu2, hu1, e, hm⟩ := unit_of ht h0 h
    obtain ⟨v, hv, hvm⟩ := unit_rep hs hp yl hu2 fun m hm' => hm m ((hy m).mp hm')
    refine ⟨v, hv, ?_⟩
    have pv : 0 < v.2 := by
      unfold unitsOf midsOf at hv
      rcases List.mem_append.mp hv with q | q
      · simp at q
        rcases q with rfl | rfl
        · exact (half_pos (pat 0 yl)).2
        · exact (dbl_pos (pat _ (by omega))).2
      · obtain ⟨k, hk, rfl⟩ := List.mem_map.mp q
        have hk' := List.mem_range.mp hk
        exact (mid_pos (pat k (by omega)) (pat (k + 1) (by omega))).2
    rw [e]
    exact row_eq hu2 pv fun m hm' => hvm m ((hy m).mpr hm')
end VL

set_option Elab.async false
set_option linter.all false
set_option maxRecDepth 100000
set_option maxHeartbeats 2000000
/-! Dicts with tuples of whole numbers as keys. -/
namespace VL
open PySem L2 PySem.Spec PyProof.Rows
section
variable {K : PySem.W.Frag} {cl : Str → Option Addr}
def kvT (ks : List (List Int)) : List (List L2.Key × V) := ks.map fun k => (k.map Sum.inl, .bl true)
def putT (ks : List (List Int)) (k : List Int) : List (List Int) := if k ∈ ks then ks else ks ++ [k]
theorem inl_inj : ∀ {a b : List Int}, (a.map Sum.inl : List L2.Key) = b.map Sum.inl → a = b
  | [], [], _ => rfl
  | [], _ :: _, h => by cases h
  | _ :: _, [], h => by cases h
  | x :: a, y :: b, h => by
    simp only [List.map_cons, List.cons.injEq, Sum.inl.injEq] at h
    rw [h.1, inl_inj h.2]
theorem putK_T (ks : List (List Int)) (k : List Int) : putK (kvT ks) (k.map Sum.inl) (.bl true) = kvT (putT ks k) := by
  unfold putK putT
  have e : ((kvT ks).any fun kv => decide (kv.1 = (k.map Sum.inl : List L2.Key))) = decide (k ∈ ks) := by
    unfold kvT
    induction ks with
    | nil => simp
    | cons a ks ih =>
      rw [List.map_cons, List.any_cons, ih]
      by_cases h : a = k
      · subst h; simp
      · have h' : ¬ (a.map Sum.inl : List L2.Key) = k.map Sum.inl := fun z => h (inl_inj z)
        have h2 : ¬ k = a := fun z => h z.symm
        simp [h', h2]
  rw [e]
  by_cases h : k ∈ ks
  · rw [if_pos (decide_eq_true h), if_pos h]
    unfold kvT
    rw [List.map_map]
    refine List.map_congr_left fun x _ => ?_
    simp only [Function.comp]
    split <;> rfl
  · rw [if_neg (by simpa using h), if_neg h]
    unfold kvT
    rw [List.map_append]
    rfl
theorem kV_ints (k : List Int) : (k.map Sum.inl : List L2.Key).map kV = k.map V.int := by
  rw [List.map_map]
  rfl
/-! ### d = {} -/
def wDNew (i : Nat) : WS := fun D sl st => D.nx (sl.set i (some (.l st.length))) (st ++ [.dT []])
theorem ss_dNew {i : Nat} : SS K cl (tAsg tDNewT (gName i)) (wDNew i) := by
  intro D' sl st hw F G H σ al S D d p hp
  obtain ⟨S2, g2⟩ := S.newCell (o := .dT []) (c := .dT []) hp ⟨S.fh.free hp, upd_same⟩
  refine d.nx _ _ _ _ _ _ _ hw g2 (S2.set (v := .ref p) ⟨p, ?_, rfl⟩)
  rw [List.getElem?_append_right (by rw [S.cnt]; omega), S.cnt, Nat.sub_self]
  rfl
/-! ### a tuple of one's own, to be a key -/
abbrev WK := Sl → Sto → (List PV → Sto → Prop) → Prop
def SEU (K : PySem.W.Frag) (cl : Str → Option Addr) (te : TE) (w : WK) : Prop := ∀ sl st R, w sl st R → ∀ F G H σ al, SOk K cl F G H σ al sl st → ∀ Q : VK,
  (∀ b vs ps st' F' G' H', R ps st' → Gr F G al st F' G' al st' → SOk K cl F' G' H' σ al sl st' → G' b = some (.tup vs) → RepL K cl G' vs ps → Q (.ref b) H') → te σ H Q
/-- tuple(l) -/
def rTup (K : PySem.W.Frag) : List V → Hp → VK → Prop := fun xs H Q => ∃ p ys, xs = [.ref p] ∧ ((SqL K H p ys ∧ ∀ l, H l = none → Q (.ref l) (upd H l (.tup ys))) ∨ (SqT K H p ys ∧ Q (.ref p) H))
def wTupU (wa : WA) : WK := fun sl st R => wa sl st fun xs st1 => match xs with
  | [x] => match items x st1 with
    | some ps => R ps st1
    | none => False
  | _ => False
theorem seu_tup {ta : TA} {wa : WA} (h : SA K cl ta wa) : SEU K cl (tCB (rTup K) ta) (wTupU wa) := by
  intro sl st R hw F G H σ al S Q q
  refine h sl st _ hw F G H σ al S _ fun vs xs st1 F1 G1 H1 h1 g1 S1 rs => ?_
  dsimp only at h1
  split at h1
  · rename_i x
    split at h1
    · rename_i ps e
      obtain ⟨v, rfl, r⟩ := rs.one
      obtain ⟨a, us, rfl, hH, l⟩ := items_at S1 r e
      refine ⟨a, us, rfl, .inl ⟨SqL.of hH, fun p hp => ?_⟩⟩
      obtain ⟨S2, g2⟩ := S1.new (o := .tup us) hp
      exact q p us ps st1 _ _ _ h1 (g1.trans g2) S2 upd_same (RepL.mono g2.gg _ _ l)
    · exact h1.elim
  · exact h1.elim
/-- made(a, b), a new tuple -/
def spMade : Sp := fun vs H Q _ => ∃ a b : Int, vs = [.int a, .int b] ∧ 0 < b ∧ b < 1073741824 ∧ ∀ p, H p = none → Q (.ref p) (upd H p (.tup [.int (mkF a b).1, .int (mkF a b).2]))
def wMadeU (wa : WA) : WK := fun sl st R => wa sl st fun xs st1 => match xs with
  | [.v (.int a), .v (.int b)] => (0 < b ∧ b < 1073741824) ∧ R [.int (mkF a b).1, .int (mkF a b).2] st1
  | _ => False
theorem seu_made {ta : TA} {wa : WA} (h : SA K cl ta wa) : SEU K cl (tCall spMade [] E0 ta) (wMadeU wa) := by
  intro sl st R hw F G H σ al S Q q
  refine h sl st _ hw F G H σ al S _ fun vs xs st1 F1 G1 H1 h1 g1 S1 rs => ?_
  dsimp only at h1
  split at h1
  · rename_i a b
    obtain ⟨v, u, rfl, r, r'⟩ := rs.two
    cases r
    cases r'
    refine ⟨a, b, rfl, h1.1.1, h1.1.2, fun p hp => ?_⟩
    obtain ⟨S2, g2⟩ := S1.new (o := .tup [.int (mkF a b).1, .int (mkF a b).2]) hp
    exact q p _ _ st1 _ _ _ h1.2 (g1.trans g2) S2 upd_same (.cons (.int _) (.cons (.int _) .nil))
  · exact h1.elim
/-! ### d[key] = True -/
def wDPut (i : Nat) (wk : WK) : WS := fun D sl st => ∃ k, sl[i]? = some (some (.l k)) ∧ wk sl st fun ps st1 => ∃ ks key, st1[k]? = some (.dT ks) ∧ ps = key.map PV.int ∧ ks.length < 100000 ∧ D.nx sl (st1.set k (.dT (putT ks key)))
theorem ss_dPut {i : Nat} {ty : TE} {wk : WK} (h : SEU K cl ty wk) : SS K cl (sDPut (tVar i) ty (tC (.bl true))) (wDPut i wk) := by
  intro D' sl st hw F G H σ al S D d
  obtain ⟨k, hi, hw⟩ := hw
  obtain ⟨v, hv, a, ha, rfl⟩ := S.slots i _ hi
  refine ⟨_, hv, ?_⟩
  refine h sl st _ hw F G H σ al S _ fun b vs ps st1 F1 G1 H1 h1 g1 S1 hb l => ?_
  obtain ⟨ks, key, hk, rfl, hlen, hn⟩ := h1
  obtain ⟨a', ha', f, e⟩ := S1.cells k _ hk
  rw [ha] at ha'
  cases ha'
  have ev := l.ints_inv
  subst ev
  have eb : H1 b = some (.tup ((key.map Sum.inl : List L2.Key).map kV)) := by rw [kV_ints]; exact S1.fh _ _ (S1.gf _ _ hb)
  refine ⟨a, _, rfl, DPut.t (v := .bl true) e eb (by rw [List.length_map]; exact line_lt hlen), ?_⟩
  have pk := putK_T ks key
  unfold kvT at pk
  rw [pk]
  obtain ⟨S2, g2⟩ := S1.write (o := .dT (kvT (putT ks key))) (c' := .dT (putT ks key)) hk ha f ⟨f, upd_same⟩ (by intro z; cases z)
  exact d.nx _ _ _ _ _ _ _ hn (g1.trans g2) S2
/-! ### list(d) -/
def rListD : List V → Hp → VK → Prop := fun xs H Q => ∃ d kvs, xs = [V.ref d] ∧ Rd H d (.dT kvs) ∧ ∀ p bs, H p = none → IsKeys H kvs bs → Q (.ref p) (upd H p (.lst (bs.map V.ref)))
def wListD : WL := fun xs st R => match xs with
  | [.l k] => match st[k]? with
    | some (.dT ks) => R (.v (.lst (ks.map tls))) st
    | _ => False
  | _ => False
theorem keys_rep {G H : Hp} : ∀ {ks : List (List Int)} {bs : List Addr}, IsKeys H (kvT ks) bs → (∀ b ∈ bs, G b = H b) → RepL K cl G (bs.map V.ref) (ks.map tls)
  | [], _, h, _ => by
    cases h
    exact .nil
  | k :: ks, _, h, hg => by
    cases h with
    | cons h1 h2 =>
      rename_i b bs
      refine .cons (.tup (vs := k.map V.int) (SqU.of ?_) (RepL.ints _)) (keys_rep h2 fun c hc => hg c (List.mem_cons_of_mem _ hc))
      rw [hg b (List.mem_cons_self ..), h1, kV_ints]
theorem keys_tup {H : Hp} : ∀ {kvs : List (List L2.Key × V)} {bs : List Addr}, IsKeys H kvs bs → ∀ b ∈ bs, ∃ xs, H b = some (.tup xs)
  | [], _, h, b, hb => by
    cases h
    cases hb
  | kv :: kvs, _, h, b, hb => by
    cases h with
    | cons h1 h2 =>
      rcases List.mem_cons.mp hb with e | e
      · subst e; exact ⟨_, h1⟩
      · exact keys_tup h2 b e
theorem sc_listD : SC K cl rListD wListD := by
  intro xs sl st R hw F G H σ al S vs rs Q q
  unfold wListD at hw
  split at hw
  · rename_i k
    split at hw
    · rename_i ks hk
      obtain ⟨v, rfl, a, ha, rfl⟩ := rs.one
      obtain ⟨a', ha', f, e⟩ := S.cells k _ hk
      rw [ha] at ha'
      cases ha'
      refine ⟨a, _, rfl, .inl e, fun p bs hp hb => ?_⟩
      obtain ⟨F1, G1, S1, g1, e1⟩ := S.addTups (keys_tup hb)
      obtain ⟨S2, g2⟩ := S1.new (o := .lst (bs.map V.ref)) hp
      exact q (.ref p) (.v (.lst (ks.map tls))) st _ _ _ hw (g1.trans g2) S2 (.lst upd_same (RepL.mono g2.gg _ _ (keys_rep hb e1)))
    · exact hw.elim
  · exact hw.elim
/-! ### [.. for k in d] -/
def wLockT (i : Nat) (w : WS) : WS := fun D sl st => ∃ k ks, sl[i]? = some (some (.l k)) ∧ st[k]? = some (.dT ks) ∧
  w { nx := fun sl st => st[k]? = some (.lkT ks) ∧ D.nx sl (st.set k (.dT ks)), rt := fun _ _ => False } sl (st.set k (.lkT ks))
theorem ss_lockT {i : Nat} {t : TS} {w : WS} (hs : SS K cl t w) : SS K cl (tLock t) (wLockT i w) := by
  intro D' sl st hw F G H σ al S D d
  obtain ⟨k, ks, hi, hk, hw⟩ := hw
  obtain ⟨a, ha, f, e, lk⟩ := S.lockT hk
  refine ⟨a, _, e, trivial, fun od => ?_⟩
  obtain ⟨S2, g2⟩ := lk od
  refine hs _ _ _ hw _ G _ σ al S2 _ ⟨?_, ?_, ?_, ?_⟩
  · rintro σ3 sl3 st3 F3 G3 H3 al3 ⟨hk3, r⟩ g3 S3
    have hF := g3.ff _ _ (upd_same (a := a))
    obtain ⟨F4, S4, _, s4, n4⟩ := S3.unlockT hk3 (g3.pre _ _ ha) f g3
    refine ⟨S3.fh _ _ hF, d.nx _ _ _ _ _ _ _ r ⟨s4, g3.gg, n4, g3.pre, fun j hj => ?_⟩ S4⟩
    by_cases hjk : j = k
    · subst hjk
      rw [hk] at hj
      cases hj
    · rw [List.getElem?_set_ne (Ne.symm hjk)]
      exact g3.dice j (by rw [List.getElem?_set_ne (Ne.symm hjk)]; exact hj)
  · intro _ _ _ _ _ _ _ h; exact h.elim
  · intro _ _ _ _ _ _ _ h; exact h.elim
  · intro _ _ _ _ _ _ _ _ _ h; exact h.elim
def wIKL (i : Nat) : WI := fun sl st R => ∃ k ks, sl[i]? = some (some (.l k)) ∧ st[k]? = some (.lkT ks) ∧ R (ks.map tls) st
theorem si2_keys {i : Nat} : SI2 K cl (iKeys (tVar i)) (wIKL i) := by
  intro sl st R hw F G H σ al S Q q
  obtain ⟨k, ks, hi, hk, hR⟩ := hw
  obtain ⟨v, hv, a, ha, rfl⟩ := S.slots i _ hi
  obtain ⟨a', ha', g, od, e⟩ := S.cells k _ hk
  rw [ha] at ha'
  cases ha'
  refine ⟨_, hv, a, od, rfl, .inr ⟨_, S.fh _ _ e, q _ _ _ _ _ _ hR .refl S ⟨fun i H hi s => ?_, fun H s => ?_, fun i H x H' hi s y => ?_⟩⟩⟩
  · exact walk_keysT.goes i H (by simpa using hi) (s _ _ e)
  · have := walk_keysT.stops H (s _ _ e)
    simpa using this
  · rw [List.length_map] at hi
    obtain ⟨e1, key, v, p, h1, h2, h3⟩ := walk_keysT.yields i H x H' (by simpa using hi) (s _ _ e) y
    rw [List.getElem?_map, List.getElem?_eq_getElem hi] at h1
    cases h1
    refine ⟨tls ks[i], by rw [List.getElem?_map, List.getElem?_eq_getElem hi]; rfl, .inr (.inr ⟨p, ks[i].map V.int, ks[i].map PV.int, h2, ?_, e1, rfl, RepL.ints _⟩)⟩
    rw [h3, kV_ints]
end
end VL

set_option Elab.async false
set_option linter.all false
set_option maxRecDepth 100000
set_option maxHeartbeats 2000000
/-! Dicts: the rules with their readings. -/
namespace VL
open PySem L2 PySem.Spec PyProof.Rows
structure QU (cl : Str → Option Addr) (K : PySem.W.Frag) (X : Cx) (e : Expr) (te : TE) (w : WK) : Prop where
  k : X.K = K
  pe : PE X e te
  se : SEU K cl te w
section
variable {cl : Str → Option Addr} {K : PySem.W.Frag} {X : Cx} {pos p2 p3 pd : Pos} {a b c e o : Expr} {es : List Expr} {ta tb tc te to : TE} {wa wb wc w wo : WE} {A : TA} {WA' : WA} {x : Str}
theorem call_tupK (hk : X.K = K := by rfl) : CallR X (.type "tuple") (rTup K) := by subst hk; exact call_tuple_of
theorem qu_tup (hm : X.mg x = none) (hv : bootBuiltins x = some (.type "tuple")) (h : QA cl K X (e :: es) A WA') (hg : Gl X x := by rfl) (hn : x ≠ "__name__" := by decide) (hdb : (x == ("__debug__" : Str)) = false := by decide)
    (he : starEach (e :: es) X.env = (false, eval e X.env) :: starEach es X.env := by rfl) (hpl : (backTo pos (starEach es X.env)).any (·.1) = false := by rfl) : QU cl K X (.Call (.Name x p2) (e :: es) [] pos) (tCB (rTup K) A) (wTupU WA') := by
  obtain rfl := h.k
  exact ⟨rfl, pe_callTy call_tupK hg hm hv h.pe hn hdb he hpl, seu_tup h.se⟩
theorem qu_made {k : Nat} (F : Fn X.prog X.w K X.mg X.base x k spMade) (hr : Room k X.A) (h : QA cl K X (e :: es) A WA') (hg : Gl X x := by rfl) (hdb : (x == ("__debug__" : Str)) = false := by decide)
    (he : starEach (e :: es) X.env = (false, eval e X.env) :: starEach es X.env := by rfl) (hpl : (backTo pos (starEach es X.env)).any (·.1) = false := by rfl) : QU cl K X (.Call (.Name x p2) (e :: es) [] pos) (tCall spMade [] E0 A) (wMadeU WA') := by
  obtain rfl := h.k
  obtain ⟨f, fd, ps, F1, hm, hk, hb⟩ := F.ex
  exact ⟨rfl, pe_call F1 hr hg hm hk hb .nil pass0 h.pe hdb he hpl, seu_made h.se⟩
theorem qs_dNew (i : Nat) (hN : X.N.Nodup) (hi : X.N[i]? = some x := by rfl) (hx : Loc X.env.scope x := by first | exact Or.inl rfl | exact Or.inr rfl) (hs : swapsWith (.Dict [] [] pd) (some (.Name x p2)) pos.line X.env = pure false := by rfl) (hf : X.fn x = true ∨ X.env.scope.names.lookup x = some .local := by first | exact .inl rfl | exact .inr rfl | assumption) (hk : X.K = K := by rfl) :
    QS cl K X (.Assign [.Name x p2] (.Dict [] [] pd) pos) (tAsg tDNewT (gName i)) (wDNew i) := ⟨hk, ps_set hN hi hx pe_dnewT hs hf, ss_dNew⟩
theorem qs_dPut {i : Nat} {te : TE} {wk : WK} {j} (hu : X.A.units + 64 < cLine) (ho : QE cl K X o (tVar i) (wVar i)) (hk : QU cl K X e te wk) (hs : swapsWith (.Constant (.bool true) j p3) (some (.Subscript o e p2)) pos.line X.env = pure false := by rfl) :
    QS cl K X (.Assign [.Subscript o e p2] (.Constant (.bool true) j p3) pos) (sDPut (tVar i) te (tC (.bl true))) (wDPut i wk) := by
  obtain rfl := hk.k
  exact ⟨rfl, ps_dput (by omega) ho.pe hk.pe pe_bl hs, ss_dPut hk.se⟩
section
variable {elt tg iter : Expr} {ifs : List Expr} {scope : Scope} {own : List (Str × Nat)} {g : TG} {ts : List Nat} {tt : TT} {wg : WG} {wt : WT} {py : Pos} {y : Str}
/-- x = [.. for k in d], d a dict of one's own -/
theorem qs_lcK (i j : Nat) (hc : X.calm = true) (hN : X.N.Nodup) (hi : QE cl K X iter (tVar j) (wVar j)) (ok : BlkOk X.N X.env.scope scope own)
    (hg : ∀ (s : Shared) (H : Hp) (C : Addr) (cl' : List (Str × Addr)) (fp : List Addr), QG cl K (X.blk s H scope (compEnvC scope cl' C X.env) fp) tg g ts wg) (ht : ∀ (s : Shared) (H : Hp) (C : Addr) (cl' : List (Str × Addr)) (fp : List Addr), QPs cl K (X.blk s H scope (compEnvC scope cl' C X.env) fp) ifs tt wt)
    (he : ∀ (s : Shared) (H : Hp) (C : Addr) (cl' : List (Str × Addr)) (fp : List Addr), QE cl K (X.blk s H scope (compEnvC scope cl' C X.env) fp) elt te w) (hy : X.N[i]? = some y := by rfl) (hyl : X.env.scope.names.lookup y = some .local := by rfl)
    (hsw : swapsWith (.ListComp elt [⟨tg, iter, ifs, 0⟩] scope p2) (some (.Name y py)) pos.line X.env = pure true := by exact sw_true rfl rfl rfl (by decide +kernel)) (hv : ∀ t ∈ ts, t ∈ own.map (·.2) := by decide) (hs : ∀ x, foldedSetIterable iter X.env x = pure x := by intro _; rfl) :
    QS cl K X (.Assign [.Name y py] (.ListComp elt [⟨tg, iter, ifs, 0⟩] scope p2) pos) (tLock (tAsg (tLc (iKeys (tVar j)) g tt te (own.map (·.2))) (gName i))) (wLockT j (wAsg (wOfN (wLc (wIKL j) wg wt w (own.map (·.2)))) (wName i))) := by
  obtain rfl := hi.k
  exact ⟨rfl, ps_lock (ps_setLc hc hN hy hyl hsw (pi_keys hi.pe) ok (fun s H C cl' fp => (hg s H C cl' fp).pe) (fun s H C cl' fp => (ht s H C cl' fp).pe) (fun s H C cl' fp => (he s H C cl' fp).pe) hs),
    ss_lockT (ss_asg (se_ofN (sen_lc2 si2_keys (hg X.s_0 X.H_0 0 [] []).se (ht X.s_0 X.H_0 0 [] []).se (he X.s_0 X.H_0 0 [] []).se hv)) sg_name)⟩
end
end
def sp_readings_of : VSp := fun ps R => ∃ (first : Nat) (ts : List Int), ps = [.int first, ils ts] ∧ 0 < ts.length ∧ TOk ts ∧ ∀ L, SortedAll first ts L → R (.lst (L.map (foundP ts)))
end VL

set_option Elab.async false
set_option linter.all false
set_option maxRecDepth 100000
set_option maxHeartbeats 2000000
/-! Small facts for readings_of. -/
namespace VL
open PySem L2
def rowsOf {α : Type} (f : α → List Int) (l : List α) : List (List Int) := l.foldl (fun acc u => putT acc (f u)) []
theorem putT_nodup {ks : List (List Int)} {k : List Int} (h : ks.Nodup) : (putT ks k).Nodup := by
  unfold putT
  split
  · exact h
  · rename_i n
    rw [List.nodup_append]
    exact ⟨h, by simp, fun a ha b hb e => n (by rw [List.mem_singleton] at hb; rw [← hb, ← e]; exact ha)⟩
theorem mem_putT {ks : List (List Int)} {k r : List Int} : r ∈ putT ks k ↔ r ∈ ks ∨ r = k := by
  unfold putT
  split
  · rename_i h
    constructor
    · exact .inl
    · rintro (q | rfl)
      · exact q
      · exact h
  · simp
theorem putT_len (ks : List (List Int)) (k : List Int) : (putT ks k).length ≤ ks.length + 1 := by
  unfold putT
  split <;> simp
theorem rows_aux {α : Type} {f : α → List Int} : ∀ (l : List α) (acc : List (List Int)), acc.Nodup → (l.foldl (fun acc u => putT acc (f u)) acc).Nodup ∧ (∀ r, r ∈ l.foldl (fun acc u => putT acc (f u)) acc ↔ r ∈ acc ∨ ∃ u ∈ l, r = f u) ∧ (l.foldl (fun acc u => putT acc (f u)) acc).length ≤ acc.length + l.length
  | [], acc, h => ⟨h, fun r => by simp, by simp⟩
  | a :: l, acc, h => by
    obtain ⟨h1, h2, h3⟩ := rows_aux l (putT acc (f a)) (putT_nodup h)
    have := putT_len acc (f a)
    refine ⟨h1, fun r => ?_, by rw [List.length_cons]; simp only [List.foldl_cons]; omega⟩
    rw [List.foldl_cons, h2, mem_putT]
    constructor
    · rintro ((q | q) | ⟨u, hu, q⟩)
      · exact .inl q
      · exact .inr ⟨a, List.mem_cons_self .., q⟩
      · exact .inr ⟨u, List.mem_cons_of_mem _ hu, q⟩
    · rintro (q | ⟨u, hu, q⟩)
      · exact .inl (.inl q)
      · rcases List.mem_cons.mp hu with e | e
        · subst e; exact .inl (.inr q)
        · exact .inr ⟨u, e, q⟩
theorem rows_nodup {α : Type} (f : α → List Int) (l : List α) : (rowsOf f l).Nodup := (rows_aux l [] .nil).1
theorem mem_rows {α : Type} {f : α → List Int} {l : List α} {r : List Int} : r ∈ rowsOf f l ↔ ∃ u ∈ l, r = f u := by
  have := (rows_aux (f := f) l [] .nil).2.1 r
  unfold rowsOf
  rw [this]
  simp
theorem rows_len {α : Type} (f : α → List Int) (l : List α) : (rowsOf f l).length ≤ l.length := by
  have := (rows_aux (f := f) l [] .nil).2.2
  unfold rowsOf
  simpa using this
theorem rows_snoc {α : Type} (f : α → List Int) (l : List α) (u : α) : rowsOf f (l ++ [u]) = putT (rowsOf f l) (f u) := by
  unfold rowsOf
  rw [List.foldl_append]
  rfl
/-! marks as keys -/
def km (m : Fr) : List Int := [m.1, m.2]
theorem km_inj {a b : Fr} (h : km a = km b) : a = b := by
  unfold km at h
  injection h with h1 h2
  injection h2 with h2
  exact Prod.ext h1 h2
def pairsOf (ts : List Int) : List (Int × Int) := ts.flatMap fun t => [(t, 2), (t, 5)]
def markK (p : Int × Int) : List Int := km (mkF p.1 p.2)
theorem pairs_snoc (ts : List Int) (t : Int) : pairsOf (ts ++ [t]) = (pairsOf ts ++ [(t, 2)]) ++ [(t, 5)] := by
  unfold pairsOf
  simp
theorem pairs_len (ts : List Int) : (pairsOf ts).length = 2 * ts.length := by
  unfold pairsOf
  induction ts with
  | nil => rfl
  | cons a l ih =>
    rw [List.flatMap_cons, List.length_append, ih]
    simp
    omega
theorem keys_are : ∀ {ks : List (List Int)}, (∀ k ∈ ks, ∃ m, k = km m) → ∃ ms : List Fr, ks = ms.map km
  | [], _ => ⟨[], rfl⟩
  | k :: ks, h => by
    obtain ⟨m, e⟩ := h k (List.mem_cons_self ..)
    obtain ⟨ms, e2⟩ := keys_are (ks := ks) fun k hk => h k (List.mem_cons_of_mem _ hk)
    exact ⟨m :: ms, by rw [e, e2]; rfl⟩
theorem marks_of (ts : List Int) : ∃ ms : List Fr, rowsOf markK (pairsOf ts) = ms.map km ∧ ms.Nodup ∧ (∀ m, m ∈ ms ↔ IsMark ts m) ∧ ms.length ≤ 2 * ts.length := by
  obtain ⟨ms, e⟩ := keys_are (ks := rowsOf markK (pairsOf ts)) fun k hk => by
    obtain ⟨p, _, e⟩ := mem_rows.mp hk
    exact ⟨_, e⟩
  refine ⟨ms, e, nodup_of_map (f := km) (by rw [← e]; exact rows_nodup _ _), fun m => ?_, ?_⟩
  · have h1 : m ∈ ms ↔ km m ∈ ms.map km := by
      rw [List.mem_map]
      constructor
      · intro h; exact ⟨m, h, rfl⟩
      · rintro ⟨a, ha, q⟩; rw [← km_inj q]; exact ha
    rw [h1, ← e, mem_rows]
    unfold pairsOf IsMark
    constructor
    · rintro ⟨p, hp, q⟩
      obtain ⟨t, ht, hp⟩ := List.mem_flatMap.mp hp
      have q' := km_inj q
      simp at hp
      rcases hp with rfl | rfl
      · exact ⟨t, ht, .inl q'⟩
      · exact ⟨t, ht, .inr q'⟩
    · rintro ⟨t, ht, rfl | rfl⟩
      · exact ⟨(t, 2), List.mem_flatMap.mpr ⟨t, ht, by simp⟩, rfl⟩
      · exact ⟨(t, 5), List.mem_flatMap.mpr ⟨t, ht, by simp⟩, rfl⟩
  · have := rows_len markK (pairsOf ts)
    rw [e, List.length_map, pairs_len] at this
    exact this
theorem map_km (ms : List Fr) : (ms.map km).map tls = ms.map fr := by
  rw [List.map_map]
  rfl
theorem idx_last {xs : List Fr} (h : 0 < xs.length) : idx (xs.map fr) (-1) = some (fr (atF xs (xs.length - 1))) := by
  unfold idx
  rw [if_neg (by decide), List.length_map]
  have e : ((-1 : Int) + (xs.length : Int)).toNat = xs.length - 1 := by omega
  first
    | rw [if_pos (by omega), e, List.getElem?_map, List.getElem?_eq_getElem (by omega)]; unfold atF; simp [List.getD, (show xs.length - 1 < xs.length by omega)]
    | (simp; done)
theorem mids_snoc (ys : List Fr) (n : Nat) : midsOf ys (n + 1) = midsOf ys n ++ [midF (atF ys n) (atF ys (n + 1))] := by
  unfold midsOf
  rw [List.range_succ, List.map_append]
  rfl
theorem at0_get {ns : List Int} {i : Nat} (h : i < ns.length) : ns[i]? = some (at0 ns i) := by unfold at0; simp [List.getD, h]
theorem units_pos {ys : List Fr} (yl : 0 < ys.length) (hp : ∀ m ∈ ys, PosF m) : ∀ u ∈ VL.unitsOf ys, PosF u := fun u hu => by
  have pat : ∀ i, i < ys.length → PosF (atF ys i) := fun i hi => hp _ (atF_mem hi)
  unfold VL.unitsOf midsOf at hu
  rcases List.mem_append.mp hu with q | q
  · simp at q
    rcases q with rfl | rfl
    · exact half_pos (pat 0 yl)
    · exact dbl_pos (pat _ (by omega))
  · obtain ⟨k, hk, rfl⟩ := List.mem_map.mp q
    have hk' := List.mem_range.mp hk
    exact mid_pos (pat k (by omega)) (pat (k + 1) (by omega))
/-! the marks can be put in order -/
theorem exists_min {α : Type} {lt : α → α → Prop} (P : α → Prop) (irr : ∀ x, ¬ lt x x) (trans : ∀ x y z, P x → P y → P z → lt x y → lt y z → lt x z) : ∀ (l : List α), (∀ x ∈ l, P x) → 0 < l.length → ∃ m ∈ l, ∀ x ∈ l, ¬ lt x m
  | [], _, h => by cases h
  | [a], _, _ => ⟨a, List.mem_singleton.mpr rfl, fun x hx => by rw [List.mem_singleton.mp hx]; exact irr a⟩
  | a :: b :: l, hp, _ => by
    obtain ⟨m, hm, hmin⟩ := exists_min P irr trans (b :: l) (fun x hx => hp x (List.mem_cons_of_mem _ hx)) (by simp)
    have pa := hp a (List.mem_cons_self ..)
    have pm := hp m (List.mem_cons_of_mem _ hm)
    by_cases h : lt a m
    · refine ⟨a, List.mem_cons_self .., fun x hx hxa => ?_⟩
      rcases List.mem_cons.mp hx with e | e
      · subst e; exact irr _ hxa
      · exact hmin x e (trans x a m (hp x hx) pa pm hxa h)
    · refine ⟨m, List.mem_cons_of_mem _ hm, fun x hx => ?_⟩
      rcases List.mem_cons.mp hx with e | e
      · subst e; exact h
      · exact hmin x e
theorem exists_sorted : ∀ (n : Nat) (orig dn lf : List Fr), lf.length = n → orig.Nodup → (∀ x ∈ orig, Low x) → SelInv lessF orig dn lf → ∃ ys : List Fr, ys.Perm orig ∧ ys.Pairwise lessF
  | 0, orig, dn, lf, hl, _, _, S => by
    have : lf = [] := List.length_eq_zero_iff.mp hl
    subst this
    exact ⟨dn, S.done⟩
  | n + 1, orig, dn, lf, hl, hn, hp, S => by
    obtain ⟨m, hm, hmin⟩ := exists_min (lt := lessF) Low (fun x => lessF_irr x) (fun x y z hx hy hz => lessF_trans hx hy hz) lf (fun x hx => hp x (S.sub hx)) (by omega)
    obtain ⟨j, hj, _⟩ := first_place hm
    have hjl := (List.getElem?_eq_some_iff.mp hj).1
    exact exists_sorted n orig (dn ++ [m]) (lf.eraseIdx j) (by rw [List.length_eraseIdx, if_pos hjl]; omega) hn hp (S.step hn (fun x hx y hy hne h => lessF_tot (hp x hx) (hp y hy) hne h) hj hmin)
theorem nodup_sub_len {α : Type} [DecidableEq α] : ∀ {a b : List α}, a.Nodup → (∀ x ∈ a, x ∈ b) → a.length ≤ b.length
  | [], b, _, _ => Nat.zero_le _
  | x :: a, b, hn, hs => by
    rw [List.nodup_cons] at hn
    have hx := hs x (List.mem_cons_self ..)
    obtain ⟨j, hj, _⟩ := first_place hx
    have hjl := (List.getElem?_eq_some_iff.mp hj).1
    have := nodup_sub_len (a := a) (b := b.eraseIdx j) hn.2 fun y hy => by
      have hb := hs y (List.mem_cons_of_mem _ hy)
      have p := (erase_perm hj).mem_iff (a := y)
      rcases List.mem_cons.mp (p.mpr hb) with e | e
      · subst e; exact (hn.1 hy).elim
      · exact e
    rw [List.length_eraseIdx, if_pos hjl] at this
    rw [List.length_cons]
    omega
theorem pairwise_nodup {ts : List Int} {L : List (List Int)} (h : L.Pairwise (ahead ts)) : L.Nodup := h.imp fun {a b} hab e => by subst e; exact ahead_irr _ _ hab
/-- so many readings at most -/
theorem sorted_len {first : Nat} {ts : List Int} {L : List (List Int)} (ht : TOk ts) (h0 : 0 < ts.length) (h : SortedAll first ts L) : L.length ≤ 2 * ts.length + 1 := by
  obtain ⟨ms, em, mnd, mem, mlen⟩ := marks_of ts
  obtain ⟨ys, hp, hs⟩ := exists_sorted ms.length ms [] ms rfl mnd (fun m hm => (mark_is ht ((mem m).mp hm)).2) (SelInv.start _)
  have hy : ∀ m, m ∈ ys ↔ IsMark ts m := fun m => by rw [hp.mem_iff]; exact mem m
  have yl : 0 < ys.length := List.length_pos_of_mem ((hy (mkF (at0 ts 0) 2)).mpr ⟨_, at0_mem h0, .inl rfl⟩)
  have yl2 := hp.length_eq
  have al := all_found (first := first) ht h0 hs hy
  have sub : ∀ r ∈ L, r ∈ (VL.unitsOf ys).map (rowF first ts) := fun r hr => by
    obtain ⟨⟨v, hv, e⟩, _⟩ := (al r).mpr ((h.2 r).mp hr)
    exact List.mem_map.mpr ⟨v, hv, e.symm⟩
  have := nodup_sub_len (pairwise_nodup h.1) sub
  rw [List.length_map] at this
  unfold VL.unitsOf midsOf at this
  rw [List.length_append, List.length_map, List.length_range] at this
  simp at this
  omega
end VL

set_option Elab.async false
set_option linter.all false
set_option maxRecDepth 100000
set_option maxHeartbeats 2000000
/-! min of a list, list.index. -/
namespace VL
open PySem L2 PySem.Spec PyProof.Rows
section
variable {K : PySem.W.Frag} {cl : Str → Option Addr}
def wMinL : WL := fun xs st R => match xs with
  | [x] => ∃ ns : List Int, items x st = some (ns.map PV.int) ∧ 0 < ns.length ∧ ∀ m, m ∈ ns → (∀ y, y ∈ ns → m ≤ y) → R (.v (.int m)) st
  | _ => False
theorem sc_minL : SC K cl (rMin K) wMinL := by
  intro xs sl st R hw F G H σ al S vs rs Q q
  unfold wMinL at hw
  split at hw
  · obtain ⟨ns, e, h0, hw⟩ := hw
    obtain ⟨v, rfl, r⟩ := rs.one
    obtain ⟨a, us, rfl, h1, l⟩ := items_at S r e
    cases l.ints_inv
    exact ⟨a, ns, rfl, SqL.of h1, h0, fun m hm hy => q.at (hw m hm hy) S (.int _)⟩
  · exact hw.elim
/-- l.index(x), l of whole numbers -/
def wIdxM (wo : WE) (wa : WA) : WE := fun sl st R => wo sl st fun o st0 => match o with
  | .v (.lst ps) => ∃ ns : List Int, ps = ns.map PV.int ∧ wa sl st0 fun xs st1 => match xs with
    | [.v (.int y)] => y ∈ ns ∧ ∀ j : Nat, j < ns.length → at0 ns j = y → R (.v (.int j)) st1
    | _ => False
  | _ => False
theorem se_idxM {to : TE} {wo : WE} {ta : TA} {wa : WA} (ho : SE K cl to wo) (ha : SA K cl ta wa) : SE K cl (tBM K "list" (rIndex K) to ta) (wIdxM wo wa) := by
  intro sl st R hw F G H σ al S Q q
  refine ho sl st _ hw F G H σ al S _ fun v o st0 F0 G0 H0 h0 g0 S0 r0 => ?_
  dsimp only at h0
  split at h0
  · rename_i ps
    obtain ⟨ns, rfl, h0⟩ := h0
    cases r0 with
    | @lst a vs _ ea l =>
      cases l.ints_inv
      refine ⟨.inl ⟨rfl, _, SqL.of (S0.fh _ _ (S0.gf _ _ ea))⟩, ?_⟩
      refine ha sl st0 _ h0 F0 G0 H0 σ al S0 _ fun us xs st1 F1 G1 H1 h1 g1 S1 rs => ?_
      dsimp only at h1
      split at h1
      · rename_i y
        obtain ⟨hy, hR⟩ := h1
        obtain ⟨u, rfl, r⟩ := rs.one
        cases r
        obtain ⟨j, hj, hj2⟩ := first_place hy
        have hjl := (List.getElem?_eq_some_iff.mp hj).1
        have eq0 : ∀ z : Int, eqV (.int z) (.int y) = decide (z = y) := fun z => by
          by_cases h : z = y
          · subst h; simp [eqV]
          · simp [eqV, h]
        refine ⟨a, ns.map V.int, .int y, j, .int y, rfl, rfl, SqL.of (S1.fh _ _ (S1.gf _ _ (g1.gg _ _ ea))), rfl, flat_ints ns, by rw [List.getElem?_map, hj]; rfl, by rw [eq0]; simp, fun m z hm hz => ?_, ?_⟩
        · rw [List.getElem?_map] at hz
          cases e : ns[m]? with
          | none => rw [e] at hz; cases hz
          | some w =>
            rw [e] at hz
            cases hz
            rw [eq0]
            refine decide_eq_false fun h => hj2 m hm ?_
            rw [e, h]
        · refine q _ (.v (.int j)) st1 _ _ _ (hR j hjl ?_) (g0.trans g1) S1 (Rep.int _)
          unfold at0
          simp [List.getD, hj]
      · exact h1.elim
  · exact h0.elim
end
section
variable {cl : Str → Option Addr} {K : PySem.W.Frag} {X : Cx} {pos p2 p3 : Pos} {e o : Expr} {es : List Expr} {te to : TE} {w wo : WE} {A : TA} {WA' : WA} {x : Str}
theorem cr_minK (hc : X.calm = true) (hk : X.K = K := by rfl) : CallR X (.builtin "min") (rMin K) := by subst hk; exact cr_min hc
theorem q_idxM {apos cpos : Pos} (ho : QE cl K X o to wo) (ha : QA cl K X (e :: es) A WA')
    (hbase : attributeBase o "index" X.env (eval o X.env) = eval o X.env := by rfl)
    (hfew : ((backTo cpos (starEach (e :: es) X.env)).all (fun x => !x.1) && (backToKw cpos (keywordEach [] X.env)).all (fun x => x.1.isSome)
      && decide ((e :: es).length + ([] : List Keyword).length + (if ([] : List Keyword).isEmpty then 0 else 1) < 30)) = true := by rfl)
    (hline : (apos.endLine == cpos.line) = true := by rfl) (hst : starEach (e :: es) X.env = (false, eval e X.env) :: starEach es X.env := by rfl) (hplain : (backTo cpos (starEach es X.env)).any (·.1) = false := by rfl) :
    QE cl K X (.Call (.Attribute o "index" apos) (e :: es) [] cpos) (tBM K "list" (rIndex K) to A) (wIdxM wo WA') := by
  obtain rfl := ho.k
  exact ⟨rfl, pe_bm PySem.F.plainAttrs_list PySem.F.slot_list_index PySem.F.type_list_index mt_index ho.pe ha.pe hbase hfew hline hst hplain, se_idxM ho.se ha.se⟩
end
/-! ### what tells readings -/
def sp_readings : VSp := fun ps R => ∃ (ts : List Int) (w : Fr), ps = [tapsP ts, fr w] ∧ 0 < ts.length ∧ TOk ts ∧ WOk w ∧ ∀ L, SortedAll 0 ts L → R (.lst ((L.filter fun r => !decide (lessF w (wd1 ts r))).map fun r => .tup [ils r, fr (wd1 ts r)]))
def sp_nearest : VSp := fun ps R => ∃ ts : List Int, ps = [tapsP ts] ∧ 0 < ts.length ∧ TOk ts ∧ ∀ r L, SortedAll 0 ts (r :: L) → R (.tup [ils r, fr (wd1 ts r)])
def sp_next : VSp := fun ps R => ∃ ts : List Int, ps = [tapsP ts] ∧ 0 < ts.length ∧ TOk ts ∧ (∀ r, SortedAll 0 ts [r] → R .non) ∧ ∀ r r2 L, SortedAll 0 ts (r :: r2 :: L) → R (fr (wd1 ts r2))
def RdV (ts l : List Int) : Prop := l.length = ts.length ∧ Valid l
def sp_others : VSp := fun ps R => ∃ ts rs : List Int, ps = [ils ts, ils rs] ∧ TapsOk ts ∧ RdV ts rs ∧ ∀ Ls : List (List Int), (∀ l ∈ Ls, RdV ts l) → R (.lst (Ls.map ils))
theorem RdV.set {ts rs : List Int} {i : Nat} {k : Int} (h : RdV ts rs) (hi : i < ts.length) (hk : k ∈ kindsL i) : RdV ts (rs.take i ++ [k] ++ rs.drop (i + 1)) := by
  obtain ⟨h1, h2⟩ := h
  have l1 : (rs.take i).length = i := by rw [List.length_take]; omega
  refine ⟨by simp; omega, fun j hj => ?_⟩
  rw [Nat.zero_add]
  have hj' : j < rs.length := by simp at hj; omega
  rw [at0_app]
  have l2 : (rs.take i ++ [k]).length = i + 1 := by simp; omega
  rw [l2]
  split
  · rw [at0_append, l1]
    split
    · rename_i hlt
      have : at0 (rs.take i) j = at0 rs j := by
        unfold at0
        simp [List.getD, List.getElem?_take, hlt]
      rw [this]
      have := h2 j hj'
      rwa [Nat.zero_add] at this
    · have e : j = i := by omega
      subst e
      rw [if_pos rfl]
      exact hk
  · rw [at0_drop]
    have e : i + 1 + (j - (i + 1)) = j := by omega
    rw [e]
    have := h2 j hj'
    rwa [Nat.zero_add] at this
@[reducible] def rdP (ts rs : List Int) : PV := .tup [ils rs, fr (wd1 ts rs)]
theorem dat_lt {ps : List PV} (h : ∀ p ∈ ps, dat p = true) : dat (.tup ps) = true := by
  simp only [dat]
  exact dats_of h
theorem dat_rd (ts rs : List Int) : dat (rdP ts rs) = true := by
  have h1 := dat_fr (wd1 ts rs)
  have h2 := dat_ils rs
  refine (dat_lt (ps := [ils rs, fr (wd1 ts rs)])) fun p hp => ?_
  simp only [List.mem_cons, List.not_mem_nil, or_false] at hp
  rcases hp with rfl | rfl
  · exact h2
  · exact h1
theorem depth_rd (ts rs : List Int) : PyData.depth (toD (rdP ts rs)) ≤ 3 := by
  have h1 := depth_fr (wd1 ts rs)
  have h2 := depth_ils rs
  unfold rdP
  simp only [toD, toDs, PyData.depth, PyData.depthAll] at h1 h2 ⊢
  omega
theorem dep_rd (ts rs : List Int) : dep (rdP ts rs) := dep_of (d := 3) (by decide) (depth_rd ts rs)
/-- no reading comes ahead of the first one -/
theorem first_least {ts r l : List Int} {L : List (List Int)} (ht : TOk ts) (h : SortedAll 0 ts (r :: L)) (hl : RdV ts l) : ¬ ahead ts l r := by
  have okr := (h.2 r).mp (List.mem_cons_self ..)
  by_cases c : lessF (wd1 ts l) (1, 1)
  · have hm := (h.2 l).mpr ⟨hl.1, hl.2, c⟩
    rcases List.mem_cons.mp hm with e | e
    · subst e; exact ahead_irr _ _
    · exact ahead_asym ht ((List.pairwise_cons.mp h.1).1 l e)
  · rintro (q | ⟨q, _⟩)
    · exact c (lessF_trans (wd1_low l ht) (wd1_low r ht) ⟨by decide, by decide⟩ q okr.2.2)
    · rw [q] at c; exact c okr.2.2
/-- the widest width allows all -/
theorem wide_ok : WOk ((99999 : Int), (100000 : Int)) := ⟨by decide, by decide, by decide, by decide +kernel⟩
theorem wide_all {ts r : List Int} (ht : TOk ts) (h : RdOk 0 ts r) : ¬ lessF ((99999 : Int), (100000 : Int)) (wd1 ts r) := by
  have w := rdok_wok ht h
  have b := widthF_bot r ht
  have w0 := w.1
  have w1 := w.2.1
  unfold lessF
  unfold wd1 at *
  dsimp only
  omega
end VL

set_option Elab.async false
set_option linter.all false
set_option maxRecDepth 100000
set_option maxHeartbeats 2000000
/-! Pieces. -/
namespace VL
open PySem L2
def sl (ts : List Int) (b e : Nat) : List Int := (ts.drop b).take (e - b)
theorem sl_len {ts : List Int} {b e : Nat} (he : e ≤ ts.length) : (sl ts b e).length = e - b := by
  unfold sl
  rw [List.length_take, List.length_drop]
  omega
theorem cutP_mid {α : Type} {f : α → PV} (ns : List α) {b e : Nat} (hb : b ≤ e) (he : e ≤ ns.length) : cutP (ns.map f) (some (b : Int)) (some (e : Int)) = ((ns.drop b).take (e - b)).map f := by
  unfold cutP
  rw [HT.sIx_nat, HT.sIx_nat, List.length_map, Nat.min_eq_left he, Nat.min_eq_left (by omega), List.map_take, List.map_drop]
theorem sl_tok {ts : List Int} (h : TOk ts) (b e : Nat) : TOk (sl ts b e) := (h.drop b).take _
def IsBest (first : Nat) (ts r : List Int) : Prop := ∃ L, SortedAll first ts (r :: L)
/-- the width allows what stands from b to e -/
def Al (ts : List Int) (w : Fr) (b e : Nat) : Prop := ∃ r, IsBest b (sl ts b e) r ∧ ¬ lessF w (wd1 (sl ts b e) r)
theorem IsBest.uniq {first : Nat} {ts r r' : List Int} (ht : TOk ts) (h : IsBest first ts r) (h' : IsBest first ts r') : r = r' := by
  obtain ⟨L, h⟩ := h
  obtain ⟨L', h'⟩ := h'
  have := h.uniq ht h'
  cases this
  rfl
abbrev Pc := Nat × Nat × List Int
structure PieceOk (ts : List Int) (w : Fr) (p : Pc) : Prop where
  lt : p.1 < p.2.1
  le : p.2.1 ≤ ts.length
  best : IsBest p.1 (sl ts p.1 p.2.1) p.2.2
  ok : ∀ e, p.1 + 1 < e → e ≤ p.2.1 → Al ts w p.1 e
  most : p.2.1 = ts.length ∨ ¬ Al ts w p.1 (p.2.1 + 1)
inductive ChainTo (ts : List Int) (w : Fr) : List Pc → Nat → Prop
  | nil : ChainTo ts w [] 0
  | snoc {L : List Pc} {p : Pc} : ChainTo ts w L p.1 → PieceOk ts w p → ChainTo ts w (L ++ [p]) p.2.1
@[reducible] def pcP (p : Pc) : PV := .tup [.int p.1, .int p.2.1, ils p.2.2]
def sp_pieces : VSp := fun ps R => ∃ (ts : List Int) (w : Fr), ps = [tapsP ts, fr w] ∧ 0 < ts.length ∧ TOk ts ∧ WOk w ∧ ∀ L, ChainTo ts w L ts.length → R (.lst (L.map pcP))
end VL

set_option Elab.async false
set_option linter.all false
set_option maxRecDepth 100000
set_option maxHeartbeats 2000000
/-! Pieces: what is allowed to e is allowed to less. -/
namespace VL
open PySem L2
theorem exists_sortedG {α : Type} [DecidableEq α] {lt : α → α → Prop} (irr : ∀ x, ¬ lt x x) (trans : ∀ x y z, lt x y → lt y z → lt x z) (tot : ∀ x y, x ≠ y → ¬ lt y x → lt x y) :
    ∀ (n : Nat) (orig dn lf : List α), lf.length = n → orig.Nodup → SelInv lt orig dn lf → ∃ ys : List α, ys.Perm orig ∧ ys.Pairwise lt
  | 0, orig, dn, lf, hl, _, S => by
    have : lf = [] := List.length_eq_zero_iff.mp hl
    subst this
    exact ⟨dn, S.done⟩
  | n + 1, orig, dn, lf, hl, hn, S => by
    obtain ⟨m, hm, hmin⟩ := exists_min (lt := lt) (fun _ => True) irr (fun x y z _ _ _ => trans x y z) lf (fun _ _ => trivial) (by omega)
    obtain ⟨j, hj, _⟩ := first_place hm
    have hjl := (List.getElem?_eq_some_iff.mp hj).1
    exact exists_sortedG irr trans tot n orig (dn ++ [m]) (lf.eraseIdx j) (by rw [List.length_eraseIdx, if_pos hjl]; omega) hn (S.step hn (fun x _ y _ hne h => tot x y hne h) hj hmin)
theorem exists_all (first : Nat) {ts : List Int} (ht : TOk ts) : ∃ L, SortedAll first ts L := by
  obtain ⟨ys, hp, hs⟩ := exists_sortedG (lt := ahead ts) (ahead_irr ts) (fun _ _ _ => ahead_trans ht) (fun _ _ => ahead_tot ht) _ (okRows first ts) [] _ rfl (okRows_nodup first ts) (SelInv.start _)
  exact ⟨ys, hs, fun rs => by rw [hp.mem_iff, mem_okRows]⟩
theorem exists_best (first : Nat) {ts : List Int} (ht : TOk ts) : ∃ r, IsBest first ts r := by
  obtain ⟨L, hL⟩ := exists_all first ht
  obtain ⟨r, L', rfl⟩ := hL.ne ht
  exact ⟨r, L', hL⟩
/-- no reading asks less than the best -/
theorem IsBest.min {first : Nat} {ts r l : List Int} (ht : TOk ts) (h : IsBest first ts r) (hl : l.length = ts.length) (hv : ValidAt first l) : ¬ ahead ts l r := by
  obtain ⟨L, h⟩ := h
  have okr := (h.2 r).mp (List.mem_cons_self ..)
  by_cases c : lessF (wd1 ts l) (1, 1)
  · have hm := (h.2 l).mpr ⟨hl, hv, c⟩
    rcases List.mem_cons.mp hm with e | e
    · subst e; exact ahead_irr _ _
    · exact ahead_asym ht ((List.pairwise_cons.mp h.1).1 l e)
  · rintro (q | ⟨q, _⟩)
    · exact c (lessF_trans (wd1_low l ht) (wd1_low r ht) ⟨by decide, by decide⟩ q okr.2.2)
    · rw [q] at c; exact c okr.2.2
/-- allowed iff some reading is -/
theorem al_iff {ts : List Int} {w : Fr} {b e : Nat} (ht : TOk ts) (hw : WOk w) : Al ts w b e ↔ ∃ l, l.length = (sl ts b e).length ∧ ValidAt b l ∧ ¬ lessF w (wd1 (sl ts b e) l) := by
  have t2 := sl_tok ht b e
  constructor
  · rintro ⟨r, ⟨L, h⟩, hn⟩
    have okr := (h.2 r).mp (List.mem_cons_self ..)
    exact ⟨r, okr.1, okr.2.1, hn⟩
  · rintro ⟨l, h1, h2, h3⟩
    obtain ⟨r, hr⟩ := exists_best b t2
    refine ⟨r, hr, fun q => ?_⟩
    have n := hr.min t2 h1 h2
    by_cases e2 : lessF (wd1 (sl ts b e) l) (wd1 (sl ts b e) r)
    · exact n (.inl e2)
    · have lw := hw.low
      have ll := wd1_low l t2
      have lr := wd1_low r t2
      rw [nless_val ll.1 lr.1] at e2
      rw [nless_val lw.1 ll.1] at h3
      rw [lessF_iff lw.1 lr.1] at q
      grind
theorem at0_take {a : List Int} {k i : Nat} (h : i < k) : at0 (a.take k) i = at0 a i := by
  unfold at0
  simp [List.getD, List.getElem?_take, h]
theorem sl_take {ts : List Int} {b e e' : Nat} (h : e' ≤ e) : sl ts b e' = (sl ts b e).take (e' - b) := by
  unfold sl
  rw [List.take_take]
  congr 1
  omega
theorem wd1_take {ts rs : List Int} {w : Fr} {k : Nat} (ht : TOk ts) (hw : WOk w) (hl : rs.length = ts.length) (h : ¬ lessF w (wd1 ts rs)) : ¬ lessF w (wd1 (ts.take k) (rs.take k)) := by
  intro q
  unfold wd1 at h q
  rw [width_less _ (ht.take k) hw.low.1 hw.1] at q
  obtain ⟨i, j, hi, hj, q⟩ := q
  rw [List.length_take] at hi hj
  refine h ((width_less _ ht hw.low.1 hw.1).mpr ⟨i, j, by omega, by omega, ?_⟩)
  unfold askF askTop at q ⊢
  rwa [at0_take (by omega), at0_take (by omega), at0_take (by omega), at0_take (by omega)] at q
theorem Al.less {ts : List Int} {w : Fr} {b e e' : Nat} (ht : TOk ts) (hw : WOk w) (h : Al ts w b e) (he : e ≤ ts.length) (h1 : b ≤ e') (h2 : e' ≤ e) : Al ts w b e' := by
  rw [al_iff ht hw] at h ⊢
  obtain ⟨l, l1, l2, l3⟩ := h
  refine ⟨l.take (e' - b), ?_, fun i hi => ?_, ?_⟩
  · rw [List.length_take, l1, sl_len he, sl_len (by omega)]
    omega
  · rw [List.length_take] at hi
    rw [at0_take (by omega)]
    exact l2 i (by omega)
  · rw [sl_take h2]
    exact wd1_take (sl_tok ht b e) hw l1 l3
theorem wd1_drop {ts rs : List Int} {w : Fr} {k : Nat} (ht : TOk ts) (hw : WOk w) (h : ¬ lessF w (wd1 ts rs)) : ¬ lessF w (wd1 (ts.drop k) (rs.drop k)) := by
  intro q
  unfold wd1 at h q
  rw [width_less _ (ht.drop k) hw.low.1 hw.1] at q
  obtain ⟨i, j, hi, hj, q⟩ := q
  rw [List.length_drop] at hi hj
  refine h ((width_less _ ht hw.low.1 hw.1).mpr ⟨k + i, k + j, by omega, by omega, ?_⟩)
  unfold askF askTop at q ⊢
  rwa [at0_drop, at0_drop, at0_drop, at0_drop] at q
theorem sl_drop {ts : List Int} {b b' e : Nat} (h : b ≤ b') : sl ts b' e = (sl ts b e).drop (b' - b) := by
  unfold sl
  rw [List.drop_take, List.drop_drop]
  congr 1
  · omega
  · congr 1
    omega
/-- .. and what is allowed from b on is allowed from later on -/
theorem Al.later {ts : List Int} {w : Fr} {b b' e : Nat} (ht : TOk ts) (hw : WOk w) (h : Al ts w b e) (he : e ≤ ts.length) (h1 : b ≤ b') (h2 : b' ≤ e) : Al ts w b' e := by
  rw [al_iff ht hw] at h ⊢
  obtain ⟨l, l1, l2, l3⟩ := h
  rw [sl_len he] at l1
  refine ⟨l.drop (b' - b), ?_, fun i hi => ?_, ?_⟩
  · rw [List.length_drop, l1, sl_len he]
    omega
  · rw [List.length_drop] at hi
    rw [at0_drop]
    have := l2 (b' - b + i) (by omega)
    have e2 : b + (b' - b + i) = b' + i := by omega
    rwa [e2] at this
  · rw [sl_drop h1]
    exact wd1_drop (sl_tok ht b e) hw l3
/-- one time alone is allowed -/
theorem Al.one {ts : List Int} {w : Fr} {b : Nat} (ht : TOk ts) (hw : WOk w) (hb : b < ts.length) : Al ts w b (b + 1) := by
  rw [al_iff ht hw]
  have hl : (sl ts b (b + 1)).length = 1 := by rw [sl_len (by omega)]; omega
  refine ⟨[1], by rw [hl]; rfl, fun i hi => ?_, fun q => ?_⟩
  · have : i = 0 := by simp at hi; omega
    subst this
    show (1 : Int) ∈ kindsL (b + 0)
    unfold kindsL
    split <;> simp
  · unfold wd1 at q
    rw [width_less _ (sl_tok ht _ _) hw.low.1 hw.1] at q
    obtain ⟨i, j, hi, hj, q⟩ := q
    rw [hl] at hi hj
    have e1 : i = 0 := by omega
    have e2 : j = 0 := by omega
    subst e1 e2
    have t := (sl_tok ht b (b + 1)).at (i := 0) (by omega)
    unfold askF askTop at q
    rw [lessF_mkR (by omega) hw.low.1] at q
    have w0 := hw.1
    have : 0 ≤ w.1 * (at0 (sl ts b (b + 1)) 0 + at0 (sl ts b (b + 1)) 0) := Int.mul_nonneg w0 (by omega)
    have z : (at0 (sl ts b (b + 1)) 0 * at0 [1] 0 - at0 (sl ts b (b + 1)) 0 * at0 [1] 0) * w.2 = 0 := by rw [Int.sub_self, Int.zero_mul]
    omega
def sp_lpieces : VSp := fun ps R => ∃ (ts : List Int) (w : Fr), ps = [ils ts, fr w] ∧ 0 < ts.length ∧ ts.length ≤ 8 ∧ TOk ts ∧ WOk w ∧ ∀ L, ChainTo ts w L ts.length → R (.lst (L.map pcP))
theorem best_al {ts r : List Int} {w : Fr} {b e : Nat} (ht : TOk ts) (h : IsBest b (sl ts b e) r) : Al ts w b e ↔ ¬ lessF w (wd1 (sl ts b e) r) := by
  constructor
  · rintro ⟨r', h', n⟩
    rw [h.uniq (sl_tok ht b e) h']
    exact n
  · exact fun n => ⟨r, h, n⟩
end VL

set_option Elab.async false
set_option linter.all false
set_option maxRecDepth 100000
set_option maxHeartbeats 2000000
/-! The fewest pieces. -/
namespace VL
open PySem L2
/-- so many allowed pieces to e -/
inductive Cut (ts : List Int) (w : Fr) : Nat → Nat → Prop
  | nil : Cut ts w 0 0
  | snoc {k b e : Nat} : Cut ts w k b → b < e → e ≤ ts.length → Al ts w b e → Cut ts w (k + 1) e
def IsMin (ts : List Int) (w : Fr) (e : Nat) (x : Int) : Prop := ∃ m : Nat, x = m ∧ Cut ts w m e ∧ ∀ k, Cut ts w k e → m ≤ k
theorem cut_zero {ts : List Int} {w : Fr} {k : Nat} (h : Cut ts w k 0) : k = 0 := by
  cases h with
  | nil => rfl
  | snoc h1 h2 => omega
theorem isMin_zero (ts : List Int) (w : Fr) : IsMin ts w 0 0 := ⟨0, rfl, .nil, fun k _ => Nat.zero_le _⟩
/-- how the ways to e tell the least -/
structure Ways (ts : List Int) (w : Fr) (ms : List Int) (e j : Nat) (ws : List Int) : Prop where
  all : ∀ x ∈ ws, ∃ b, b < j ∧ Al ts w b e ∧ x = at0 ms b + 1
  each : ∀ b, b < j → Al ts w b e → at0 ms b + 1 ∈ ws
theorem Ways.min {ts : List Int} {w : Fr} {ms ws : List Int} {e : Nat} {x : Int} (W : Ways ts w ms e e ws) (he : e ≤ ts.length) (hms : ∀ i, i < e → IsMin ts w i (at0 ms i)) (hx : x ∈ ws) (hmin : ∀ y ∈ ws, x ≤ y) : IsMin ts w e x := by
  obtain ⟨b, hb, hal, rfl⟩ := W.all x hx
  obtain ⟨m, em, hc, hm⟩ := hms b hb
  refine ⟨m + 1, by rw [em, Int.natCast_add]; rfl, .snoc hc hb he hal, fun k hk => ?_⟩
  cases hk with
  | nil => omega
  | @snoc k' b' _ h1 h2 h3 h4 =>
    obtain ⟨m', em', _, hm'⟩ := hms b' h2
    have a := hmin _ (W.each b' h2 h4)
    have c := hm' k' h1
    omega
/-- the greedy cut goes as far as any -/
theorem greedy {ts : List Int} {w : Fr} (ht : TOk ts) (hw : WOk w) {L : List Pc} {g : Nat} (h : ChainTo ts w L g) : g ≤ ts.length ∧ Cut ts w L.length g ∧ (L = [] → g = 0) ∧ ∀ e, Cut ts w L.length e → e ≤ g := by
  induction h with
  | nil => exact ⟨Nat.zero_le _, .nil, fun _ => rfl, fun e he => by
      cases he with
      | nil => exact Nat.le_refl _⟩
  | @snoc L p hc hp ih =>
    obtain ⟨h1, h2, _, h4⟩ := ih
    have alp : Al ts w p.1 p.2.1 := by
      by_cases q : p.1 + 1 < p.2.1
      · exact hp.ok _ q (Nat.le_refl _)
      · have := hp.lt
        have e : p.2.1 = p.1 + 1 := by omega
        rw [e]
        exact Al.one ht hw (by have := hp.le; omega)
    refine ⟨hp.le, ?_, fun h => by simp at h, fun e he => ?_⟩
    · rw [List.length_append]
      exact .snoc h2 hp.lt hp.le alp
    · rw [List.length_append] at he
      cases he with
      | @snoc _ b _ k1 k2 k3 k4 =>
        have hb := h4 b k1
        rcases Nat.lt_or_ge p.2.1 e with q | q
        · exfalso
          rcases hp.most with z | z
          · omega
          · have l := Al.later ht hw k4 k3 hb (by have := hp.lt; omega)
            exact z (Al.less ht hw l k3 (by have := hp.lt; omega) (by omega))
        · exact q
/-- .. so it has the fewest pieces -/
theorem greedy_min {ts : List Int} {w : Fr} (ht : TOk ts) (hw : WOk w) {L : List Pc} (h : ChainTo ts w L ts.length) (h0 : 0 < ts.length) : ∀ k, Cut ts w k ts.length → L.length ≤ k := by
  intro k hk
  -- the greedy cut ahead of its last piece does not reach the end
  have sub : ∀ {L : List Pc} {g : Nat}, ChainTo ts w L g → ∀ k, k < L.length → ∃ L' g', ChainTo ts w L' g' ∧ L'.length = k ∧ g' < g := by
    intro L g h
    induction h with
    | nil => intro k hk; cases hk
    | @snoc L p hc hp ih =>
      intro k hk
      rw [List.length_append] at hk
      by_cases q : k = L.length
      · exact ⟨L, p.1, hc, q.symm, hp.lt⟩
      · obtain ⟨L', g', a, b, c⟩ := ih k (by simp at hk; omega)
        exact ⟨L', g', a, b, by have := hp.lt; omega⟩
  rcases Nat.lt_or_ge k L.length with q | q
  · obtain ⟨L', g', a, b, c⟩ := sub h k q
    have := (greedy ht hw a).2.2.2 ts.length (by rw [b]; exact hk)
    omega
  · exact q
def sp_fewest : VSp := fun ps R => ∃ (ts : List Int) (w : Fr), ps = [ils ts, fr w] ∧ 0 < ts.length ∧ ts.length ≤ 8 ∧ TOk ts ∧ WOk w ∧ ∀ x, IsMin ts w ts.length x → R (.int x)
theorem idx_lastI {ns : List Int} (h : 0 < ns.length) : idx (ns.map PV.int) (-1) = some (.int (at0 ns (ns.length - 1))) := by
  unfold idx
  rw [if_neg (by decide), List.length_map]
  have e : ((-1 : Int) + (ns.length : Int)).toNat = ns.length - 1 := by omega
  rw [if_pos (by omega), e, get_int (by omega)]
/-- there is just one greedy cut -/
theorem chain_step {ts : List Int} {w : Fr} (ht : TOk ts) (hw : WOk w) {p q : Pc} (hp : PieceOk ts w p) (hq : PieceOk ts w q) (e : p.1 = q.1) : p = q := by
  obtain ⟨b, x, r⟩ := p
  obtain ⟨b', x', r'⟩ := q
  have e : b = b' := e
  subst e
  have lt1 := hp.lt
  have lt2 := hq.lt
  have le1 := hp.le
  have le2 := hq.le
  dsimp only at *
  have ex : x = x' := by
    rcases Nat.lt_trichotomy x x' with h | h | h
    · rcases hp.most with z | z
      · dsimp only at z; omega
      · exact (z (hq.ok (x + 1) (by show b + 1 < x + 1; omega) (by show x + 1 ≤ x'; omega))).elim
    · exact h
    · rcases hq.most with z | z
      · dsimp only at z; omega
      · exact (z (hp.ok (x' + 1) (by show b + 1 < x' + 1; omega) (by show x' + 1 ≤ x; omega))).elim
  subst ex
  have := hp.best.uniq (sl_tok ht _ _) hq.best
  dsimp only at this
  rw [this]
theorem chain_same {ts : List Int} {w : Fr} (ht : TOk ts) (hw : WOk w) : ∀ {L : List Pc} {g : Nat}, ChainTo ts w L g → ∀ {L' : List Pc} {g' : Nat}, ChainTo ts w L' g' → L.length = L'.length → L = L' ∧ g = g' := by
  intro L g h
  induction h with
  | nil =>
    intro L' g' h' hl
    cases h' with
    | nil => exact ⟨rfl, rfl⟩
    | snoc a b => simp at hl
  | @snoc L0 p hc hp ih =>
    intro L' g' h' hl
    cases h' with
    | nil => simp at hl
    | @snoc L1 q hc1 hq =>
      have hl' : L0.length = L1.length := by simpa using hl
      obtain ⟨e1, e2⟩ := ih hc1 hl'
      have := chain_step ht hw hp hq e2
      subst this
      rw [e1]
      exact ⟨rfl, rfl⟩
theorem chain_uniq {ts : List Int} {w : Fr} (ht : TOk ts) (hw : WOk w) (h0 : 0 < ts.length) {L L' : List Pc} (h : ChainTo ts w L ts.length) (h' : ChainTo ts w L' ts.length) : L = L' := by
  have a := greedy_min ht hw h h0 _ (greedy ht hw h').2.1
  have b := greedy_min ht hw h' h0 _ (greedy ht hw h).2.1
  exact (chain_same ht hw h h' (by omega)).1
theorem chain_len {ts : List Int} {w : Fr} {L : List Pc} {g : Nat} (h : ChainTo ts w L g) : L.length ≤ g ∧ ∀ p ∈ L, p.2.2.length ≤ ts.length := by
  induction h with
  | nil => exact ⟨Nat.le_refl _, fun p hp => by cases hp⟩
  | @snoc L p hc hp ih =>
    refine ⟨by rw [List.length_append]; have := ih.1; have := hp.lt; simp; omega, fun q hq => ?_⟩
    rcases List.mem_append.mp hq with z | z
    · exact ih.2 q z
    · rw [List.mem_singleton.mp z]
      obtain ⟨L3, h3⟩ := hp.best
      have := ((h3.2 p.2.2).mp (List.mem_cons_self ..)).1
      rw [this, sl_len hp.le]
      have := hp.le
      omega
theorem alk_pcs {n : Nat} {L : List Pc} (h : L.length ≤ 100000) (h2 : ∀ p ∈ L, p.2.2.length ≤ 100000) : alk (n + 3) (.lst (L.map pcP)) := by
  refine ⟨by rw [List.length_map]; exact h, fun q hq => ?_⟩
  obtain ⟨p, hp, rfl⟩ := List.mem_map.mp hq
  refine ⟨by simp, fun x hx => ?_⟩
  simp only [List.mem_cons, List.not_mem_nil, or_false] at hx
  rcases hx with rfl | rfl | rfl
  · trivial
  · trivial
  · exact alk_ils (h2 p hp)
theorem isMin_uniq {ts : List Int} {w : Fr} {e : Nat} {x y : Int} (h : IsMin ts w e x) (h' : IsMin ts w e y) : x = y := by
  obtain ⟨m, rfl, c, d⟩ := h
  obtain ⟨m', rfl, c', d'⟩ := h'
  have := d _ c'
  have := d' _ c
  omega
theorem chain_min {ts : List Int} {w : Fr} (ht : TOk ts) (hw : WOk w) (h0 : 0 < ts.length) {L : List Pc} (h : ChainTo ts w L ts.length) : IsMin ts w ts.length (L.length : Nat) :=
  ⟨L.length, rfl, (greedy ht hw h).2.1, greedy_min ht hw h h0⟩
end VL

set_option Elab.async false
set_option linter.all false
set_option maxRecDepth 100000
set_option maxHeartbeats 2000000
/-! A dict walked in a return. -/
namespace VL
open PySem L2 PySem.Spec PyProof.Rows
section
variable {K : PySem.W.Frag} {cl : Str → Option Addr}
def wLockR (i : Nat) (w : WS) : WS := fun D sl st => ∃ k ks, sl[i]? = some (some (.l k)) ∧ st[k]? = some (.dT ks) ∧
  w { nx := fun sl st => st[k]? = some (.lkT ks) ∧ D.nx sl (st.set k (.dT ks)), rt := fun p st => st[k]? = some (.lkT ks) ∧ D.rt p (st.set k (.dT ks)) } sl (st.set k (.lkT ks))
theorem ss_lockR {i : Nat} {t : TS} {w : WS} (hs : SS K cl t w) : SS K cl (tLock t) (wLockR i w) := by
  intro D' sl st hw F G H σ al S D d
  obtain ⟨k, ks, hi, hk, hw⟩ := hw
  obtain ⟨a, ha, f, e, lk⟩ := S.lockT hk
  refine ⟨a, _, e, trivial, fun od => ?_⟩
  obtain ⟨S2, g2⟩ := lk od
  have un : ∀ {σ3 : L2.St} {sl3 : Sl} {st3 : Sto} {F3 G3 H3 : Hp} {al3 : List Addr}, st3[k]? = some (.lkT ks) → Gr (upd F a (.frz od (.dT (ks.map fun k => (k.map Sum.inl, .bl true))))) G al (st.set k (.lkT ks)) F3 G3 al3 st3 → SOk K cl F3 G3 H3 σ3 al3 sl3 st3 →
      H3 a = some (.frz od (.dT (ks.map fun k => (k.map Sum.inl, .bl true)))) ∧ ∃ F4, SOk K cl F4 G3 (upd H3 a (.dT (ks.map fun k => (k.map Sum.inl, .bl true)))) σ3 al3 sl3 (st3.set k (.dT ks)) ∧ Gr F G al st F4 G3 al3 (st3.set k (.dT ks)) := by
    intro σ3 sl3 st3 F3 G3 H3 al3 hk3 g3 S3
    have hF := g3.ff _ _ (upd_same (a := a))
    obtain ⟨F4, S4, _, s4, n4⟩ := S3.unlockT hk3 (g3.pre _ _ ha) f g3
    refine ⟨S3.fh _ _ hF, F4, S4, ⟨s4, g3.gg, n4, g3.pre, fun j hj => ?_⟩⟩
    by_cases hjk : j = k
    · subst hjk
      rw [hk] at hj
      cases hj
    · rw [List.getElem?_set_ne (Ne.symm hjk)]
      exact g3.dice j (by rw [List.getElem?_set_ne (Ne.symm hjk)]; exact hj)
  refine hs _ _ _ hw _ G _ σ al S2 _ ⟨?_, ?_, ?_, ?_⟩
  · rintro σ3 sl3 st3 F3 G3 H3 al3 ⟨hk3, r⟩ g3 S3
    obtain ⟨e3, F4, S4, g4⟩ := un hk3 g3 S3
    exact ⟨e3, d.nx _ _ _ _ _ _ _ r g4 S4⟩
  · intro _ _ _ _ _ _ _ h; exact h.elim
  · intro _ _ _ _ _ _ _ h; exact h.elim
  · rintro v p σ3 sl3 st3 F3 G3 H3 al3 ⟨hk3, r⟩ g3 S3 rv
    obtain ⟨e3, F4, S4, g4⟩ := un hk3 g3 S3
    exact ⟨e3, d.rt _ _ _ _ _ _ _ _ _ r g4 S4 rv⟩
end
section
variable {cl : Str → Option Addr} {K : PySem.W.Frag} {X : Cx} {p2 : PySem.Pos} {s : Stmt} {t : TS} {v : WS} {w : WE} {te : TE}
theorem qs_lockR (j : Nat) (h : QS cl K X s t v) : QS cl K X s (tLock t) (wLockR j v) := ⟨h.k, ps_lock h.pe, ss_lockR h.se⟩
variable {elt tg iter : Expr} {ifs : List Expr} {scope : Scope} {own : List (Str × Nat)} {g : TG} {ts : List Nat} {tt : TT} {wg : WG} {wt : WT}
theorem qn_lcK (j : Nat) (hc : X.calm = true) (hN : X.N.Nodup) (hi : QE cl K X iter (tVar j) (wVar j)) (ok : BlkOk X.N X.env.scope scope own)
    (hg : ∀ (s : Shared) (H : Hp) (C : Addr) (cl' : List (Str × Addr)) (fp : List Addr), QG cl K (X.blk s H scope (compEnvC scope cl' C X.env) fp) tg g ts wg) (ht : ∀ (s : Shared) (H : Hp) (C : Addr) (cl' : List (Str × Addr)) (fp : List Addr), QPs cl K (X.blk s H scope (compEnvC scope cl' C X.env) fp) ifs tt wt)
    (he : ∀ (s : Shared) (H : Hp) (C : Addr) (cl' : List (Str × Addr)) (fp : List Addr), QE cl K (X.blk s H scope (compEnvC scope cl' C X.env) fp) elt te w) (hv : ∀ t ∈ ts, t ∈ own.map (·.2) := by decide) (hs : ∀ x, foldedSetIterable iter X.env x = pure x := by intro _; rfl) :
    QN cl K X (.ListComp elt [⟨tg, iter, ifs, 0⟩] scope p2) (tLc (iKeys (tVar j)) g tt te (own.map (·.2))) (wLc (wIKL j) wg wt w (own.map (·.2))) := by
  obtain rfl := hi.k
  exact ⟨rfl, pe_lc hc hN (pi_keys hi.pe) ok (fun s H C cl' fp => (hg s H C cl' fp).pe) (fun s H C cl' fp => (ht s H C cl' fp).pe) (fun s H C cl' fp => (he s H C cl' fp).pe) hs,
    sen_lc2 si2_keys (hg X.s_0 X.H_0 0 [] []).se (ht X.s_0 X.H_0 0 [] []).se (he X.s_0 X.H_0 0 [] []).se hv⟩
end
end VL

set_option Elab.async false
set_option linter.all false
set_option maxRecDepth 100000
set_option maxHeartbeats 2000000
/-! Loops that forget what a turn made; xs[::-1]; a list into names. -/
namespace VL
open PySem L2 PySem.Spec PyProof.Rows
def trimW (n : Nat) : Option W → Option W
  | some (.l k) => if k < n then some (.l k) else none
  | some (.ik c f k) => if k < n then some (.ik c f k) else none
  | some (.im _ _) => none
  | x => x
def trimS (n : Nat) (sl : Sl) : Sl := sl.map (trimW n)
section
variable {K : PySem.W.Frag} {cl : Str → Option Addr} {F G H F' G' H' : Hp} {σ : L2.St} {al al' : List Addr} {sl : Sl} {st st' : Sto}
theorem take_get {α : Type} {l : List α} {n k : Nat} {a : α} (h : (l.take n)[k]? = some a) : k < n ∧ l[k]? = some a := by
  rw [List.getElem?_take] at h
  split at h
  · rename_i hk; exact ⟨hk, h⟩
  · cases h
theorem get_take {α : Type} {l : List α} {n k : Nat} {a : α} (hk : k < n) (h : l[k]? = some a) : (l.take n)[k]? = some a := by
  rw [List.getElem?_take, if_pos hk]; exact h
theorem trimW_some {n : Nat} {x : Option W} {y : W} (h : trimW n x = some y) : x = some y ∧ ∀ k, (y = .l k ∨ ∃ c f, y = .ik c f k) → k < n := by
  match x, h with
  | none, h => cases h
  | some (.im _ _), h => cases h
  | some (.v p), h => cases h; exact ⟨rfl, fun k e => by rcases e with e | ⟨_, _, e⟩ <;> cases e⟩
  | some (.o p), h => cases h; exact ⟨rfl, fun k e => by rcases e with e | ⟨_, _, e⟩ <;> cases e⟩
  | some (.l k), h =>
    have h' : (if k < n then some (W.l k) else none) = some y := h
    split at h'
    · rename_i hk
      cases h'
      exact ⟨rfl, fun j e => by rcases e with e | ⟨_, _, e⟩ <;> cases e; exact hk⟩
    · cases h'
  | some (.ik c f k), h =>
    have h' : (if k < n then some (W.ik c f k) else none) = some y := h
    split at h'
    · rename_i hk
      cases h'
      exact ⟨rfl, fun j e => by rcases e with e | ⟨_, _, e⟩ <;> cases e; exact hk⟩
    · cases h'
theorem SOk.trim (n : Nat) (S : SOk K cl F G H σ al sl st) : SOk K cl F G H σ (al.take n) (trimS n sl) (st.take n) := by
  refine ⟨S.gf, S.fh, fun i x h => ?_, ?_, fun k c h => ?_, fun k j a h1 h2 => S.nd k j a (take_get h1).2 (take_get h2).2, fun k a h => S.live k a (take_get h).2, ?_⟩
  · unfold trimS at h
    rw [List.getElem?_map] at h
    cases e : sl[i]? with
    | none => rw [e] at h; cases h
    | some y =>
      rw [e] at h
      have h' : trimW n y = some x := Option.some.inj h
      obtain ⟨rfl, hk⟩ := trimW_some h'
      obtain ⟨v, hv, r⟩ := S.slots i x e
      refine ⟨v, hv, ?_⟩
      cases x with
      | v p => exact r
      | o u => exact r
      | im c fs => cases h'
      | l k =>
        obtain ⟨a, ha, rfl⟩ := r
        exact ⟨a, get_take (hk k (.inl rfl)) ha, rfl⟩
      | ik c f k =>
        obtain ⟨x, C, dx, a, h1, h2, h3, h4⟩ := r
        exact ⟨x, C, dx, a, h1, h2, h3, get_take (hk k (.inr ⟨c, f, rfl⟩)) h4⟩
  · unfold trimS
    rw [List.length_map]
    exact S.len
  · obtain ⟨hk, h⟩ := take_get h
    obtain ⟨a, ha, hc⟩ := S.cells k c h
    exact ⟨a, get_take hk ha, hc⟩
  · rw [List.length_take, List.length_take, S.cnt]
theorem Gr.trim {n : Nat} (g : Gr F G al st F' G' al' st') (h1 : al.length ≤ n) (h2 : st.length ≤ n) : Gr F G al st F' G' (al'.take n) (st'.take n) :=
  ⟨g.ff, g.gg, g.new, fun k a h => get_take (Nat.lt_of_lt_of_le (List.getElem?_eq_some_iff.mp h).1 h1) (g.pre k a h), fun k h => get_take (Nat.lt_of_lt_of_le (List.getElem?_eq_some_iff.mp h).1 h2) (g.dice k h)⟩
theorem for_walkT {J : It} {ps : List PV} {B : Hp} {wg : WG} {b : WS} {g : TG} {ts : List Nat} {tb : TS} {D' : PEnds} {D : Ends} {I : Nat → Sl → Sto → Prop} {n : Nat} (wk : WalkP K cl J ps B G) (S : SOk K cl F G H σ al sl st) (hn : st.length = n) (hB : Same B F) (hg : SG K cl g ts wg) (hb : SS K cl tb b)
    (d : DOk K cl F G al st D' D) (i0 : I 0 sl st) (it : ∀ i p sl st, ps[i]? = some p → I i sl st → wg (.v p) sl st fun sl2 st2 => b { D' with nx := fun sl st => I (i + 1) (trimS n sl) (st.take n), ct := fun sl st => I (i + 1) (trimS n sl) (st.take n), bk := D'.nx } sl2 st2) (ie : ∀ sl st, I ps.length sl st → D'.nx sl st) :
    ∃ W : Nat → Nat → L2.St → Hp → Prop, (∃ m, W 0 m σ H) ∧ ∀ i m σ H, W i m σ H →
      (J.stop i H ∧ D.nx σ H) ∨ (J.go i H ∧ ∃ N : L2.St → Hp → Prop, (∀ σ' H', N σ' H' → ∃ m', m' < m ∧ W (i + 1) m' σ' H') ∧ ∀ x H', J.yld i H x H' → g x σ H' fun σ2 H2 => tb { D with nx := N, ct := N, bk := D.nx } σ2 H2) := by
  have hal : al.length ≤ n := by rw [S.cnt, hn]; exact Nat.le_refl _
  have hst : st.length ≤ n := by rw [hn]; exact Nat.le_refl _
  have walk : Walk J ps.length (fun H => Same B H) (fun i H x H' => ∃ p, ps[i]? = some p ∧ ((H' = H ∧ Rep K cl G x p) ∨ (∃ (T : Addr) (vs : List V) (qs : List PV), x = .ref T ∧ H T = none ∧ H' = upd H T (.tup vs) ∧ p = .tup qs ∧ RepL K cl G vs qs) ∨ ∃ (T : Addr) (vs : List V) (qs : List PV), x = .ref T ∧ H T = some (.tup vs) ∧ H' = H ∧ p = .tup qs ∧ RepL K cl G vs qs)) :=
    ⟨fun i H hi s => wk.goes i H hi s, fun H s => wk.stops H s, fun i H x H' hi s y => wk.yields i H x H' hi s y⟩
  refine for_it walk (fun i σ' H' => ∃ F' G' al' sl' st', I i sl' st' ∧ Gr F G al st F' G' al' st' ∧ SOk K cl F' G' H' σ' al' sl' st') ⟨F, G, al, sl, st, i0, .refl, S⟩ ?_ ?_ ?_
  · rintro i σ' H' _ ⟨F', G', al', sl', st', _, g', S'⟩
    exact (hB.trans g'.ff).trans S'.fh
  · rintro i x σ' H2 H3 hi ⟨F', G', al', sl', st', hI, g', S'⟩ ⟨p, hp, hy⟩
    have item : ∃ F3 G3, SOk K cl F3 G3 H3 σ' al' sl' st' ∧ Gr F' G' al' st' F3 G3 al' st' ∧ Rep K cl G3 x p := by
      rcases hy with ⟨rfl, r⟩ | ⟨T, ws, qs, rfl, hT, rfl, rfl, r⟩ | ⟨T, ws, qs, rfl, hT, rfl, rfl, r⟩
      · exact ⟨_, _, S', .refl, Rep.mono g'.gg _ _ r⟩
      · obtain ⟨S3, g3⟩ := S'.new (o := .tup ws) hT
        exact ⟨_, _, S3, g3, .tup (SqU.of upd_same) (RepL.mono (g'.gg.trans g3.gg) _ _ r)⟩
      · obtain ⟨F3, G3, S3, g3, e3⟩ := S'.addTups (bs := [T]) fun b hb => by rw [List.mem_singleton.mp hb]; exact ⟨ws, hT⟩
        exact ⟨F3, G3, S3, g3, .tup (SqU.of (by rw [e3 T (List.mem_singleton.mpr rfl)]; exact hT)) (RepL.mono (g'.gg.trans g3.gg) _ _ r)⟩
    obtain ⟨F3, G3, S3, g3, r3⟩ := item
    refine hg (.v p) sl' st' _ (it i p sl' st' hp hI) F3 G3 H3 σ' al' S3 x r3 _ fun σ4 sl4 e4 S4 _ => ?_
    refine hb _ sl4 st' e4 F3 G3 H3 σ4 al' S4 _ ⟨?_, ?_, ?_, ?_⟩
    · intro σ2 sl2 st2 F2 G2 H2 al2 r g2 S2
      exact ⟨F2, G2, _, _, _, r, ((g'.trans g3).trans g2).trim hal hst, S2.trim n⟩
    · intro σ2 sl2 st2 F2 G2 H2 al2 r g2 S2
      exact d.nx _ _ _ _ _ _ _ r ((g'.trans g3).trans g2) S2
    · intro σ2 sl2 st2 F2 G2 H2 al2 r g2 S2
      exact ⟨F2, G2, _, _, _, r, ((g'.trans g3).trans g2).trim hal hst, S2.trim n⟩
    · intro v p σ2 sl2 st2 F2 G2 H2 al2 r g2 S2 rv
      exact d.rt _ _ _ _ _ _ _ _ _ r ((g'.trans g3).trans g2) S2 rv
  · rintro σ' H' ⟨F', G', al', sl', st', hI, g', S'⟩
    exact d.nx _ _ _ _ _ _ _ (ie sl' st' hI) g' S'
/-- for over a value: what a turn made of one's own is forgotten behind it -/
def wForT (wi : WI) (wg : WG) (b : WS) : WS := fun D sl st => wi sl st fun ps st1 => ∃ I : Nat → Sl → Sto → Prop, I 0 sl st1 ∧
  (∀ i p sl st, ps[i]? = some p → I i sl st → wg (.v p) sl st fun sl2 st2 => b { D with nx := fun sl st => I (i + 1) (trimS st1.length sl) (st.take st1.length), ct := fun sl st => I (i + 1) (trimS st1.length sl) (st.take st1.length), bk := D.nx } sl2 st2) ∧ ∀ sl st, I ps.length sl st → D.nx sl st
theorem ss_forT {wi : TI} {g : TG} {tb : TS} {ts : List Nat} {wwi : WI} {wg : WG} {b : WS} (hi : SI K cl wi wwi) (hg : SG K cl g ts wg) (hb : SS K cl tb b) : SS K cl (tFor wi g tb) (wForT wwi wg b) := by
  intro D' sl st hw F G H σ al S D d
  refine hi sl st _ hw F G H σ al S _ fun J ps st1 F1 G1 H1 h1 g1 S1 wk => ?_
  obtain ⟨I, i0, it, ie⟩ := h1
  exact for_walkT wk S1 rfl S1.gf hg hb (d.gr g1) i0 it ie
def wForLT (w : WE) (wg : WG) (b : WS) : WS := fun D sl st => w sl st fun x st1 => match x with
  | .l k => match st1[k]? with
    | some (.lst ps) => ∃ I : Nat → Sl → Sto → Prop, I 0 sl (st1.set k (.lk ps)) ∧ (∀ i sl st, I i sl st → st[k]? = some (.lk ps)) ∧
      (∀ i p sl st, ps[i]? = some p → I i sl st → wg (.v p) sl st fun sl2 st2 => b { D with nx := fun sl st => I (i + 1) (trimS st1.length sl) (st.take st1.length), ct := fun sl st => I (i + 1) (trimS st1.length sl) (st.take st1.length), bk := fun sl st => st[k]? = some (.lk ps) ∧ D.nx sl (st.set k (.lst ps)) } sl2 st2) ∧ ∀ sl st, I ps.length sl st → D.nx sl (st.set k (.lst ps))
    | _ => False
  | _ => False
theorem ss_forLT {te : TE} {g : TG} {tb : TS} {ts : List Nat} {w : WE} {wg : WG} {b : WS} (h : SE K cl te w) (hg : SG K cl g ts wg) (hb : SS K cl tb b) : SS K cl (tFor (iList K te) g tb) (wForLT w wg b) := by
  intro D' sl st hw F G H σ al S D d
  refine h sl st _ hw F G H σ al S _ fun v x st1 F1 G1 H1 h1 g1 S1 r1 => ?_
  dsimp only at h1
  split at h1
  · rename_i k
    obtain ⟨a, ha, rfl⟩ := r1
    split at h1
    · rename_i ps ek
      obtain ⟨I, i0, ik, it, ie⟩ := h1
      obtain ⟨F2, a', vs, ha', f2, fa, rfl, l, S2, g2⟩ := S1.lock ek
      rw [ha] at ha'
      cases ha'
      have un : ∀ {σ3 : L2.St} {sl3 : Sl} {st3 : Sto} {F3 G3 H3 : Hp} {al3 : List Addr}, st3[k]? = some (.lk ps) → Gr (upd F1 a (.lst vs)) G1 al (st1.set k (.lk ps)) F3 G3 al3 st3 → SOk K cl F3 G3 H3 σ3 al3 sl3 st3 →
          ∃ F4, SOk K cl F4 G3 H3 σ3 al3 sl3 (st3.set k (.lst ps)) ∧ Gr F1 G1 al st1 F4 G3 al3 (st3.set k (.lst ps)) := by
        intro σ3 sl3 st3 F3 G3 H3 al3 hk g3 S3
        obtain ⟨F4, S4, s4, n4⟩ := S3.unlock hk (g3.pre _ _ ha) fa g3
        refine ⟨F4, S4, s4, g3.gg, n4, g3.pre, fun j hj => ?_⟩
        by_cases hjk : j = k
        · subst hjk
          rw [ek] at hj
          cases hj
        · rw [List.getElem?_set_ne (Ne.symm hjk)]
          exact g3.dice j (by rw [List.getElem?_set_ne (Ne.symm hjk)]; exact hj)
      refine ⟨a, rfl, ⟨vs, SqL.of (S2.fh _ _ f2)⟩, ?_⟩
      refine for_walkT (D' := { D' with nx := fun sl st => st[k]? = some (.lk ps) ∧ D'.nx sl (st.set k (.lst ps)) }) (n := st1.length) (walkP_list f2 l) S2 (List.length_set ..) (Same.refl _) hg hb ⟨?_, ?_, ?_, ?_⟩ i0 it fun sl st hI => ⟨ik _ _ _ hI, ie sl st hI⟩
      · rintro σ3 sl3 st3 F3 G3 H3 al3 ⟨hk, r⟩ g3 S3
        obtain ⟨F4, S4, g4⟩ := un hk g3 S3
        exact d.nx _ _ _ _ _ _ _ r (g1.trans g4) S4
      · intro σ3 sl3 st3 F3 G3 H3 al3 r g3 S3
        exact d.bk _ _ _ _ _ _ _ r ((g1.trans g2).trans g3) S3
      · intro σ3 sl3 st3 F3 G3 H3 al3 r g3 S3
        exact d.ct _ _ _ _ _ _ _ r ((g1.trans g2).trans g3) S3
      · intro v p σ3 sl3 st3 F3 G3 H3 al3 r g3 S3 rv
        exact d.rt _ _ _ _ _ _ _ _ _ r ((g1.trans g2).trans g3) S3 rv
    · exact h1.elim
  · exact h1.elim
def wWhileT (c : WT) (b : WS) : WS := fun D sl st => ∃ I : Nat → Sl → Sto → Prop, (∃ m, I m sl st) ∧ ∀ m sl0 st0, I m sl0 st0 →
  c sl0 st0 fun k st1 => if k = true then b { D with nx := fun sl2 st2 => ∃ m', m' < m ∧ I m' (trimS st.length sl2) (st2.take st.length), ct := fun sl2 st2 => ∃ m', m' < m ∧ I m' (trimS st.length sl2) (st2.take st.length), bk := D.nx } sl0 st1 else D.nx sl0 st1
theorem ss_whileT {t : TT} {tb : TS} {c : WT} {b : WS} (h : STt K cl t c) (hb : SS K cl tb b) : SS K cl (tWhile t tb) (wWhileT c b) := by
  intro D' sl st hw F G H σ al S D d
  obtain ⟨I, ⟨m0, h0⟩, step⟩ := hw
  have hal : al.length ≤ st.length := by rw [S.cnt]; exact Nat.le_refl _
  refine ⟨fun m σ' H' => ∃ F' G' al' sl' st', I m sl' st' ∧ Gr F G al st F' G' al' st' ∧ SOk K cl F' G' H' σ' al' sl' st', ⟨m0, F, G, al, sl, st, h0, .refl, S⟩, ?_⟩
  rintro m σ' H' ⟨F', G', al', sl', st', hI, g', S'⟩
  refine h sl' st' _ (step m sl' st' hI) F' G' H' σ' al' S' _ fun k st1 F1 G1 H1 e1 g1 S1 => ?_
  cases k with
  | true =>
    simp only [if_true] at e1 ⊢
    refine ⟨fun σ2 H2 => ∃ m', m' < m ∧ ∃ F' G' al' sl' st', I m' sl' st' ∧ Gr F G al st F' G' al' st' ∧ SOk K cl F' G' H2 σ2 al' sl' st', fun σ2 H2 ⟨m', hm, r⟩ => ⟨m', hm, r⟩, ?_⟩
    refine hb _ sl' st1 e1 F1 G1 H1 σ' al' S1 _ ⟨?_, ?_, ?_, ?_⟩
    · rintro σ2 sl2 st2 F2 G2 H2 al2 ⟨m', hm, r⟩ g2 S2
      exact ⟨m', hm, F2, G2, _, _, _, r, ((g'.trans g1).trans g2).trim hal (Nat.le_refl _), S2.trim _⟩
    · intro σ2 sl2 st2 F2 G2 H2 al2 r g2 S2
      exact d.nx _ _ _ _ _ _ _ r ((g'.trans g1).trans g2) S2
    · rintro σ2 sl2 st2 F2 G2 H2 al2 ⟨m', hm, r⟩ g2 S2
      exact ⟨m', hm, F2, G2, _, _, _, r, ((g'.trans g1).trans g2).trim hal (Nat.le_refl _), S2.trim _⟩
    · intro v p σ2 sl2 st2 F2 G2 H2 al2 r g2 S2 rv
      exact d.rt _ _ _ _ _ _ _ _ _ r ((g'.trans g1).trans g2) S2 rv
  | false =>
    simp only [Bool.false_eq_true, if_false] at e1 ⊢
    exact d.nx _ _ _ _ _ _ _ e1 (g'.trans g1) S1
/-! ### xs[::-1] -/
def wRevN (wa : WE) : WN := fun sl st R => wa sl st fun x st1 => match items x st1 with
  | some ps => R ps.reverse st1
  | none => False
theorem sen_rev {te : TE} {w : WE} (h : SE K cl te w) : SEN K cl (tRevL K te) (wRevN w) := by
  intro sl st R hw F G H σ al S Q q
  refine h sl st _ hw F G H σ al S _ fun v x st1 F1 G1 H1 h1 g1 S1 r1 => ?_
  dsimp only at h1
  split at h1
  · rename_i ps e
    obtain ⟨a, vs, rfl, e1, l1⟩ := items_at S1 r1 e
    exact ⟨a, vs, rfl, SqL.of e1, fun p hp => (q.gr g1).new S1 hp l1.reverse h1⟩
  · exact h1.elim
/-! ### a, b = a list -/
def wLstT (n : Nat) (ws : WGs) : WG := fun x sl st R => match items x st with
  | some ps => ps.length = n ∧ ws ps sl st R
  | none => False
theorem sg_lst {n : Nat} {gs : TGs} {ts : List Nat} {ws : WGs} (h : SGs K cl gs ts ws) : SG K cl (gUnl K n gs) ts (wLstT n ws) := by
  intro x sl st R hw F G H σ al S v r Q q
  unfold wLstT at hw
  split at hw
  · rename_i ps e
    obtain ⟨a, vs, rfl, e1, l⟩ := items_at S r e
    exact ⟨a, vs, rfl, SqL.of e1, by rw [l.len]; exact hw.1, h ps sl st R hw.2 F G H σ al S vs l Q q⟩
  · exact hw.elim
end
/-- .. but for one cell, which is the first behind the loop's own then -/
def keepW (n k0 : Nat) : Option W → Option W
  | some (.l k) => if k < n then some (.l k) else if k = k0 then some (.l n) else none
  | some (.ik c f k) => if k < n then some (.ik c f k) else none
  | some (.im _ _) => none
  | x => x
def keepS (n k0 : Nat) (sl : Sl) : Sl := sl.map (keepW n k0)
section
variable {K : PySem.W.Frag} {cl : Str → Option Addr} {F G H F' G' H' : Hp} {σ : L2.St} {al al' : List Addr} {sl : Sl} {st st' : Sto}
theorem keepW_some {n k0 : Nat} {x : Option W} {y : W} (h : keepW n k0 x = some y) : (x = some y ∧ ∀ k, (y = .l k ∨ ∃ c f, y = .ik c f k) → k < n) ∨ (x = some (.l k0) ∧ y = .l n) := by
  match x, h with
  | none, h => cases h
  | some (.im _ _), h => cases h
  | some (.v p), h => cases h; exact .inl ⟨rfl, fun k e => by rcases e with e | ⟨_, _, e⟩ <;> cases e⟩
  | some (.o p), h => cases h; exact .inl ⟨rfl, fun k e => by rcases e with e | ⟨_, _, e⟩ <;> cases e⟩
  | some (.l k), h =>
    have h' : (if k < n then some (W.l k) else if k = k0 then some (.l n) else none) = some y := h
    split at h'
    · rename_i hk
      cases h'
      exact .inl ⟨rfl, fun j e => by rcases e with e | ⟨_, _, e⟩ <;> cases e; exact hk⟩
    · split at h'
      · rename_i hk
        cases h'
        subst hk
        exact .inr ⟨rfl, rfl⟩
      · cases h'
  | some (.ik c f k), h =>
    have h' : (if k < n then some (W.ik c f k) else none) = some y := h
    split at h'
    · rename_i hk
      cases h'
      exact .inl ⟨rfl, fun j e => by rcases e with e | ⟨_, _, e⟩ <;> cases e; exact hk⟩
    · cases h'
theorem snoc_get {α : Type} {l : List α} {n k : Nat} {b a : α} (hl : n ≤ l.length) (h : (l.take n ++ [b])[k]? = some a) : (k < n ∧ l[k]? = some a) ∨ (k = n ∧ a = b) := by
  have ln : (l.take n).length = n := by rw [List.length_take]; omega
  by_cases hk : k < n
  · rw [List.getElem?_append_left (by omega)] at h
    exact .inl ⟨hk, (take_get h).2⟩
  · rw [List.getElem?_append_right (by omega), ln] at h
    have := (List.getElem?_eq_some_iff.mp h).1
    simp at this
    have e : k = n := by omega
    subst e
    simp at h
    exact .inr ⟨rfl, h.symm⟩
theorem get_snoc {α : Type} {l : List α} {n k : Nat} {b a : α} (hl : n ≤ l.length) (hk : k < n) (h : l[k]? = some a) : (l.take n ++ [b])[k]? = some a := by
  rw [List.getElem?_append_left (by rw [List.length_take]; omega)]
  exact get_take hk h
theorem get_snoc_n {α : Type} {l : List α} {n : Nat} {b : α} (hl : n ≤ l.length) : (l.take n ++ [b])[n]? = some b := by
  have ln : (l.take n).length = n := by rw [List.length_take]; omega
  rw [List.getElem?_append_right (by omega), ln]
  simp
theorem SOk.keep {n k0 : Nat} {c : Cell} (S : SOk K cl F G H σ al sl st) (hn : n ≤ k0) (hc : st[k0]? = some c) : ∃ a, al[k0]? = some a ∧ SOk K cl F G H σ (al.take n ++ [a]) (keepS n k0 sl) (st.take n ++ [c]) := by
  obtain ⟨a, ha, hca⟩ := S.cells k0 c hc
  have la : n ≤ al.length := by have := (List.getElem?_eq_some_iff.mp ha).1; omega
  have ls : n ≤ st.length := by rw [← S.cnt]; exact la
  refine ⟨a, ha, S.gf, S.fh, fun i x h => ?_, ?_, fun k c' h => ?_, fun k j b h1 h2 => ?_, fun k b h => ?_, ?_⟩
  · unfold keepS at h
    rw [List.getElem?_map] at h
    cases e : sl[i]? with
    | none => rw [e] at h; cases h
    | some y =>
      rw [e] at h
      have h' : keepW n k0 y = some x := Option.some.inj h
      rcases keepW_some h' with ⟨rfl, hk⟩ | ⟨rfl, rfl⟩
      · obtain ⟨v, hv, r⟩ := S.slots i x e
        refine ⟨v, hv, ?_⟩
        cases x with
        | v p => exact r
        | o u => exact r
        | im c fs => cases h'
        | l k =>
          obtain ⟨b, hb, rfl⟩ := r
          exact ⟨b, get_snoc la (hk k (.inl rfl)) hb, rfl⟩
        | ik c f k =>
          obtain ⟨x, C, dx, b, h1, h2, h3, h4⟩ := r
          exact ⟨x, C, dx, b, h1, h2, h3, get_snoc la (hk k (.inr ⟨c, f, rfl⟩)) h4⟩
      · obtain ⟨v, hv, b, hb, rfl⟩ := S.slots i _ e
        rw [ha] at hb
        cases hb
        exact ⟨_, hv, a, get_snoc_n la, rfl⟩
  · unfold keepS
    rw [List.length_map]
    exact S.len
  · rcases snoc_get ls h with ⟨hk, h⟩ | ⟨rfl, rfl⟩
    · obtain ⟨b, hb, hcb⟩ := S.cells k c' h
      exact ⟨b, get_snoc la hk hb, hcb⟩
    · exact ⟨a, get_snoc_n la, hca⟩
  · rcases snoc_get la h1 with ⟨k1, q1⟩ | ⟨k1, q1⟩ <;> rcases snoc_get la h2 with ⟨k2, q2⟩ | ⟨k2, q2⟩
    · exact S.nd k j b q1 q2
    · rw [q2] at q1
      have := S.nd k k0 a q1 ha
      omega
    · rw [q1] at q2
      have := S.nd j k0 a q2 ha
      omega
    · omega
  · rcases snoc_get la h with ⟨k1, h1⟩ | ⟨rfl, rfl⟩
    · exact S.live k b h1
    · exact S.live k0 b ha
  · rw [List.length_append, List.length_append, List.length_take, List.length_take, S.cnt]
    rfl
theorem Gr.keep {n : Nat} {a : Addr} {c : Cell} (g : Gr F G al st F' G' al' st') (h1 : al.length ≤ n) (h2 : st.length ≤ n) (la : n ≤ al'.length) (ls : n ≤ st'.length) : Gr F G al st F' G' (al'.take n ++ [a]) (st'.take n ++ [c]) :=
  ⟨g.ff, g.gg, g.new, fun k a h => get_snoc la (Nat.lt_of_lt_of_le (List.getElem?_eq_some_iff.mp h).1 h1) (g.pre k a h), fun k h => get_snoc ls (Nat.lt_of_lt_of_le (List.getElem?_eq_some_iff.mp h).1 h2) (g.dice k h)⟩
theorem for_walkK {J : It} {ps : List PV} {B : Hp} {wg : WG} {b : WS} {g : TG} {ts : List Nat} {tb : TS} {D' : PEnds} {D : Ends} {I : Nat → Sl → Sto → Prop} {n : Nat} (wk : WalkP K cl J ps B G) (S : SOk K cl F G H σ al sl st) (hn : st.length = n) (hB : Same B F) (hg : SG K cl g ts wg) (hb : SS K cl tb b)
    (d : DOk K cl F G al st D' D) (i0 : I 0 sl st) (it : ∀ i p sl st, ps[i]? = some p → I i sl st → wg (.v p) sl st fun sl2 st2 => b { D' with nx := fun sl st => ∃ k c, n ≤ k ∧ st[k]? = some c ∧ I (i + 1) (keepS n k sl) (st.take n ++ [c]), ct := fun _ _ => False, bk := D'.nx } sl2 st2) (ie : ∀ sl st, I ps.length sl st → D'.nx sl st) :
    ∃ W : Nat → Nat → L2.St → Hp → Prop, (∃ m, W 0 m σ H) ∧ ∀ i m σ H, W i m σ H →
      (J.stop i H ∧ D.nx σ H) ∨ (J.go i H ∧ ∃ N : L2.St → Hp → Prop, (∀ σ' H', N σ' H' → ∃ m', m' < m ∧ W (i + 1) m' σ' H') ∧ ∀ x H', J.yld i H x H' → g x σ H' fun σ2 H2 => tb { D with nx := N, ct := N, bk := D.nx } σ2 H2) := by
  have hal : al.length ≤ n := by rw [S.cnt, hn]; exact Nat.le_refl _
  have hst : st.length ≤ n := by rw [hn]; exact Nat.le_refl _
  have walk : Walk J ps.length (fun H => Same B H) (fun i H x H' => ∃ p, ps[i]? = some p ∧ ((H' = H ∧ Rep K cl G x p) ∨ (∃ (T : Addr) (vs : List V) (qs : List PV), x = .ref T ∧ H T = none ∧ H' = upd H T (.tup vs) ∧ p = .tup qs ∧ RepL K cl G vs qs) ∨ ∃ (T : Addr) (vs : List V) (qs : List PV), x = .ref T ∧ H T = some (.tup vs) ∧ H' = H ∧ p = .tup qs ∧ RepL K cl G vs qs)) :=
    ⟨fun i H hi s => wk.goes i H hi s, fun H s => wk.stops H s, fun i H x H' hi s y => wk.yields i H x H' hi s y⟩
  refine for_it walk (fun i σ' H' => ∃ F' G' al' sl' st', I i sl' st' ∧ Gr F G al st F' G' al' st' ∧ SOk K cl F' G' H' σ' al' sl' st') ⟨F, G, al, sl, st, i0, .refl, S⟩ ?_ ?_ ?_
  · rintro i σ' H' _ ⟨F', G', al', sl', st', _, g', S'⟩
    exact (hB.trans g'.ff).trans S'.fh
  · rintro i x σ' H2 H3 hi ⟨F', G', al', sl', st', hI, g', S'⟩ ⟨p, hp, hy⟩
    have item : ∃ F3 G3, SOk K cl F3 G3 H3 σ' al' sl' st' ∧ Gr F' G' al' st' F3 G3 al' st' ∧ Rep K cl G3 x p := by
      rcases hy with ⟨rfl, r⟩ | ⟨T, ws, qs, rfl, hT, rfl, rfl, r⟩ | ⟨T, ws, qs, rfl, hT, rfl, rfl, r⟩
      · exact ⟨_, _, S', .refl, Rep.mono g'.gg _ _ r⟩
      · obtain ⟨S3, g3⟩ := S'.new (o := .tup ws) hT
        exact ⟨_, _, S3, g3, .tup (SqU.of upd_same) (RepL.mono (g'.gg.trans g3.gg) _ _ r)⟩
      · obtain ⟨F3, G3, S3, g3, e3⟩ := S'.addTups (bs := [T]) fun b hb => by rw [List.mem_singleton.mp hb]; exact ⟨ws, hT⟩
        exact ⟨F3, G3, S3, g3, .tup (SqU.of (by rw [e3 T (List.mem_singleton.mpr rfl)]; exact hT)) (RepL.mono (g'.gg.trans g3.gg) _ _ r)⟩
    obtain ⟨F3, G3, S3, g3, r3⟩ := item
    refine hg (.v p) sl' st' _ (it i p sl' st' hp hI) F3 G3 H3 σ' al' S3 x r3 _ fun σ4 sl4 e4 S4 _ => ?_
    refine hb _ sl4 st' e4 F3 G3 H3 σ4 al' S4 _ ⟨?_, ?_, ?_, ?_⟩
    · rintro σ2 sl2 st2 F2 G2 H2 al2 ⟨k, c, hk, hc, r⟩ g2 S2
      obtain ⟨a, ha, S5⟩ := S2.keep hk hc
      have la : n ≤ al2.length := by have := (List.getElem?_eq_some_iff.mp ha).1; omega
      exact ⟨F2, G2, _, _, _, r, ((g'.trans g3).trans g2).keep hal hst la (by rw [← S2.cnt]; exact la), S5⟩
    · intro σ2 sl2 st2 F2 G2 H2 al2 r g2 S2
      exact d.nx _ _ _ _ _ _ _ r ((g'.trans g3).trans g2) S2
    · intro σ2 sl2 st2 F2 G2 H2 al2 r g2 S2
      exact r.elim
    · intro v p σ2 sl2 st2 F2 G2 H2 al2 r g2 S2 rv
      exact d.rt _ _ _ _ _ _ _ _ _ r ((g'.trans g3).trans g2) S2 rv
  · rintro σ' H' ⟨F', G', al', sl', st', hI, g', S'⟩
    exact d.nx _ _ _ _ _ _ _ (ie sl' st' hI) g' S'
/-- for over a value: but one cell, what a turn made of one's own is forgotten behind it -/
def wForK (wi : WI) (wg : WG) (b : WS) : WS := fun D sl st => wi sl st fun ps st1 => ∃ I : Nat → Sl → Sto → Prop, I 0 sl st1 ∧
  (∀ i p sl st, ps[i]? = some p → I i sl st → wg (.v p) sl st fun sl2 st2 => b { D with nx := fun sl st => ∃ k c, st1.length ≤ k ∧ st[k]? = some c ∧ I (i + 1) (keepS st1.length k sl) (st.take st1.length ++ [c]), ct := fun _ _ => False, bk := D.nx } sl2 st2) ∧ ∀ sl st, I ps.length sl st → D.nx sl st
theorem ss_forK {wi : TI} {g : TG} {tb : TS} {ts : List Nat} {wwi : WI} {wg : WG} {b : WS} (hi : SI K cl wi wwi) (hg : SG K cl g ts wg) (hb : SS K cl tb b) : SS K cl (tFor wi g tb) (wForK wwi wg b) := by
  intro D' sl st hw F G H σ al S D d
  refine hi sl st _ hw F G H σ al S _ fun J ps st1 F1 G1 H1 h1 g1 S1 wk => ?_
  obtain ⟨I, i0, it, ie⟩ := h1
  exact for_walkK wk S1 rfl S1.gf hg hb (d.gr g1) i0 it ie
end
section
variable {cl : Str → Option Addr} {K : PySem.W.Frag} {X : Cx} {pos p1 p2 p3 : PySem.Pos} {e c : Expr} {es : List Expr} {te : TE} {w : WE}
theorem qs_forT {tg iter : Expr} {s1 : List Stmt} {wi : TI} {g : TG} {ts : List Nat} {tb : TS} {wwi : WI} {wg : WG} {wb' : WS} (hp : PassesOwn (model X.prog X.w) X.A X.env X.xe) (hc : X.calm = true) (hi : QI cl K X tg iter wi wwi) (hg : QG cl K X tg g ts wg) (hb : QSs cl K X s1 tb wb')
    (hs : ∀ x, foldedSetIterable iter X.env x = pure x := by intro _; rfl) : QS cl K X (.For tg iter s1 [] pos) (tFor wi g tb) (wForT wwi wg wb') := by
  obtain rfl := hi.k
  exact ⟨rfl, ps_for hp hc hi.pe hg.pe hb.pe hs, ss_forT hi.se hg.se hb.se⟩
theorem qs_forK {tg iter : Expr} {s1 : List Stmt} {wi : TI} {g : TG} {ts : List Nat} {tb : TS} {wwi : WI} {wg : WG} {wb' : WS} (hp : PassesOwn (model X.prog X.w) X.A X.env X.xe) (hc : X.calm = true) (hi : QI cl K X tg iter wi wwi) (hg : QG cl K X tg g ts wg) (hb : QSs cl K X s1 tb wb')
    (hs : ∀ x, foldedSetIterable iter X.env x = pure x := by intro _; rfl) : QS cl K X (.For tg iter s1 [] pos) (tFor wi g tb) (wForK wwi wg wb') := by
  obtain rfl := hi.k
  exact ⟨rfl, ps_for hp hc hi.pe hg.pe hb.pe hs, ss_forK hi.se hg.se hb.se⟩
theorem qs_forLT {tg : Expr} {s1 : List Stmt} {g : TG} {ts : List Nat} {tb : TS} {wg : WG} {wb' : WS} (hp : PassesOwn (model X.prog X.w) X.A X.env X.xe) (hc : X.calm = true) (hi : QE cl K X e te w) (hg : QG cl K X tg g ts wg) (hb : QSs cl K X s1 tb wb')
    (hs : ∀ x, foldedSetIterable e X.env x = pure x := by intro _; rfl) : QS cl K X (.For tg e s1 [] pos) (tFor (iList K te) g tb) (wForLT w wg wb') := by
  obtain rfl := hi.k
  exact ⟨rfl, ps_for hp hc (pi_list hi.pe) hg.pe hb.pe hs, ss_forLT hi.se hg.se hb.se⟩
theorem qs_whileT {t : TT} {v1 : WT} {s1 : List Stmt} {t1 : TS} {w1 : WS} (hp : PassesOwn (model X.prog X.w) X.A X.env X.xe) (hc : QT cl K X c t v1) (h1 : QSs cl K X s1 t1 w1) : QS cl K X (.While c s1 [] pos) (tWhile t t1) (wWhileT v1 w1) := by
  obtain rfl := hc.k
  exact ⟨rfl, ps_while hp hc.pe h1.pe, ss_whileT hc.se h1.se⟩
theorem qn_rev {k : Nat} (h : QE cl K X e te w) : QN cl K X (.Subscript e (.Slice none none (some (.UnaryOp .USub (.Constant (.int 1) k p1) p2)) p3) pos) (tRevL K te) (wRevN w) := by
  obtain rfl := h.k
  exact ⟨rfl, pe_revL h.pe, sen_rev h.se⟩
theorem qg_lst {kk n : Nat} {gs : TGs} {ts : List Nat} {ws : WGs} (hc : X.calm = true) (h : QGs cl K X es gs ts ws) (hn : (assignEach es X.env).length = n := by rfl) (hst : (assignEach es X.env).findIdx? (·.1) = none := by rfl) :
    QG cl K X (.Tuple es kk pos) (gUnl K n gs) ts (wLstT n ws) := by
  obtain rfl := h.k
  exact ⟨rfl, pg_unl hc h.pe hn hst, sg_lst h.se⟩
end
/-! in short -/
section
variable {n N : Nat} {m lo hi : Int} {wg : WG} {b : WS} {D : PEnds} {sl : Sl} {st : Sto}
theorem forTR (hm : m = (n : Int)) (hn : n ≤ 100000) (I : Nat → Sl → Sto → Prop) (h0 : I 0 sl st)
    (step : ∀ (i : Nat) sl st, i < n → I i sl st → wg (.v (.int i)) sl st fun sl2 st2 => b { D with nx := fun sl st => I (i + 1) (trimS N sl) (st.take N), ct := fun sl st => I (i + 1) (trimS N sl) (st.take N), bk := D.nx } sl2 st2) (done : ∀ sl st, I n sl st → D.nx sl st) :
    (-(2 ^ 62) ≤ m ∧ m < 2 ^ 62) ∧ ∃ I : Nat → Sl → Sto → Prop, I 0 sl st ∧
      (∀ i p sl st, (rngP 0 m.toNat)[i]? = some p → I i sl st → wg (.v p) sl st fun sl2 st2 => b { D with nx := fun sl st => I (i + 1) (trimS N sl) (st.take N), ct := fun sl st => I (i + 1) (trimS N sl) (st.take N), bk := D.nx } sl2 st2) ∧ ∀ sl st, I (rngP 0 m.toNat).length sl st → D.nx sl st := by
  subst hm
  rw [Int.toNat_natCast]
  refine ⟨⟨by omega, by omega⟩, I, h0, fun i p sl st hp h => ?_, fun sl st h => ?_⟩
  · obtain ⟨hi, rfl⟩ := rng0_inv hp
    exact step i sl st hi h
  · rw [rngP_len] at h
    exact done sl st h
theorem forTR2 {l : Nat} (hl : lo = (l : Int)) (hm : hi = (n : Int)) (hb : l ≤ 100000) (hn : n ≤ 100000) (I : Nat → Sl → Sto → Prop) (h0 : I l sl st)
    (step : ∀ (i : Nat) sl st, l ≤ i → i < n → I i sl st → wg (.v (.int i)) sl st fun sl2 st2 => b { D with nx := fun sl st => I (i + 1) (trimS N sl) (st.take N), ct := fun sl st => I (i + 1) (trimS N sl) (st.take N), bk := D.nx } sl2 st2) (done : ∀ sl st, I (max l n) sl st → D.nx sl st) :
    (-(2 ^ 62) ≤ lo ∧ lo < 2 ^ 62 ∧ -(2 ^ 62) ≤ hi ∧ hi < 2 ^ 62) ∧ ∃ I : Nat → Sl → Sto → Prop, I 0 sl st ∧
      (∀ i p sl st, (rngP lo (hi - lo).toNat)[i]? = some p → I i sl st → wg (.v p) sl st fun sl2 st2 => b { D with nx := fun sl st => I (i + 1) (trimS N sl) (st.take N), ct := fun sl st => I (i + 1) (trimS N sl) (st.take N), bk := D.nx } sl2 st2) ∧ ∀ sl st, I (rngP lo (hi - lo).toNat).length sl st → D.nx sl st := by
  subst hl hm
  refine ⟨⟨by omega, by omega, by omega, by omega⟩, fun i => I (l + i), h0, fun i p sl st hp h => ?_, fun sl st h => ?_⟩
  · obtain ⟨hi, rfl⟩ := rngP_inv hp
    have := step (l + i) sl st (by omega) (by omega) h
    rw [show (l : Int) + (i : Int) = ((l + i : Nat) : Int) by omega]
    exact this
  · rw [rngP_len] at h
    have e : l + ((n : Int) - (l : Int)).toNat = max l n := by omega
    try dsimp only at h
    rw [e] at h
    exact done sl st h
theorem forTM {α : Type} {f : α → PV} {xs : List α} (I : Nat → Sl → Sto → Prop) (h0 : I 0 sl st)
    (step : ∀ (i : Nat) (x : α) sl st, xs[i]? = some x → I i sl st → wg (.v (f x)) sl st fun sl2 st2 => b { D with nx := fun sl st => I (i + 1) (trimS N sl) (st.take N), ct := fun sl st => I (i + 1) (trimS N sl) (st.take N), bk := D.nx } sl2 st2) (done : ∀ sl st, I xs.length sl st → D.nx sl st) :
    ∃ I : Nat → Sl → Sto → Prop, I 0 sl st ∧
      (∀ i p sl st, (xs.map f)[i]? = some p → I i sl st → wg (.v p) sl st fun sl2 st2 => b { D with nx := fun sl st => I (i + 1) (trimS N sl) (st.take N), ct := fun sl st => I (i + 1) (trimS N sl) (st.take N), bk := D.nx } sl2 st2) ∧ ∀ sl st, I (xs.map f).length sl st → D.nx sl st := by
  refine ⟨I, h0, fun i p sl st hp h => ?_, fun sl st h => ?_⟩
  · rw [List.getElem?_map] at hp
    cases e : xs[i]? with
    | none => rw [e] at hp; cases hp
    | some x =>
      rw [e] at hp
      cases hp
      exact step i x sl st e h
  · rw [List.length_map] at h
    exact done sl st h
theorem forLTM {α : Type} {f : α → PV} {xs : List α} {k : Nat} (I : Nat → Sl → Sto → Prop) (h0 : I 0 sl (st.set k (.lk (xs.map f)))) (keep : ∀ i sl st, I i sl st → st[k]? = some (.lk (xs.map f)))
    (step : ∀ (i : Nat) (x : α) sl st, xs[i]? = some x → I i sl st → wg (.v (f x)) sl st fun sl2 st2 => b { D with nx := fun sl st => I (i + 1) (trimS N sl) (st.take N), ct := fun sl st => I (i + 1) (trimS N sl) (st.take N), bk := fun sl st => st[k]? = some (.lk (xs.map f)) ∧ D.nx sl (st.set k (.lst (xs.map f))) } sl2 st2)
    (done : ∀ sl st, I xs.length sl st → D.nx sl (st.set k (.lst (xs.map f)))) :
    ∃ I : Nat → Sl → Sto → Prop, I 0 sl (st.set k (.lk (xs.map f))) ∧ (∀ i sl st, I i sl st → st[k]? = some (.lk (xs.map f))) ∧
      (∀ i p sl st, (xs.map f)[i]? = some p → I i sl st → wg (.v p) sl st fun sl2 st2 => b { D with nx := fun sl st => I (i + 1) (trimS N sl) (st.take N), ct := fun sl st => I (i + 1) (trimS N sl) (st.take N), bk := fun sl st => st[k]? = some (.lk (xs.map f)) ∧ D.nx sl (st.set k (.lst (xs.map f))) } sl2 st2) ∧ ∀ sl st, I (xs.map f).length sl st → D.nx sl (st.set k (.lst (xs.map f))) := by
  refine ⟨I, h0, keep, fun i p sl st hp h => ?_, fun sl st h => ?_⟩
  · rw [List.getElem?_map] at hp
    cases e : xs[i]? with
    | none => rw [e] at hp; cases hp
    | some x =>
      rw [e] at hp
      cases hp
      exact step i x sl st e h
  · rw [List.length_map] at h
    exact done sl st h
theorem forKM {α : Type} {f : α → PV} {xs : List α} (I : Nat → Sl → Sto → Prop) (h0 : I 0 sl st)
    (step : ∀ (i : Nat) (x : α) sl st, xs[i]? = some x → I i sl st → wg (.v (f x)) sl st fun sl2 st2 => b { D with nx := fun sl st => ∃ k c, N ≤ k ∧ st[k]? = some c ∧ I (i + 1) (keepS N k sl) (st.take N ++ [c]), ct := fun _ _ => False, bk := D.nx } sl2 st2) (done : ∀ sl st, I xs.length sl st → D.nx sl st) :
    ∃ I : Nat → Sl → Sto → Prop, I 0 sl st ∧
      (∀ i p sl st, (xs.map f)[i]? = some p → I i sl st → wg (.v p) sl st fun sl2 st2 => b { D with nx := fun sl st => ∃ k c, N ≤ k ∧ st[k]? = some c ∧ I (i + 1) (keepS N k sl) (st.take N ++ [c]), ct := fun _ _ => False, bk := D.nx } sl2 st2) ∧ ∀ sl st, I (xs.map f).length sl st → D.nx sl st := by
  refine ⟨I, h0, fun i p sl st hp h => ?_, fun sl st h => ?_⟩
  · rw [List.getElem?_map] at hp
    cases e : xs[i]? with
    | none => rw [e] at hp; cases hp
    | some x =>
      rw [e] at hp
      cases hp
      exact step i x sl st e h
  · rw [List.length_map] at h
    exact done sl st h
end
end VL

set_option Elab.async false
set_option linter.all false
set_option maxRecDepth 100000
set_option maxHeartbeats 2000000
/-! The law's trying of a next time; fewer pieces by a greater width. -/
namespace VL
open PySem L2
theorem marksL_ok {ts : List Int} (ht : TOk ts) (h0 : 0 < ts.length) : ∃ ms : List Fr, (ts.map fun t => ((t, 2) : Fr)) ++ (ts.map fun t => ((t, 5) : Fr)) = ms ∧ (∀ m ∈ ms, 1 ≤ m.1 ∧ m.1 ≤ 9999 ∧ 1 ≤ m.2 ∧ m.2 ≤ 5) ∧ ms.length ≤ 54 ∧ 0 < ms.length := by
  have l := ht.1
  refine ⟨_, rfl, fun m hm => ?_, ?_, ?_⟩
  · rcases List.mem_append.mp hm with h | h <;> obtain ⟨t, h1, rfl⟩ := List.mem_map.mp h <;> have := ht.2 t h1 <;> dsimp only <;> omega
  · simp only [List.length_append, List.length_map]; omega
  · simp only [List.length_append, List.length_map]; omega
def sp_allows : VSp := fun ps R => ∃ (b : Nat) (ts : List Int) (w : Fr), ps = [.int b, ils ts, fr w] ∧ 0 < ts.length ∧ TOk ts ∧ WOk w ∧ (∀ l, l.length = ts.length → ValidAt b l → lessF w (wd1 ts l)) ∧ R (.bl false)
theorem no_al {ts : List Int} {w : Fr} {b e : Nat} (ht : TOk ts) (hw : WOk w) (h : ¬ Al ts w b e) : ∀ l, l.length = (sl ts b e).length → ValidAt b l → lessF w (wd1 (sl ts b e) l) := by
  intro l h1 h2
  by_cases q : lessF w (wd1 (sl ts b e) l)
  · exact q
  · exact (h ((al_iff ht hw).mpr ⟨l, h1, h2, q⟩)).elim
theorem Al.wider {ts : List Int} {w w' : Fr} {b e : Nat} (ht : TOk ts) (hw : WOk w) (hw' : WOk w') (hle : ¬ lessF w' w) (h : Al ts w b e) : Al ts w' b e := by
  rw [al_iff ht hw] at h
  rw [al_iff ht hw']
  obtain ⟨l, h1, h2, h3⟩ := h
  refine ⟨l, h1, h2, fun q => ?_⟩
  have ll := wd1_low l (sl_tok ht b e)
  rw [nless_val hw.low.1 ll.1] at h3
  rw [nless_val hw'.low.1 hw.low.1] at hle
  rw [lessF_iff hw'.low.1 ll.1] at q
  grind
theorem Cut.wider {ts : List Int} {w w' : Fr} (ht : TOk ts) (hw : WOk w) (hw' : WOk w') (hle : ¬ lessF w' w) {k e : Nat} (h : Cut ts w k e) : Cut ts w' k e := by
  induction h with
  | nil => exact .nil
  | snoc _ h1 h2 h3 ih => exact .snoc ih h1 h2 (h3.wider ht hw hw' hle)
theorem wider_fewer {ts : List Int} {w w' : Fr} (ht : TOk ts) (hw : WOk w) (hw' : WOk w') (hle : ¬ lessF w' w) (h0 : 0 < ts.length) {L L' : List Pc} (h : ChainTo ts w L ts.length) (h' : ChainTo ts w' L' ts.length) : L'.length ≤ L.length :=
  greedy_min ht hw' h' h0 _ ((greedy ht hw h).2.1.wider ht hw hw' hle)
/-- the pieces told, one behind another -/
theorem chain_at {ts : List Int} {w : Fr} {L : List Pc} {g : Nat} (h : ChainTo ts w L g) : ∀ (i : Nat) (p : Pc), L[i]? = some p → PieceOk ts w p ∧ ChainTo ts w (L.take i) p.1 := by
  induction h with
  | nil => intro i p h; simp at h
  | @snoc L q hc hq ih =>
    intro i p h
    rcases Nat.lt_or_ge i L.length with hi | hi
    · rw [List.getElem?_append_left hi] at h
      obtain ⟨a, b⟩ := ih i p h
      refine ⟨a, ?_⟩
      rw [List.take_append_of_le_length (by omega)]
      exact b
    · have hi' := (List.getElem?_eq_some_iff.mp h).1
      rw [List.length_append] at hi'
      have e : i = L.length := by simp at hi'; omega
      subst e
      rw [List.getElem?_append_right (Nat.le_refl _), Nat.sub_self] at h
      have e2 : q = p := by simpa using h
      subst e2
      refine ⟨hq, ?_⟩
      rw [List.take_append_of_le_length (Nat.le_refl _), List.take_length]
      exact hc
theorem chain_last {ts : List Int} {w : Fr} {L : List Pc} {g : Nat} (h : ChainTo ts w L g) : g = (L.getLast?.map fun p => p.2.1).getD 0 := by
  cases h with
  | nil => rfl
  | snoc _ _ => simp
theorem chain_end {ts : List Int} {w : Fr} {L : List Pc} {g g' : Nat} (h : ChainTo ts w L g) (h' : ChainTo ts w L g') : g = g' := by
  rw [chain_last h, chain_last h']
end VL

set_option Elab.async false
set_option linter.all false
set_option maxRecDepth 100000
set_option maxHeartbeats 2000000
/-! >= of lists, in a list of data, max of a list. -/
namespace L2
open PySem PySem.Spec PyProof.Rows
section
variable {X : Cx}
def rGeD (K : PySem.W.Frag) : R2 := fun x y H Q => ∃ d e, Dp K H x d ∧ Dp K H y e ∧ PySem.W.alike d e = true ∧ d ≠ .none ∧ d.depth ≤ 64 ∧ Q (.bl (!PySem.W.dataLt d e)) H
theorem op_geD (hu : X.A.units + 64 < cLine) : OpR X (compareOp .GtE) (rGeD X.K) := by
  intro pins s σ H x y v u Q I rx ry h
  obtain ⟨d, e, hd, he, al, nn, dp, q⟩ := h
  obtain ⟨as, r1⟩ := Dp.reads I d x v hd rx
  obtain ⟨bs, r2⟩ := Dp.reads I e y u he ry
  have hm : min d.depth e.depth ≤ d.depth := Nat.min_le_left _ _
  exact PySem.W.rcGe_alike d e X.A s v u as bs r1 r2 al nn (by omega) X.prog X.w X.xe _ ⟨.bl _, H, I, rfl, q⟩
theorem op_geDK {K : PySem.W.Frag} (hu : X.A.units + 64 < cLine) (hk : X.K = K := by rfl) : OpR X (compareOp .GtE) (rGeD K) := by subst hk; exact op_geD hu
theorem op_inDK {K : PySem.W.Frag} (hu : X.A.units + 65 < cLine) (hk : X.K = K := by rfl) : OpR X (compareOp .In) (rInD K) := by subst hk; exact op_inD hu
theorem op_notInDK {K : PySem.W.Frag} (hu : X.A.units + 65 < cLine) (hk : X.K = K := by rfl) : OpR X (compareOp .NotIn) (rNotInD K) := by subst hk; exact op_notInD hu
theorem cr_maxK {K : PySem.W.Frag} (hc : X.calm = true) (hk : X.K = K := by rfl) : CallR X (.builtin "max") (rMax K) := by subst hk; exact cr_max hc
end
end L2
namespace VL
open PySem L2
section
variable {K : PySem.W.Frag} {cl : Str → Option Addr}
def wGeL : W2 := fun x y st R => ∃ ns ms, asV x st = some (ils ns) ∧ asV y st = some (ils ms) ∧ R (.v (.bl (!lexB ns ms))) st
theorem sr_geL : SR K cl (rGeD K) wGeL := by
  intro x y sl st R hw F G H σ al S v u rv ru Q q
  obtain ⟨ns, ms, e1, e2, hw⟩ := hw
  refine ⟨_, _, asV_dp S rv e1 (dat_ils _), asV_dp S ru e2 (dat_ils _), ?_, ?_, dep_ils ns, ?_⟩
  · simp only [toD, PySem.W.alike]
    exact alike_ints ns ms
  · simp [toD]
  · have : PySem.W.dataLt (toD (ils ns)) (toD (ils ms)) = lexB ns ms := by
      simp only [toD]
      rw [PySem.W.dataLt_list, lex_toks]
    rw [this]
    exact q.at hw S (.bl _)
theorem any_in : ∀ (qs : List PV) (p : PV), dat p = true → dats qs = true → (((toDs qs).any fun z => PyData.eqv z (toD p)) = true ↔ p ∈ qs)
  | [], p, _, _ => by simp [toDs]
  | q :: qs, p, dp, dq => by
    have dq' : dat q = true ∧ dats qs = true := by simpa [dats] using dq
    simp only [toDs, List.any_cons, Bool.or_eq_true, toD_inj q p dq'.1 dp, any_in qs p dp dq'.2, List.mem_cons]
    exact or_congr eq_comm Iff.rfl
/-- x in l, the items data -/
def wInDn (neg : Bool) : W2 := fun x y st R => ∃ p qs, asV x st = some p ∧ asV y st = some (.lst qs) ∧ (dat p = true ∧ dats qs = true ∧ dep p ∧ dep (.lst qs)) ∧ (p ∈ qs → R (.v (.bl (!neg))) st) ∧ (p ∉ qs → R (.v (.bl neg)) st)
theorem in_bool {qs : List PV} {p : PV} (dp : dat p = true) (dq : dats qs = true) : (p ∈ qs ∧ ((toDs qs).any fun z => PyData.eqv z (toD p)) = true) ∨ (p ∉ qs ∧ ((toDs qs).any fun z => PyData.eqv z (toD p)) = false) := by
  have h := any_in qs p dp dq
  cases e : (toDs qs).any fun z => PyData.eqv z (toD p) with
  | true => exact .inl ⟨h.mp e, rfl⟩
  | false => exact .inr ⟨fun m => Bool.false_ne_true (e.symm.trans (h.mpr m)), rfl⟩
theorem shaped_lst {qs : List PV} (dq : dats qs = true) (h : dep (.lst qs)) : SeqAt.shaped (.list (toDs qs)) = true := by
  have := shaped_of (p := .lst qs) (by simpa [dat] using dq) h
  simpa [toD] using this
theorem sr_inD : SR K cl (rInD K) (wInDn false) := by
  intro x y sl st R hw F G H σ al S v u rv ru Q q
  obtain ⟨p, qs, e1, e2, ⟨d1, d2, s1, s2⟩, h1, h2⟩ := hw
  have hy := asV_dp S ru e2 (by simpa [dat] using d2)
  simp only [toD] at hy
  refine ⟨toD p, toDs qs, asV_dp S rv e1 d1, hy, shaped_of d1 s1, shaped_lst d2 s2, ?_⟩
  rcases in_bool d1 d2 with ⟨m, e⟩ | ⟨m, e⟩
  · rw [e]; exact q.at (h1 m) S (.bl _)
  · rw [e]; exact q.at (h2 m) S (.bl _)
theorem sr_notInD : SR K cl (rNotInD K) (wInDn true) := by
  intro x y sl st R hw F G H σ al S v u rv ru Q q
  obtain ⟨p, qs, e1, e2, ⟨d1, d2, s1, s2⟩, h1, h2⟩ := hw
  have hy := asV_dp S ru e2 (by simpa [dat] using d2)
  simp only [toD] at hy
  refine ⟨toD p, toDs qs, asV_dp S rv e1 d1, hy, shaped_of d1 s1, shaped_lst d2 s2, ?_⟩
  rcases in_bool d1 d2 with ⟨m, e⟩ | ⟨m, e⟩
  · rw [e]; exact q.at (h1 m) S (.bl _)
  · rw [e]; exact q.at (h2 m) S (.bl _)
def wMaxL : WL := fun xs st R => match xs with
  | [x] => ∃ ns : List Int, items x st = some (ns.map PV.int) ∧ 0 < ns.length ∧ ∀ m, m ∈ ns → (∀ y, y ∈ ns → y ≤ m) → R (.v (.int m)) st
  | _ => False
theorem sc_maxL : SC K cl (rMax K) wMaxL := by
  intro xs sl st R hw F G H σ al S vs rs Q q
  unfold wMaxL at hw
  split at hw
  · obtain ⟨ns, e, h0, hw⟩ := hw
    obtain ⟨v, rfl, r⟩ := rs.one
    obtain ⟨a, us, rfl, h1, l⟩ := items_at S r e
    cases l.ints_inv
    exact ⟨a, ns, rfl, SqL.of h1, h0, fun m hm hy => q.at (hw m hm hy) S (.int _)⟩
  · exact hw.elim
end
/-! ### readings, in k07's and k09's words -/
def sp_by_unit : VSp := fun ps R => ∃ ts : List Int, ps = [ils ts] ∧ TapsOk ts ∧ ∀ l : List Int, RdV ts l → R (ils l)
/-- what is told by a width -/
def toldL (w : Fr) (ts : List Int) (L : List (List Int)) : List (List Int) := L.filter fun r => !decide (lessF w (wd1 ts r))
theorem mem_told {w : Fr} {ts : List Int} {L : List (List Int)} {first : Nat} (ht : TOk ts) (hw : WOk w) (h : SortedAll first ts L) (r : List Int) : r ∈ toldL w ts L ↔ r.length = ts.length ∧ ValidAt first r ∧ ¬ lessF w (wd1 ts r) := by
  unfold toldL
  rw [List.mem_filter, h.2 r]
  constructor
  · rintro ⟨⟨a, b, _⟩, d⟩
    exact ⟨a, b, by simpa using d⟩
  · rintro ⟨a, b, d⟩
    refine ⟨⟨a, b, ?_⟩, by simpa using d⟩
    have lw := hw.low
    have lr := wd1_low r ht
    have h1 : lessF w (1, 1) := by
      have a := hw.1
      have b := hw.2.1
      unfold lessF
      dsimp only
      omega
    rw [nless_val lw.1 lr.1] at d
    rw [lessF_iff lw.1 (show Low (1, 1) from ⟨by decide, by decide⟩).1] at h1
    rw [lessF_iff lr.1 (show Low (1, 1) from ⟨by decide, by decide⟩).1]
    grind
theorem told_sorted {w : Fr} {ts : List Int} {L : List (List Int)} {first : Nat} (h : SortedAll first ts L) : (toldL w ts L).Pairwise (ahead ts) := h.1.sublist List.filter_sublist
theorem told_wider {w w' : Fr} {ts : List Int} {L : List (List Int)} {first : Nat} (ht : TOk ts) (hw : WOk w) (hw' : WOk w') (hle : ¬ lessF w' w) (h : SortedAll first ts L) {r : List Int} (hr : r ∈ toldL w ts L) : r ∈ toldL w' ts L := by
  rw [mem_told ht hw h] at hr
  rw [mem_told ht hw' h]
  refine ⟨hr.1, hr.2.1, fun q => hr.2.2 ?_⟩
  have ll := wd1_low r ht
  have a := hw.low
  have b := hw'.low
  rw [nless_val b.1 a.1] at hle
  rw [lessF_iff b.1 ll.1] at q
  rw [lessF_iff a.1 ll.1]
  grind
/-- a list of readings with their widths, in order -/
def sp_in_orderL : VSp := fun ps R => ∃ (ts : List Int) (L : List (List Int)), ps = [.lst (L.map (rdP ts))] ∧ TOk ts ∧ L.length ≤ 1000 ∧ (∀ r ∈ L, RdL ts r) ∧ L.Pairwise (ahead ts) ∧ R (.bl true)
theorem dats_rd (ts : List Int) (L : List (List Int)) : dats (L.map (rdP ts)) = true := dats_of fun p hp => by
  obtain ⟨r, _, rfl⟩ := List.mem_map.mp hp
  exact dat_rd ts r
theorem dats_ilss (L : List (List Int)) : dats (L.map ils) = true := dats_of fun p hp => by
  obtain ⟨r, _, rfl⟩ := List.mem_map.mp hp
  exact dat_ils r
theorem rdP_inj {ts r r' : List Int} (h : rdP ts r = rdP ts r') : r = r' := by
  unfold rdP ils at h
  injection h with h
  injection h with h1 h2
  injection h1 with h1
  exact (List.map_inj_right (f := PV.int) (fun a b e => by injection e)).mp h1
theorem mem_rd {ts r : List Int} {L : List (List Int)} : rdP ts r ∈ L.map (rdP ts) ↔ r ∈ L := by
  rw [List.mem_map]
  exact ⟨fun ⟨x, hx, e⟩ => by rw [← rdP_inj e]; exact hx, fun h => ⟨r, h, rfl⟩⟩
theorem mem_ilss {r : List Int} {L : List (List Int)} : ils r ∈ L.map ils ↔ r ∈ L := by
  rw [List.mem_map]
  exact ⟨fun ⟨x, hx, e⟩ => by rw [← ils_inj.mp e]; exact hx, fun h => ⟨r, h, rfl⟩⟩
end VL

set_option Elab.async false
set_option linter.all false
set_option maxRecDepth 100000
set_option maxHeartbeats 2000000
/-! Exceptions: what leaves a def, told by values. -/
namespace VL
open PySem L2 PySem.Spec PyProof.Rows
def emp : Hp := fun _ => none
/-- values without a heap -/
def flatP : PV → Bool
  | .int _ => true
  | .str _ => true
  | _ => false
section
variable {K : PySem.W.Frag} {cl : Str → Option Addr} {F G H F' G' H' : Hp} {σ : L2.St} {al al' : List Addr} {sl : Sl} {st st' : Sto}
theorem rep_flat {v : V} {p : PV} (h : Rep K cl G v p) (f : flatP p = true) : Rep K cl emp v p := by
  cases p <;> cases h <;> first | exact .int _ | exact .str _ | cases f
theorem repL_flat : ∀ {vs : List V} {ps : List PV}, RepL K cl G vs ps → ps.all flatP = true → RepL K cl emp vs ps
  | _, _, .nil, _ => .nil
  | _, _, .cons a b, f => by
    simp only [List.all_cons, Bool.and_eq_true] at f
    exact .cons (rep_flat a f.1) (repL_flat b f.2)
end
/-- an exception's dict, or none -/
def XRep (K : PySem.W.Frag) (cl : Str → Option Addr) (H0 H : Hp) (d : Option Addr) (ns : List Str) (ps : List PV) : Prop :=
  (d = none ∧ ns = [] ∧ ps = []) ∨ ∃ (a : Addr) (vs : List V), H0 a = none ∧ d = some a ∧ H a = some (.xd (ns.zip vs)) ∧ ns.length = vs.length ∧ RepL K cl emp vs ps
/-- what is wished of an exception, by values -/
def XW (K : PySem.W.Frag) (cl : Str → Option Addr) (E : XK) (H0 : Hp) (c : Str) (ns : List Str) (ps : List PV) : Prop :=
  ∀ (C : Addr) (d : Option Addr) (H' : Hp), cl c = some C → Same H0 H' → XRep K cl H0 H' d ns ps → E (.ref C) d H'
theorem XW.mono {K : PySem.W.Frag} {cl : Str → Option Addr} {E : XK} {H0 H1 : Hp} {c : Str} {ns : List Str} {ps : List PV} (s : Same H0 H1) (h : XW K cl E H0 c ns ps) : XW K cl E H1 c ns ps :=
  fun C d H' hc s' x => h C d H' hc (s.trans s') (by
    rcases x with x | ⟨a, vs, f, x⟩
    · exact .inl x
    · exact .inr ⟨a, vs, s.free f, x⟩)
abbrev VSpE := List PV → (Str → List Str → List PV → Prop) → Prop
def toSpE (K : PySem.W.Frag) (cl : Str → Option Addr) (vsp : VSpE) : Sp := fun vs H _ E => ∃ (G : Hp) (ps : List PV) (Rx : Str → List Str → List PV → Prop), Same G H ∧ RepL K cl G vs ps ∧ (∃ a o, H a = some o) ∧ vsp ps Rx ∧
  ∀ c ns qs, Rx c ns qs → XW K cl E H c ns qs
/-- an __init__ that raises -/
def toSpIE (K : PySem.W.Frag) (cl : Str → Option Addr) (C : Addr) (vsp : VSpE) : Sp := fun vs H0 _ E => ∃ (x dx : Addr) (us : List V) (H G : Hp) (ps : List PV) (Rx : Str → List Str → List PV → Prop), vs = .ref x :: us ∧ H x = none ∧ H dx = none ∧ dx ≠ x ∧
  H0 = upd (upd H dx (.own x)) x (.ins C dx []) ∧ Same G H ∧ RepL K cl G us ps ∧ vsp ps Rx ∧ ∀ c ns qs, Rx c ns qs → XW K cl E H c ns qs
section
variable {K : PySem.W.Frag} {cl : Str → Option Addr} {F G H F' G' H' : Hp} {σ : L2.St} {al al' : List Addr} {sl : Sl} {st st' : Sto} {E : XK}
theorem SOk.pinned {k : Nat} {B : Hp} (S : SOk K cl F G H σ al sl st) (h : st[k]? = some (Cell.pin B)) : Same B H ∧ ∃ a o, H a = some o := by
  obtain ⟨a, _, ⟨o, e⟩, s⟩ := S.cells k _ h
  exact ⟨s.trans (S.gf.trans S.fh), a, o, S.fh _ _ (S.gf _ _ e)⟩
/-- raise of a class without an own __init__ -/
def wRaise0 (K : PySem.W.Frag) (cl : Str → Option Addr) (E : XK) (c : Str) : WS := fun _ _ st => ∃ (k : Nat) (B : Hp), st[k]? = some (Cell.pin B) ∧ XW K cl E B c [] []
theorem ss_raise0 {c : Str} {C : Addr} (hC : cl c = some C) : SS K cl (fun _ _ H => E (.ref C) none H) (wRaise0 K cl E c) := by
  rintro D' sl st ⟨k, B, hk, hw⟩ F G H σ al S D d
  exact hw C none H hC (S.pinned hk).1 (.inl ⟨rfl, rfl, rfl⟩)
/-- a call that raises -/
def wCallE (K : PySem.W.Frag) (cl : Str → Option Addr) (E : XK) (vsp : VSpE) (wa : WA) : WE := fun sl st _ => wa sl st fun xs st1 => match vals xs st1 with
  | some (ps, st2) => ∃ (k : Nat) (B : Hp), st2[k]? = some (Cell.pin B) ∧ vsp ps fun c ns qs => XW K cl E B c ns qs
  | none => False
theorem se_callE {vsp : VSpE} {ta : TA} {wa : WA} (h : SA K cl ta wa) : SE K cl (tCallS (toSpE K cl vsp) (fun _ => E) ta) (wCallE K cl E vsp wa) := by
  intro sl st R hw F G H σ al S Q q
  refine h sl st _ hw F G H σ al S _ fun vs xs st1 F1 G1 H1 h1 g1 S1 rs => ?_
  dsimp only at h1
  split at h1
  · rename_i ps st2 e
    obtain ⟨F2, G2, S2, g2, l⟩ := vals_ok S1 rs e
    obtain ⟨k, B, hk, hv⟩ := h1
    obtain ⟨sB, a, o, ha⟩ := S2.pinned hk
    exact ⟨G2, ps, _, S2.gf.trans S2.fh, l, ⟨a, o, ha⟩, hv, fun c ns qs hx => hx.mono sB⟩
  · exact h1.elim
theorem run_E {X : Cx} {body : List Stmt} {t : TS} {w : WS} {vsp : VSpE} {N : List Str} {vs : List V} {H : Hp} {Q : VK} {E : XK} (pe : PSs X body t) (hs : SS K cl t w) (hN : vs.length ≤ N.length) (h : toSpE K cl vsp vs H Q E)
    (hw : ∀ ps Rx, vsp ps Rx → (∀ c ns qs, Rx c ns qs → XW K cl E H c ns qs) → w { nx := fun _ _ => False, rt := fun _ _ => False } (startS N.length ps) [Cell.pin H]) : ∃ t, PSs X body t ∧ t { nx := fun _ H' => Q .non H', rt := Q } (L2.start N vs) H := by
  obtain ⟨G, ps, Rx, gh, r, ⟨a, o, ha⟩, hv, k⟩ := h
  have r' : RepL K cl H vs ps := RepL.mono gh _ _ r
  have one : ∀ (j : Nat) (b : Addr), [a][j]? = some b → j = 0 ∧ b = a := fun j b h => by
    cases j with
    | zero => exact ⟨rfl, by simpa using h.symm⟩
    | succ j => simp at h
  refine ⟨t, pe, hs _ _ _ (hw ps Rx hv k) H H H (L2.start N vs) [a] ⟨Same.refl _, Same.refl _, fun i x h => slots_start r' h, ?_, fun j c h => ?_, fun j i b h1 h2 => ?_, fun j b h => ?_, rfl⟩ _ ⟨?_, ?_, ?_, ?_⟩⟩
  · unfold L2.start startS
    rw [List.length_append, List.length_append, List.length_map, List.length_map, r.len]
    simp
  · cases j with
    | zero =>
      have h' : some (Cell.pin H) = some c := h
      cases h'
      exact ⟨a, rfl, ⟨o, ha⟩, Same.refl _⟩
    | succ j => simp at h
  · rw [(one j b h1).1, (one i b h2).1]
  · rw [(one j b h).2]
    exact ⟨o, ha⟩
  · intro _ _ _ _ _ _ _ h; exact h.elim
  · intro _ _ _ _ _ _ _ h; exact h.elim
  · intro _ _ _ _ _ _ _ h; exact h.elim
  · intro _ _ _ _ _ _ _ _ _ h; exact h.elim
end
/-- a def that raises where it is called so -/
structure FnE (P : Program) (w : World) (K : PySem.W.Frag) (mg : Str → Option Value) (base : Heap) (x : Str) (k : Nat) (sp : Sp) : Prop where
  ex : ∃ (f : Addr) (fd : FuncData) (ps : List Str), FnOk P w K mg base (L2N.CX P w) k f fd ps sp ∧ mg x = some (.ref f) ∧ PySem.W.keepIn K (.ref f) = true ∧ Binds K fd ps []
structure MkE (P : Program) (w : World) (K : PySem.W.Frag) (mg : Str → Option Value) (base : Heap) (x : Str) (C : Addr) (k : Nat) (sp : Sp) : Prop where
  ex : ∃ (f : Addr) (fd : FuncData) (ps : List Str), FnOk P w K mg base (L2N.CX P w) k f fd ps sp ∧ Mk K C f ∧ mg x = some (.ref C) ∧ Binds K fd ps []
/-- an exception class without an own __init__ -/
structure Xc0 (K : PySem.W.Frag) (mg : Str → Option Value) (cl : Str → Option Addr) (c : Str) (C : Addr) : Prop where
  ex : PySem.W.excIn K C [.type "ValueError", .type "Exception", .type "BaseException", .type "object"] "ValueError.__new__" = true
  mg : mg c = some (.ref C)
  kp : PySem.W.keepIn K (.ref C) = true
  sb : PySem.W.subIn K (.ref C) (.type "BaseException") = some true
  ty : PySem.W.typeIn K (.ref C) = some (.type "type")
  cl : cl c = some C
section
variable {cl : Str → Option Addr} {K : PySem.W.Frag} {X : Cx} {pos p2 p3 p2b : Pos} {e : Expr} {es : List Expr} {A : TA} {WA' : WA} {x : Str} {E : XK}
theorem q_callE {k : Nat} {vsp : VSpE} (tk : L2N.Takes X (fun cls d _ H => E cls d H)) (F : FnE X.prog X.w K X.mg X.base x k (toSpE K cl vsp)) (hr : Room k X.A) (h : QA cl K X (e :: es) A WA') (hg : Gl X x := by rfl) (hdb : (x == ("__debug__" : Str)) = false := by decide)
    (he : starEach (e :: es) X.env = (false, eval e X.env) :: starEach es X.env := by rfl) (hpl : (backTo pos (starEach es X.env)).any (·.1) = false := by rfl) : QE cl K X (.Call (.Name x p2) (e :: es) [] pos) (tCallS (toSpE K cl vsp) (fun _ => E) A) (wCallE K cl E vsp WA') := by
  obtain rfl := h.k
  obtain ⟨f, fd, ps, F1, hm, hk, hb⟩ := F.ex
  exact ⟨rfl, pe_callS F1 hr hg hm hk hb (fun σ => L2N.passAt tk σ) h.pe hdb he hpl, se_callE h.se⟩
theorem qs_raise0 {C : Addr} {m : Str} {j : Nat} (hc : X.calm = true) (tk : L2N.Takes X (fun cls d _ H => E cls d H)) (T : Xc0 K X.mg cl x C) (hg : Gl X x := by rfl) (hk : X.K = K := by rfl) (hdb : (x == ("__debug__" : Str)) = false := by decide) :
    QS cl K X (.Raise (some (.Call (.Name x p2) [.Constant (.str m) j p3] [] pos)) none p2b) (fun _ _ H => E (.ref C) none H) (wRaise0 K cl E x) := by
  subst hk
  exact ⟨rfl, L2N.ps_raise hc tk (L2N.pmk_own PySem.F.excBase_ValueError T.ex T.mg T.kp (raises_own T.sb T.ty) hg hdb), ss_raise0 T.cl⟩
end
end VL

set_option Elab.async false
set_option linter.all false
set_option maxRecDepth 100000
set_option maxHeartbeats 2000000
/-! Exceptions with fields: their __init__, raise; makers that raise. -/
namespace VL
open PySem L2 PySem.Spec PyProof.Rows
/-- a class whose __init__ is the built-in one -/
structure XcI (K : PySem.W.Frag) (mg : Str → Option Value) (x : Str) (C : Addr) : Prop where
  gm : mg x = some (.ref C)
  rd : ClX.CRead K C (.type "type")
  at_ : PySem.W.findCls K (.ref C) (.type "type") "__init__" = some (.val (.builtin "ValueError.__init__"))
section
variable {X : Cx} {e : Expr} {es : List Expr} {ta : TA} {x : Str} {p p1 p2 pos : Pos} {C : Addr}
theorem pe_teinit {pl : Sem Bool} (T : XcI X.K X.mg x C) (ha : PA X (e :: es) ta) (hg : Gl X x := by rfl) (hdb : (x == ("__debug__" : Str)) = false := by decide)
    (hc : eval (.Call (.Attribute (.Name x p1) "__init__" p2) (e :: es) [] pos) X.env = (do
      let ov ← eval (.Name x p1) X.env
      standAt p2.atName
      let (f, first) ← holding [ov] (getMethod ov "__init__" pl)
      callWith pos f first (backTo pos (starEach (e :: es) X.env)) (backToKw pos (keywordEach [] X.env))) := by rfl)
    (he : starEach (e :: es) X.env = (false, eval e X.env) :: starEach es X.env := by rfl) (hpl : (backTo pos (starEach es X.env)).any (·.1) = false := by rfl) :
    PE X (.Call (.Attribute (.Name x p1) "__init__" p2) (e :: es) [] pos) (tVeI X.K ta) := by
  refine ⟨fun pins s σ H Q I h => ?_⟩
  refine PySem.W.methodCall_KW (ld_glob I hg T.gm ?_ hdb) hc
  refine PySem.W.method_cls I.kIn T.rd.ga (PySem.W.cls_value I.kIn T.rd.rd T.at_ rfl ?_)
  show wpAny _ _ (callWith pos (Value.builtin "ValueError.__init__") [] (backTo pos (starEach (e :: es) X.env)) []) _ _ _
  refine PyProof.Rows.callWith_method1 (thn (ha.run pos pins _ σ H _ (I.tok _) h) fun us s1 ⟨vs, H1, I1, r1, a, C, ws, ev, hl, T, ea, q⟩ => ?_) he hpl
  subst ev
  cases r1 with
  | @cons _ u0 _ ur ra rw' =>
    obtain rfl : u0 = Value.ref a := ra
    have hlen : ur.length ≤ sizeLine := by
      rw [← Paired.length rw', sizeLine_eq]
      omega
    exact oinit_ok T I1 ea hlen fun s' J => ⟨.non, H1, J, rfl, q⟩
end
/-- what an own __init__ of an exception with the fields at, why (row) promises -/
def spX2 (K : PySem.W.Frag) (f g : Str) : Sp := fun vs H Q _ => ∃ (a C : Addr) (y z : V), vs = [.ref a, y, z] ∧ OexC K C ∧ PySem.W.findIn K (.ref C) f = some none ∧ PySem.W.findIn K (.ref C) g = some none ∧ H a = some (exo a C none) ∧
  ∀ d, H d = none → d ≠ a → Q .non (upd (upd (upd H d (exd d [(f, y)])) a (exo a C (some d))) d (exd d [(g, z), (f, y)]))
def spX1 (K : PySem.W.Frag) (f : Str) : Sp := fun vs H Q _ => ∃ (a C : Addr) (y : V), vs = [.ref a, y] ∧ OexC K C ∧ PySem.W.findIn K (.ref C) f = some none ∧ H a = some (exo a C none) ∧
  ∀ d, H d = none → d ≠ a → Q .non (upd (upd H d (exd d [(f, y)])) a (exo a C (some d)))
/-- an exception class with an own __init__ -/
structure Xc (P : Program) (w : World) (K : PySem.W.Frag) (mg : Str → Option Value) (base : Heap) (cl : Str → Option Addr) (c : Str) (C : Addr) (k : Nat) (sp : Sp) : Prop where
  ox : OexC K C
  gm : mg c = some (.ref C)
  cl : cl c = some C
  ini : ∃ (fI : Addr) (fd : FuncData) (ps : List Str), PySem.W.findIn K (.ref C) "__init__" = some (some (.ref fI)) ∧ PySem.W.typeIn K (.ref fI) = some (.type "function") ∧ FnOk P w K mg base CX0 k fI fd ps sp ∧ Binds K fd ps []
section
variable {K : PySem.W.Frag} {cl : Str → Option Addr} {F G H F' G' H' : Hp} {σ : L2.St} {al al' : List Addr} {sl : Sl} {st st' : Sto} {E : XK}
def wRaise2 (K : PySem.W.Frag) (cl : Str → Option Addr) (E : XK) (c f g : Str) (wa : WA) : WS := fun _ sl st => wa sl st fun xs st1 => match vals xs st1 with
  | some ([p, q], st2) => (flatP p = true ∧ flatP q = true) ∧ ∃ (k : Nat) (B : Hp), st2[k]? = some (Cell.pin B) ∧ XW K cl E B c [g, f] [q, p]
  | _ => False
theorem ss_raise2 {c f g : Str} {C : Addr} {ta : TA} {wa : WA} (hC : cl c = some C) (ox : OexC K C) (hf : PySem.W.findIn K (.ref C) f = some none) (hg : PySem.W.findIn K (.ref C) g = some none) (h : SA K cl ta wa) :
    SS K cl (fun _ σ H => tMkO C (spX2 K f g) [] ta σ H E) (wRaise2 K cl E c f g wa) := by
  intro D' sl st hw F G H σ al S D dd
  refine h sl st _ hw F G H σ al S _ fun vs xs st1 F1 G1 H1 h1 g1 S1 rs => ?_
  dsimp only at h1
  split at h1
  · rename_i p q st2 e
    obtain ⟨F2, G2, S2, g2, l⟩ := vals_ok S1 rs e
    obtain ⟨⟨fp, fq⟩, k, B, hk, hX⟩ := h1
    cases l with
    | @cons y _ _ _ ry l2 =>
      cases l2 with
      | @cons z _ _ _ rz l3 =>
        cases l3
        refine ⟨by simp, fun a ha => ⟨a, C, y, z, rfl, ox, hf, hg, upd_same, fun d hd hda => ⟨rfl, d, [(g, z), (f, y)], ?_, upd_same, ?_, ?_⟩⟩⟩
        · rw [upd_ne (Ne.symm hda), upd_same]
        · rw [upd_ne hda] at hd; exact hd
        · have hd1 : H1 d = none := by rw [upd_ne hda] at hd; exact hd
          refine hX C (some d) _ hC ((S2.pinned hk).1.trans fun b u eb => ?_) (.inr ⟨d, [z, y], (S2.pinned hk).1.free hd1, rfl, upd_same, rfl, .cons (rep_flat rz fq) (.cons (rep_flat ry fp) .nil)⟩)
          have nb : b ≠ d := ne_of_none eb hd1
          have na : b ≠ a := ne_of_none eb ha
          rw [upd_ne nb, del_ne na, upd_ne nb, upd_ne na, upd_ne nb, upd_ne na]
          exact eb
  · exact h1.elim
def wRaise1 (K : PySem.W.Frag) (cl : Str → Option Addr) (E : XK) (c f : Str) (wa : WA) : WS := fun _ sl st => wa sl st fun xs st1 => match vals xs st1 with
  | some ([p], st2) => flatP p = true ∧ ∃ (k : Nat) (B : Hp), st2[k]? = some (Cell.pin B) ∧ XW K cl E B c [f] [p]
  | _ => False
theorem ss_raise1 {c f : Str} {C : Addr} {ta : TA} {wa : WA} (hC : cl c = some C) (ox : OexC K C) (hf : PySem.W.findIn K (.ref C) f = some none) (h : SA K cl ta wa) :
    SS K cl (fun _ σ H => tMkO C (spX1 K f) [] ta σ H E) (wRaise1 K cl E c f wa) := by
  intro D' sl st hw F G H σ al S D dd
  refine h sl st _ hw F G H σ al S _ fun vs xs st1 F1 G1 H1 h1 g1 S1 rs => ?_
  dsimp only at h1
  split at h1
  · rename_i p st2 e
    obtain ⟨F2, G2, S2, g2, l⟩ := vals_ok S1 rs e
    obtain ⟨fp, k, B, hk, hX⟩ := h1
    cases l with
    | @cons y _ _ _ ry l2 =>
      cases l2
      refine ⟨by simp, fun a ha => ⟨a, C, y, rfl, ox, hf, upd_same, fun d hd hda => ⟨rfl, d, [(f, y)], ?_, ?_, ?_, ?_⟩⟩⟩
      · rw [upd_same]
      · rw [upd_ne hda, upd_same]
      · rw [upd_ne hda] at hd; exact hd
      · have hd1 : H1 d = none := by rw [upd_ne hda] at hd; exact hd
        refine hX C (some d) _ hC ((S2.pinned hk).1.trans fun b u eb => ?_) (.inr ⟨d, [y], (S2.pinned hk).1.free hd1, rfl, upd_same, rfl, .cons (rep_flat ry fp) .nil⟩)
        have nb : b ≠ d := ne_of_none eb hd1
        have na : b ≠ a := ne_of_none eb ha
        rw [upd_ne nb, del_ne na, upd_ne na, upd_ne nb, upd_ne na]
        exact eb
  · exact h1.elim
/-- an __init__ that raises -/
theorem run_IE {X : Cx} {body : List Stmt} {t : TS} {w : WS} {vsp : VSpE} {C : Addr} {N : List Str} {vs : List V} {H0 : Hp} {Q : VK} (pe : PSs X body t) (hs : SS K cl t w) (hN : vs.length ≤ N.length) (h : toSpIE K cl C vsp vs H0 Q E)
    (hw : ∀ (x : Addr) ps Rx H, vsp ps Rx → (∀ c ns qs, Rx c ns qs → XW K cl E H c ns qs) → w { nx := fun _ _ => False, rt := fun _ _ => False } (some (.o (.ref x)) :: startS (N.length - 1) ps) [Cell.pin H]) : ∃ t, PSs X body t ∧ t { nx := fun _ H' => Q .non H', rt := Q } (L2.start N vs) H0 := by
  obtain ⟨x, dx, us, H, G, ps, Rx, rfl, hx, hdx, ne, rfl, gh, r, hv, k⟩ := h
  have sH : Same H (upd (upd H dx (.own x)) x (.ins C dx [])) := fun b u e => by
    rw [upd_ne (ne_of_none e hx), upd_ne (ne_of_none e hdx)]
    exact e
  have r' : RepL K cl (upd (upd H dx (.own x)) x (.ins C dx [])) us ps := RepL.mono (gh.trans sH) _ _ r
  have hN : us.length + 1 ≤ N.length := hN
  have one : ∀ (j : Nat) (b : Addr), [x][j]? = some b → j = 0 ∧ b = x := fun j b h => by
    cases j with
    | zero => exact ⟨rfl, by simpa using h.symm⟩
    | succ j => simp at h
  refine ⟨t, pe, hs _ _ _ (hw x ps Rx H hv k) _ _ _ (L2.start N (V.ref x :: us)) [x] ⟨Same.refl _, Same.refl _, fun i y e => ?_, ?_, fun j c h => ?_, fun j i b h1 h2 => ?_, fun j b h => ?_, rfl⟩ _ ⟨?_, ?_, ?_, ?_⟩⟩
  · cases i with
    | zero =>
      have h' : some (some (W.o (.ref x))) = some (some y) := e
      cases h'
      exact ⟨.ref x, rfl, rfl⟩
    | succ i =>
      obtain ⟨v, hv, rv⟩ := slots_start (al := [x]) (i := i) r' e
      refine ⟨v, ?_, rv⟩
      have e : N.length - (us.length + 1) = N.length - 1 - us.length := by omega
      show (us.map some ++ List.replicate (N.length - (us.length + 1)) none)[i]? = _
      rw [e]
      exact hv
  · unfold L2.start startS
    have := r.len
    simp only [List.length_append, List.length_map, List.length_cons, List.length_replicate, r.len]
    omega
  · cases j with
    | zero =>
      have h' : some (Cell.pin H) = some c := h
      cases h'
      exact ⟨x, rfl, ⟨_, upd_same⟩, sH⟩
    | succ j => simp at h
  · rw [(one j b h1).1, (one i b h2).1]
  · rw [(one j b h).2]
    exact ⟨_, upd_same⟩
  · intro _ _ _ _ _ _ _ h; exact h.elim
  · intro _ _ _ _ _ _ _ h; exact h.elim
  · intro _ _ _ _ _ _ _ h; exact h.elim
  · intro _ _ _ _ _ _ _ _ _ h; exact h.elim
end
/-! ### C(e, ..) that raises -/
section
variable {X : Cx} {CX : CXT} {k : Nat} {f C : Addr} {fd : FuncData} {ps : List Str} {sp : Sp} {dvs : List V} {ds : List Value} {E : L2.St → XK} {x : Str} {p pos : Pos} {e : Expr} {es : List Expr} {t : TA}
def tMakeS (C : Addr) (sp : Sp) (E : L2.St → XK) (t : TA) : TE := fun σ H Q => t σ H fun vs H1 => ∀ x dx, H1 x = none → H1 dx = none → dx ≠ x → sp (.ref x :: vs) (upd (upd H1 dx (.own x)) x (.ins C dx [])) (fun v H2 => v = .non ∧ Q (.ref x) H2) (E σ)
theorem run_makeS {pins : List (Addr × Obj)} {σ : L2.St} {H : Hp} {s : Shared} {Q : VK} {us : List Value} {vs : List V} (M : Mk X.K C f) (F : FnOk X.prog X.w X.K X.mg X.base CX k f fd ps sp) (hr : Room (k + 1) X.A) (hb : Binds X.K fd ps [])
    (hx : PassesAt CX X σ (E σ)) (I : Inv X pins σ H s) (r : Vals vs us)
    (h : ∀ x dx, H x = none → H dx = none → dx ≠ x → sp (.ref x :: vs) (upd (upd H dx (.own x)) x (.ins C dx [])) (fun v H2 => v = .non ∧ Q (.ref x) H2) (E σ)) :
    wpAny (model X.prog X.w) X.A (call (.ref C) us) (EP X pins σ Q) X.xe s := by
  have hq := h (s.heap.objs.size + 1) s.heap.objs.size (I.hok.fresh (Nat.le_succ _)) (I.hok.fresh (Nat.le_refl _)) (Nat.ne_of_lt (Nat.lt_succ_self _))
  have I2 := Inv.made (C := C) I
  have r2 : Vals (V.ref (s.heap.objs.size + 1) :: vs) (Value.ref (s.heap.objs.size + 1) :: us) := .cons rfl r
  have hl : (Value.ref (s.heap.objs.size + 1) :: us).length = ps.length := by
    have e := r2.length
    rw [F.len _ _ _ _ hq] at e
    exact e.symm
  have b := hb _ (Value.ref (s.heap.objs.size + 1) :: us) I2.kIn (by rw [List.append_nil]; exact hl)
  rw [List.append_nil] at b
  refine wpAny_call (make_map (f := f) I.kIn M.makes M.init (beq_iff_eq.mp M.fn) (codeAny_mono (F.run _ X.stack _ _ ⟨Value.ref (s.heap.objs.size + 1) :: us, []⟩ (Value.ref (s.heap.objs.size + 1) :: us) _ _ (E σ) (hr.make C us [])
    (I2.env0.make C us []) b r2 hq) fun r s' hq' => ?_))
  cases r with
  | error e => exact hx pins _ _ e s' I2 hq'
  | ok fl =>
    cases fl with
    | ret u =>
      obtain ⟨v, H', I3, rv, ev, q3⟩ := I2.after hq'
      subst ev
      exact ⟨rv, ⟨V.ref (s.heap.objs.size + 1), H', I3, rfl, q3⟩⟩
    | next => exact False.elim hq'
    | brk => exact False.elim hq'
    | cont => exact False.elim hq'
theorem pe_makeS (M : Mk X.K C f) (F : FnOk X.prog X.w X.K X.mg X.base CX k f fd ps sp) (hr : Room (k + 1) X.A) (hg : Gl X x) (hm : X.mg x = some (.ref C)) (hb : Binds X.K fd ps []) (hx : ∀ σ, PassesAt CX X σ (E σ))
    (ha : PA X (e :: es) t) (hdb : (x == ("__debug__" : Str)) = false := by decide) (he : starEach (e :: es) X.env = (false, eval e X.env) :: starEach es X.env := by rfl) (hpl : (backTo pos (starEach es X.env)).any (·.1) = false := by rfl) :
    PE X (.Call (.Name x p) (e :: es) [] pos) (tMakeS C sp E t) := by
  refine ⟨fun pins s σ H Q I h => ?_⟩
  refine wpAny_Call_Name_kw (ld_glob I hg hm ?_ hdb)
  refine PySem.W.callWith_K (h₀ := X.base) I.ok.mod.kin M.kp (thn (ha.run pos pins s σ H _ I h) fun us s1 ⟨vs, H1, I1, r, q⟩ => ⟨I1.kIn, ?_⟩) he hpl
  exact run_makeS M F hr hb (hx σ) I1 r q
end
end VL

set_option Elab.async false
set_option linter.all false
set_option maxRecDepth 100000
set_option maxHeartbeats 2000000
/-! Lists walked, comprehensions, while an exception is handled. -/
namespace VH
open PySem PySem.Spec PyProof.Rows L2 L2H HotX
section
variable {prog : Program} {w : World} {A : Around} {E : Value → Shared → Prop} {s : Shared}
/-- a list's walk ends there -/
theorem list_end {it x1 l : Addr} {i : Nat} {items : Array Value} {Q : Option Value → Shared → Prop} (hot : HotAt A x1 s.heap) (hit : s.heap.IsListIter it l i) (hl : s.heap.IsList l items) (hx : items[i]? = none)
    (hQ : ∀ h', (∀ b o, b ≠ it → s.heap.get? b = some o → h'.get? b = some o) → Q none { s with heap := h' }) : wpAny (model prog w) A (pyNext (.ref it)) Q E s := by
  obtain ⟨o, ho, hc, hd⟩ := id hit
  obtain ⟨ol, hol, _, nl, hdl⟩ := hl
  obtain ⟨hh, o1, vs1, h1, d1, c1⟩ := hot
  have nx : it ≠ x1 := fun z => by
    rw [← z, ho] at h1
    cases h1
    rw [hd] at d1
    cases d1
    simp at c1
  unfold pyNext
  refine wpAny_bind (wpAny_attempt (wpAny_callSpecial?_slot (name := Str.ofString "__next__") hit.typeIs slot_listiter_next
    (wpAny_call_entry slot_listiter_next hit.typeIs entry_listiter_next ?_ (args_listiter_next _))))
  show wpAny _ _ (field (.ref it) 0 >>= _) _ _ s
  refine wpAny_bind (wpAny_field ho hd (x := .ref l) rfl ?_)
  show wpAny _ _ (if (Value.ref l == Value.none) = true then _ else _) _ _ s
  rw [if_neg (show ¬ ((Value.ref l == Value.none) = true) from Bool.false_ne_true)]
  show wpAny _ _ (field (.ref it) 1 >>= _) _ _ s
  refine wpAny_bind (wpAny_field ho hd (x := .int i 0) rfl ?_)
  show wpAny _ _ (seqItems? (.ref l) >>= _) _ _ s
  refine wpAny_bind (wpAny_seqItems hol hdl ?_)
  simp only [Int.toNat_natCast, hx]
  refine wpAny_bind (wpAny_rule (wpAny_bind (wpAny_setField ho hd (by simp) ?_)))
  show wpAny _ _ (newExc (.type "StopIteration") [] >>= _) _ _ _
  refine wpAny_bind ?_
  simp only [newExc, newTuple]
  refine wpAny_bind (wpAny_newObj_type ?_ (by size_fits))
  refine wpAny_bind (m := firstArgMember _ _) (wpAny_of_eq (a := Value.none) (by first | rfl | (simp only [firstArgMember]; rfl)) ?_)
  refine wpAny_newObj_type ?_ (by size_fits)
  have h2 : (s.heap.update it (Obj.mapFields (·.setIfInBounds 0 .none))).get? x1 = some o1 := by
    rw [Heap.get?_update_other _ _ nx]
    exact h1
  refine raiseNew_hot ⟨hh, o1, vs1, Heap.get?_push_of_some _ (Heap.get?_push_of_some _ h2), d1, c1⟩ (Nat.ne_of_lt (Heap.lt_size (Heap.get?_push_of_some _ h2))) (Heap.get?_push_size _ rfl) rfl (by first | (simp; done) | (simp; omega) | (show 2 < _; decide)) ?_
  refine wpAny_bind (wpAny_isInstance (T := "StopIteration") (b := true) ⟨_, Heap.get?_update_self _ (Heap.get?_push_size _ rfl) rfl, rfl⟩ isSubtype_stop ?_)
  refine wpAny_pure (hQ _ fun b o' nb e => ?_)
  have e2 : (s.heap.update it (Obj.mapFields (·.setIfInBounds 0 .none))).get? b = some o' := by
    rw [Heap.get?_update_other _ _ (Ne.symm nb)]
    exact e
  rw [Heap.get?_update_other _ _ (Nat.ne_of_gt (Heap.lt_size (Heap.get?_push_of_some _ e2)))]
  exact Heap.get?_push_of_some _ (Heap.get?_push_of_some _ e2)
end
theorem turn_listH {P : Program} {w : World} {K : PySem.W.Frag} {tg : Expr} (a it : Addr) : TurnH P w K tg (Itl K a) [it] it (fun i h => h.IsListIter it a i) where
  mem := by simp
  obj := fun i h st b hb => (turn_list (P := P) (w := w) (K := K) (tg := tg) a it).obj i h st b hb
  keep := fun i h h' st k => (turn_list (P := P) (w := w) (K := K) (tg := tg) a it).keep i h h' st k
  item := by
    intro X hP hw hK hc i pins s σ H E I hf st hg
    subst hP hw hK
    obtain ⟨xs, x, hq, hx⟩ := hg
    obtain ⟨its, rv, p, hz⟩ := I.list hq
    obtain ⟨u, hu, ru⟩ := rv.get hx
    obtain ⟨f0, f1, f2, f3, f4, f5⟩ := hf it (by simp)
    refine wpAny_pyNext_list_item st p.isList (x := u) (by simpa using hu) fun h' st' sb => ?_
    have I1 : Inv X pins σ H { s with heap := h' } := I.turned (t' := s.toks) (fun b o hb e => (sb.2 b hb).trans e) f0 f1 f3 f4 f5
    obtain ⟨o, e, c, d⟩ := id st'
    exact ⟨u, rfl, go_of (s := { s with heap := h' }) e c d (by decide) ⟨x, H, I1, ru, ⟨rfl, fun ys hy => by rw [I.list_inj hy hq]; exact hx⟩, st', fun b hb => (hf b hb).1⟩⟩
  done := by
    intro X hP hw hK hc i pins s σ H E I hf st hg
    subst hP hw hK
    obtain ⟨xs, hq, hx⟩ := hg
    obtain ⟨its, rv, p, hz⟩ := I.list hq
    obtain ⟨f0, f1, f2, f3, f4, f5⟩ := hf it (by simp)
    obtain ⟨x1, hot⟩ := hc.at I
    have hl := rv.length
    exact list_end hot st p.isList (by simp; omega) fun h' eb => ⟨rfl, I.turned (t' := s.toks) (fun b o hb e => eb b o hb e) f0 f1 f3 f4 f5⟩
  self := fun _ _ _ _ _ st h => wpAny_pyIter_listiter st h
theorem pi_listH {X : Cx} {tg l : Expr} {tl : TE} (hl : PE X l tl) : PIH X tg l (iList X.K tl) := by
  refine ⟨fun pins s σ H R I h => ?_⟩
  refine thn (hl.run pins s σ H _ I h) fun v s1 ⟨x, H1, I1, r1, q1⟩ => ?_
  obtain ⟨a, e, ⟨xs, hq⟩, q⟩ := q1
  subst e
  cases r1
  obtain ⟨its, rv, p, hz⟩ := I1.list hq
  refine wpAny_pyIter_list p.isList ?_
  refine ⟨s1.heap.objs.size, [s1.heap.objs.size], _, _, H1, rfl, I1.kept (t' := s1.toks) fun b o e => Heap.get?_push_of_some _ e, turn_listH a _, ⟨_, Heap.get?_push_size _ rfl, rfl, rfl⟩, fun b hb => ?_, q⟩
  have e : b = s1.heap.objs.size := by simpa using hb
  subst e
  exact I1.fpOk (Nat.le_refl _) (I1.hok.fresh (Nat.le_refl _))
end VH

set_option Elab.async false
set_option linter.all false
set_option maxRecDepth 100000
set_option maxHeartbeats 2000000
/-! Comprehensions while an exception is handled. -/
namespace VH
open PySem PySem.Spec PyProof.Rows L2 L2H HotX
/-- a block's context that keeps the handled exception -/
abbrev blkH (X : Cx) (s : Shared) (H : Hp) (scope : Scope) (cenv : Env) (fp : List Addr) (p : Addr × Obj) : Cx := (X.blk s H scope cenv fp).tr [p] (fun _ _ => False)
theorem hot_blk {X : Cx} {p : Addr × Obj} (h : Hot1 X.A p) (s : Shared) (H : Hp) (scope : Scope) (cenv : Env) (fp : List Addr) : HotC (blkH X s H scope cenv fp p) := ⟨p, h, by simp⟩
section
variable {X : Cx} {pins : List (Addr × Obj)} {σ : L2.St} {H : Hp} {s : Shared}
theorem startH {scope : Scope} {own : List (Str × Nat)} {fp : List Addr} {p : Addr × Obj} (I : Inv X pins σ H s) (ok : BlkOk X.N X.env.scope scope own) (hN : X.N.Nodup) (hfp : ∀ b ∈ fp, FpOk X pins H b ∧ b < s.heap.objs.size) (hp : p ∈ X.pn) :
    Inv (blkH X s H scope (compEnvC scope (cellsFrom (s.heap.objs.size + 1) scope.names (cloFrom X.env.cells scope.names [])) s.heap.objs.size X.env) fp p) [] (wipe σ (own.map (·.2))) H { s with heap := pushCells (s.heap.push { cls := .type "dict", data := .dict #[] }) scope.names } := by
  have I4 := block_start I ok hN hfp
  have P1 := I.pin p (List.mem_append_left _ hp)
  refine ⟨I4.ok.toTry _ _, I4.os, I4.bare, I4.base, I4.loc, I4.cell, I4.free, I4.freeC, fun q hq => ?_, I4.hok, I4.len⟩
  have eq : q = p := by simpa using (show q ∈ [p] ++ ([] : List (Addr × Obj)) from hq)
  subst eq
  exact ⟨pushCells_keeps _ _ _ _ (Heap.get?_push_of_some _ P1.1), P1.2.1, Nat.ne_of_lt (Heap.lt_size P1.1), fun hm => (List.mem_cons.mp (I.stkSub q.1 hm)).elim P1.2.2.1 P1.2.2.2.1, P1.2.2.2.2⟩
theorem pe_lcH {elt tg iter : Expr} {ifs : List Expr} {scope : Scope} {own : List (Str × Nat)} {pos : Pos} {wi : TI} {g : TG} {tt : TT} {te : TE} (hc : HotC X) (hN : X.N.Nodup) (hi : PIH X tg iter wi) (ok : BlkOk X.N X.env.scope scope own)
    (hg : ∀ (s : Shared) (H : Hp) (C : Addr) (cl : List (Str × Addr)) (fp : List Addr) (p : Addr × Obj), Hot1 X.A p → PG (blkH X s H scope (compEnvC scope cl C X.env) fp p) tg g)
    (ht : ∀ (s : Shared) (H : Hp) (C : Addr) (cl : List (Str × Addr)) (fp : List Addr) (p : Addr × Obj), Hot1 X.A p → PTs (blkH X s H scope (compEnvC scope cl C X.env) fp p) ifs tt)
    (he : ∀ (s : Shared) (H : Hp) (C : Addr) (cl : List (Str × Addr)) (fp : List Addr) (p : Addr × Obj), Hot1 X.A p → PE (blkH X s H scope (compEnvC scope cl C X.env) fp p) elt te) (hs : ∀ x, foldedSetIterable iter X.env x = pure x := by intro _; rfl) :
    PE X (.ListComp elt [⟨tg, iter, ifs, 0⟩] scope pos) (tLc wi g tt te (own.map (·.2))) := by
  obtain ⟨p, hot, hp⟩ := hc
  refine ⟨fun pins s σ H Q I h => ?_⟩
  rw [eval_ListComp]
  have hfree : ∀ y ∈ scope.names, y.2 = .free → ∃ c, X.env.cells.lookup y.1 = some c := fun y hy e => (ok.free y hy e).elim (fun k => I.ok.has _ (.inl k)) fun k => I.ok.has _ (.inr k)
  refine wpAny_comprehension_free (use := Option.none) rfl hs (closure_ok hfree) ok.kind (fun y hy e => by rw [ok.uniq y hy, e]) (thn (hi.run pins s σ H _ I h) fun xv s1 hx => thn hx fun itv s2 h2 => ?_)
  obtain ⟨it, fp, tn, J, H2, rfl, I2, T, st2, f2, q⟩ := h2
  have hDn : H2 s2.heap.objs.size = none := I2.hok.fresh (Nat.le_refl _)
  obtain ⟨W, ⟨m0, w0⟩, turn⟩ := q _ hDn
  refine wpAny_newObj_type (newEnv_comp ?_) (by show 0 ≤ sizeLine; decide)
  -- the list's own place, the heap with it
  have lt2 : ∀ b ∈ fp, b < s2.heap.objs.size := fun b hb => let ⟨_, e, _⟩ := T.obj _ _ st2 b hb; Heap.lt_size e
  have I3 : Inv X pins σ (upd H2 s2.heap.objs.size (.lst [])) { s2 with heap := s2.heap.push { cls := .type "list", data := .seq ([] : List Value).toArray } } :=
    I2.laid (t' := s2.toks) (fun b o e => Heap.get?_push_of_some _ e) (Nat.le_refl _) ⟨Nat.zero_le _, [], 0, .nil, Heap.get?_push_size _ rfl⟩
  have st3 : tn 0 (s2.heap.push { cls := .type "list", data := .seq ([] : List Value).toArray }) := T.keep _ _ _ st2 fun b _ o e => Heap.get?_push_of_some _ e
  have f3 : ∀ b ∈ fp, FpOk X pins (upd H2 s2.heap.objs.size (.lst [])) b ∧ b < (s2.heap.push { cls := .type "list", data := .seq ([] : List Value).toArray }).objs.size := fun b hb =>
    ⟨⟨by rw [upd_ne (Nat.ne_of_lt (lt2 b hb))]; exact (f2 b hb).1, (f2 b hb).2⟩, by rw [Heap.size_push]; exact Nat.lt_succ_of_lt (lt2 b hb)⟩
  generalize hD : s2.heap.objs.size = D at hDn w0 turn I3 f3 ⊢
  generalize hs3 : ({ s2 with heap := s2.heap.push { cls := .type "list", data := .seq ([] : List Value).toArray } } : Shared) = s3 at I3
  have hh3 : s2.heap.push { cls := .type "list", data := .seq ([] : List Value).toArray } = s3.heap := by rw [← hs3]
  rw [hh3] at st3 f3
  have I4 := startH I3 ok hN f3 hp
  have pg := fun C cl => hg s3 (upd H2 D (.lst [])) C cl fp p hot
  have pt := fun C cl => ht s3 (upd H2 D (.lst [])) C cl fp p hot
  have pe := fun C cl => he s3 (upd H2 D (.lst [])) C cl fp p hot
  show codeAny _ _ (.compStart (.ListComp elt [⟨tg, iter, ifs, 0⟩] scope pos) 0 (.ref it) (.ref D) (compEnvC scope (cellsFrom (s3.heap.objs.size + 1) scope.names (cloFrom X.env.cells scope.names [])) s3.heap.objs.size X.env))
    (compPost (model X.prog X.w) X.A X.xe Option.none (EP X pins σ Q) (.ref D) s3.heap.objs.size) { s3 with heap := pushCells (s3.heap.push { cls := .type "dict", data := .dict #[] }) scope.names }
  generalize hce : compEnvC scope (cellsFrom (s3.heap.objs.size + 1) scope.names (cloFrom X.env.cells scope.names [])) s3.heap.objs.size X.env = ce at I4 ⊢
  have cL : ce.locals = s3.heap.objs.size := by rw [← hce]; rfl
  have pg' : PG (blkH X s3 (upd H2 D (.lst [])) scope ce fp p) tg g := by rw [← hce]; exact pg _ _
  have pt' : PTs (blkH X s3 (upd H2 D (.lst [])) scope ce fp p) ifs tt := by rw [← hce]; exact pt _ _
  have pe' : PE (blkH X s3 (upd H2 D (.lst [])) scope ce fp p) elt te := by rw [← hce]; exact pe _ _
  clear pg pt pe
  have nfp : ∀ b ∈ fp, (upd H2 D (.lst [])) b = none := fun b hb => (f3 b hb).1.1
  generalize upd H2 D (.lst []) = H3 at I3 I4 pg' pt' pe' w0 nfp f3
  have st4 : tn 0 (pushCells (s3.heap.push { cls := .type "dict", data := .dict #[] }) scope.names) := T.keep _ _ _ st3 fun b _ o e => pushCells_keeps _ _ _ _ (Heap.get?_push_of_some _ e)
  have pfp : ∀ b ∈ fp, ∀ q ∈ [p], q.1 ≠ b := fun b hb q hq => by
    have eq : q = p := by simpa using hq
    subst eq
    exact (f3 b hb).1.2.2.2.2.2 q (List.mem_append_left _ hp)
  have hcB := hot_blk hot s3 H3 scope ce fp
  -- the walk's objects within the block
  have stat : ∀ {σ' : L2.St} {H' : Hp} {s' : Shared}, Inv (blkH X s3 H3 scope ce fp p) [] σ' H' s' → (∀ b ∈ fp, H' b = none) → ∀ b ∈ fp, FpOk (blkH X s3 H3 scope ce fp p) [] H' b := fun {σ' H' s'} I' hn b hb =>
    ⟨hn b hb, (I'.ok.exf b hb).1, I'.ok.exfs b hb, .inl hb, fun x c e => (I'.ok.exf b hb).2 x c e, fun q hq => pfp b hb q (by rw [List.append_nil] at hq; exact hq)⟩
  have loop : codeAny (model X.prog X.w) X.A (.compLoop (.ListComp elt [⟨tg, iter, ifs, 0⟩] scope pos) 0 (.ref it) (.ref D) ce) (compPost (model X.prog X.w) X.A X.xe Option.none (EP X pins σ Q) (.ref D) s3.heap.objs.size)
      { s3 with heap := pushCells (s3.heap.push { cls := .type "dict", data := .dict #[] }) scope.names } := by
    refine compLoop_any (fun n s' => ∃ i H', Inv (blkH X s3 H3 scope ce fp p) [] (wipe σ (own.map (·.2))) H' s' ∧ tn i s'.heap ∧ (∀ b ∈ fp, H' b = none) ∧ W i n H') ?_ m0 ⟨0, H3, I4, st4, nfp, w0⟩
    rintro n s5 ⟨i, H5, I5, st5, n5, w5⟩
    rcases turn i n H5 w5 with ⟨stop, qq⟩ | ⟨go, Nx, hNx, step⟩
    · refine thnF (T.done (blkH X s3 H3 scope ce fp p) rfl rfl rfl hcB i [] s5 _ H5 (fun _ _ => False) I5 (stat I5 n5) st5 stop) fun r s6 ⟨hr, I6⟩ => ?_
      subst hr
      have I7 : Inv X pins σ H5 s6 := I3.call' (ch := fp) I6.os I6.base I6.hok I6.bare fun b hb => ⟨(f3 b hb).1.2.2.2.1, (f3 b hb).1.2.1, (f3 b hb).1.2.2.2.2.1, (f3 b hb).1.2.2.2.2.2⟩
      have nC : H5 s3.heap.objs.size = none := by rw [← cL]; exact I6.free
      obtain ⟨m, hn, _⟩ := I6.loc
      have hn' : s6.heap.Ns s3.heap.objs.size m := by rw [← cL]; exact hn
      obtain ⟨g0, g1, g2, g3, g4, g5⟩ := I3.fpOk (Nat.le_refl _) nC
      exact ⟨m, hn', fun h'' sb => ⟨.ref D, H5, I7.turned (t' := s6.toks) (fun b o hb e => (sb.2 b hb).trans e) g0 g1 g3 g4 g5, rfl, qq⟩⟩
    · refine thnF (T.item (blkH X s3 H3 scope ce fp p) rfl rfl rfl hcB i [] s5 _ H5 (fun _ _ => False) I5 (stat I5 n5) st5 go) fun r s6 ⟨u, hr, h6⟩ => ?_
      subst hr
      refine thnF h6 fun _ s7 ⟨x, H7, I7, r7, y7, st7, n7⟩ => ?_
      refine thnF (pg'.run _ s7 _ H7 x u _ (I7.pinned (stat I7 n7) (T.obj _ _ st7)) r7 (step x H7 y7)) fun _ s8 ⟨σ8, H8, I8, hw8, q8⟩ => ?_
      refine thnF (pt'.run _ s8 σ8 H8 _ I8 q8) fun b s9 ⟨H9, I9, q9⟩ => ?_
      have next : ∀ {s' : Shared} {H' : Hp}, Inv (blkH X s3 H3 scope ce fp p) ([] ++ pinsAt fp s7.heap) σ8 H' s' → Nx H' → ∃ m, m < n ∧ ∃ i H', Inv (blkH X s3 H3 scope ce fp p) [] (wipe σ (own.map (·.2))) H' s' ∧ tn i s'.heap ∧ (∀ b ∈ fp, H' b = none) ∧ W i m H' := fun {s' H'} I' nx => by
        obtain ⟨m', hm, w'⟩ := hNx H' nx
        have kept : ∀ b ∈ fp, ∀ o, s7.heap.get? b = some o → s'.heap.get? b = some o ∧ H' b = none := fun b hb o e =>
          let z := I'.pin (b, o) (List.mem_append_right _ (List.mem_append_right _ (mem_pinsAt hb e)))
          ⟨z.1, z.2.1⟩
        refine ⟨m', hm, i + 1, H', (I'.unpinned (pins := [])).weak (by rw [← hw8, wipe_length]) (fun j v e => by rw [← hw8] at e; exact (wipe_some e).1), T.keep _ _ _ st7 fun b hb o e => (kept b hb o e).1, fun b hb => ?_, w'⟩
        obtain ⟨o, e, _⟩ := T.obj _ _ st7 b hb
        exact (kept b hb o e).2
      cases b with
      | false =>
        simp only [Bool.false_eq_true, if_false] at q9 ⊢
        exact next I9 q9
      | true =>
        simp only [if_true] at q9 ⊢
        refine thnF (pe'.run _ s9 σ8 H9 _ I9 q9) fun z s10 ⟨yv, H10, I10, r10, acc, hD10, hz10, nx⟩ => ?_
        exact app_ok (X := blkH X s3 H3 scope ce fp p) I10 hD10 hz10 r10 fun s11 I11 => next I11 nx
  exact codeAny_compStart_list loop (T.self X.A 0 _ _ _ st4 loop)
end
end VH

set_option Elab.async false
set_option linter.all false
set_option maxRecDepth 100000
set_option maxHeartbeats 2000000
/-! all(..), comprehensions by values, while an exception is handled. -/
namespace VH
open PySem PySem.Spec PyProof.Rows L2 L2H HotX
theorem walks_listH {prog : Program} {w : World} {A : Around} {x1 : Addr} {o1 : Obj} {vs1 : Array Value} (hh : A.handled = some (.ref x1)) (d1 : o1.data = .fields vs1) (c1 : vs1[2]? = some .none) (I ax : Addr) (hne : ax ≠ I) (h1 : x1 ≠ I) (items : Array Value) :
    Walks prog w A I [I, ax, x1] [I] items.size (fun i v => items[i]? = some v) (fun i h => h.IsListIter I ax i ∧ h.IsList ax items ∧ h.get? x1 = some o1) where
  sub := fun b hb => by simp at hb; simp [hb]
  frame := fun _ _ _ st hk => ⟨st.1.at fun o e => hk I (by simp) o e, st.2.1.at fun o e => hk ax (by simp) o e, hk x1 (by simp) o1 st.2.2⟩
  item := fun i s Q E hi st hQ => by
    refine wpAny_pyNext_list_item st.1 st.2.1 (x := items[i]) (by simp [hi]) fun h' hit' hs' => ?_
    exact hQ _ h' s.toks (by simp [hi]) ⟨hit', st.2.1.extBut hs'.extBut hne, hs'.extBut x1 o1 h1 st.2.2⟩ fun b o hb e => hs'.extBut b o (fun h => hb (by simp [h])) e
  done := fun s Q E st hQ => list_end ⟨hh, o1, vs1, st.2.2, d1, c1⟩ st.1 st.2.1 (by simp) fun h' he' => hQ h' s.toks fun b o hb e => he' b o (fun h => hb (by simp [h])) e
  self := fun _ _ _ _ st hQ => wpAny_pyIter_listiter st.1 hQ
theorem cr_allH {X : Cx} (hc : HotC X) : CallR X (.builtin "all") (rAll X.K) := by
  intro pins s σ H vs us Q I r h
  obtain ⟨p, ⟨hh, v1, d1, c1⟩, hp⟩ := hc
  have P1 := (I.pin p (List.mem_append_left _ hp)).1
  obtain ⟨a, bs, rfl, hs, q⟩ := h
  obtain ⟨its, rv, hl, _⟩ := I.list hs
  rw [Vals.ref1 r]
  have hb := rv.bls
  refine call_all_walk (iter_any hl.isList fun s₂ e2 st hne => ?_)
  subst e2
  refine ⟨_, _, _, _, _, _, _, rfl, walks_listH (A := X.A.in1) hh d1 c1 _ a hne (Nat.ne_of_lt (Heap.lt_size P1)) its.toArray, ⟨st.1, st.2, Heap.get?_push_of_some _ P1⟩, truth_bools hb, fun h' tk hk => ?_⟩
  refine ⟨.bl _, H, I.kept fun b o eo => hk b o (fun hmem => ?_) (Heap.get?_push_of_some _ eo), ?_, q⟩
  · rcases List.mem_cons.mp hmem with e1 | hmem
    · exact absurd (e1 ▸ Heap.lt_size eo) (Nat.lt_irrefl _)
    · cases hmem
  · show Value.bool _ = Value.bool _
    rw [← L2.all_range, hb, List.size_toArray, List.length_map]
open VL
section
variable {cl : Str → Option Addr} {K : PySem.W.Frag} {X : Cx} {pos p2 : Pos} {a e : Expr} {te : TE} {w : WE} {A : TA} {WA' : WA} {tg iter elt : Expr}
structure QIH (cl : Str → Option Addr) (K : PySem.W.Frag) (X : Cx) (tg it : Expr) (wi : TI) (w : WI) : Prop where
  k : X.K = K
  pe : PIH X tg it wi
  se : SI K cl wi w
theorem qih_list (h : QE cl K X e te w) : QIH cl K X tg e (iList K te) (wIL w) := by
  obtain rfl := h.k
  exact ⟨rfl, pi_listH h.pe, si_list h.se⟩
theorem qih_r1 (hm : X.mg "range" = none) (h : QA cl K X [a] A WA') (hg : Gl X "range" := by rfl) (hs : starEach [a] X.env = [(false, eval a X.env)] := by rfl) : QIH cl K X tg (.Call (.Name "range" p2) [a] [] pos) (iRng1 A) (wIR1 WA') := by
  obtain rfl := h.k
  exact ⟨rfl, pi_range1H hg hm h.pe hs, si_r1 h.se⟩
variable {ifs : List Expr} {scope : Scope} {own : List (Str × Nat)} {wi : TI} {g : TG} {ts : List Nat} {tt : TT} {wwi : WI} {wg : WG} {wt : WT}
theorem qn_lcH (hc : HotC X) (hN : X.N.Nodup) (hi : QIH cl K X tg iter wi wwi) (ok : BlkOk X.N X.env.scope scope own)
    (hg : ∀ (s : Shared) (H : Hp) (C : Addr) (cl' : List (Str × Addr)) (fp : List Addr) (p : Addr × Obj), Hot1 X.A p → QG cl K (blkH X s H scope (compEnvC scope cl' C X.env) fp p) tg g ts wg)
    (ht : ∀ (s : Shared) (H : Hp) (C : Addr) (cl' : List (Str × Addr)) (fp : List Addr) (p : Addr × Obj), Hot1 X.A p → QPs cl K (blkH X s H scope (compEnvC scope cl' C X.env) fp p) ifs tt wt)
    (he : ∀ (s : Shared) (H : Hp) (C : Addr) (cl' : List (Str × Addr)) (fp : List Addr) (p : Addr × Obj), Hot1 X.A p → QE cl K (blkH X s H scope (compEnvC scope cl' C X.env) fp p) elt te w) (hv : ∀ t ∈ ts, t ∈ own.map (·.2) := by decide) (hs : ∀ x, foldedSetIterable iter X.env x = pure x := by intro _; rfl) :
    QN cl K X (.ListComp elt [⟨tg, iter, ifs, 0⟩] scope pos) (tLc wi g tt te (own.map (·.2))) (wLc wwi wg wt w (own.map (·.2))) := by
  obtain ⟨p, hot, hp⟩ := id hc
  obtain rfl := hi.k
  exact ⟨rfl, pe_lcH hc hN hi.pe ok (fun s H C cl' fp p h => (hg s H C cl' fp p h).pe) (fun s H C cl' fp p h => (ht s H C cl' fp p h).pe) (fun s H C cl' fp p h => (he s H C cl' fp p h).pe) hs,
    sen_lc hi.se (hg X.s_0 X.H_0 0 [] [] p hot).se (ht X.s_0 X.H_0 0 [] [] p hot).se (he X.s_0 X.H_0 0 [] [] p hot).se hv⟩
theorem cr_allHK (hc : HotC X) (hk : X.K = K := by rfl) : CallR X (.builtin "all") (rAll K) := by subst hk; exact cr_allH hc
end
end VH

set_option Elab.async false
set_option linter.all false
set_option maxRecDepth 100000
set_option maxHeartbeats 2000000
/-! Defs that are called with the handled exception, or beside it. -/
namespace VH
open PySem PySem.Spec PyProof.Rows L2 L2H HotX VL
/-- what a def promises while p is handled -/
structure FnP (P : Program) (w : World) (K : PySem.W.Frag) (mg : Str → Option Value) (base : Heap) (k : Nat) (f : Addr) (fd : FuncData) (ps : List Str) (sp : Addr × Obj → Sp) : Prop where
  len : ∀ p vs H Q E, sp p vs H Q E → vs.length = ps.length
  run : ∀ (A : Around) (outer : List Env) (s : Shared) (H : Hp) (args : Args) (us : List Value) (vs : List V) (Q : VK) (E : XK) (p : Addr × Obj), RoomH k A → Hot1 A p → PinOk outer H s p → Env0 P w K mg base A outer s H → BindsTo s fd args (ps.zip us) → Vals vs us → sp p vs H Q E →
    codeAny (model P w) A (.call (.ref f) args) (CR CX0 outer P w H s Q E) s
theorem fn_ofP {P : Program} {w : World} {K : PySem.W.Frag} {mg : Str → Option Value} {base : Heap} {k : Nat} {x qual : Str} {st : Stmt} {f : Addr} {fd : FuncData} {N ps : List Str} {sp : Addr × Obj → Sp} (F : Fun K x qual st f fd) (S : FnScope N ps (defScope st))
    (len : ∀ p vs H Q E, sp p vs H Q E → vs.length = ps.length)
    (hbody : ∀ (cdv : Value) (A : Around) (outer : List Env) (s : Shared) (H : Hp) (vs : List V) (Q : VK) (E : XK) (p : Addr × Obj), Hot1 A p → RoomH k (A.deeper (envOfC qual (defScope st) s.heap.objs.size f cdv)) → sp p vs H Q E →
      ∃ t, PSs (cxH CX0 P w K mg base N qual (defScope st) f cdv A outer s H E p) (defBody st) t ∧ t { nx := fun _ H' => Q .non H', rt := Q } (L2.start N vs) H) :
    FnP P w K mg base (k + 1) f fd ps sp := by
  obtain ⟨oc, od, kV, doc, pm, an, cdv, ct, osl, rfl, lk, hcd⟩ := F.ex
  refine ⟨len, fun A outer s H args us vs Q E p hr hot hpin e0 hb r hsp => ?_⟩
  obtain ⟨t, ht, hq⟩ := hbody cdv A outer s H vs Q E p hot (hr.deeper _) hsp
  have hin : K.In s.heap := e0.mod.kin.keeps fun b o e => (e0.bs b o e).1
  have nol : s.heap.NoLimit := e0.mod.nolimit.keeps fun b o e => (e0.bs b o e).1
  refine codeAny_call_function hr.depth (hin _ _ lk) rfl S.co S.gen rfl (PySem.W.codeRec_of hin hcd) (hb _ _ _ _ (wpAny_newFunctionEnv_cells S.kind (fun y hy => ?_) fun env he s1 x => ?_))
  · exact (S.par y.1 (List.of_mem_zip (show (y.1, y.2) ∈ ps.zip us from hy)).1).elim .inl fun q => .inr ⟨q, PySem.W.cellsFrom_some _ _ _ (.inl q)⟩
  · subst he
    refine ⟨nol.keeps x.toInCall.keep, codeAny_func (wpAny_mono (ht.run [] s1 (L2.start N vs) H _ (inv_startH S hpin e0 (len _ _ _ _ _ hsp) r x) hq) (fun fl s' hs => ?_) fun e s' hs => hs)⟩
    cases fl with
    | ret u =>
      obtain ⟨v, σ', H', J, rv, q⟩ := hs
      exact ⟨v, H', J.os, J.bare, J.base, J.hok, rv, q⟩
    | next =>
      obtain ⟨σ', H', J, q⟩ := hs
      exact ⟨.non, H', J.os, J.bare, J.base, J.hok, rfl, q⟩
    | brk => obtain ⟨_, _, _, q⟩ := hs; exact q.elim
    | cont => obtain ⟨_, _, _, q⟩ := hs; exact q.elim
section
variable {X : Cx} {k : Nat} {f : Addr} {fd : FuncData} {ps : List Str} {sp : Addr × Obj → Sp} {x : Str} {q pos : Pos} {e : Expr} {es : List Expr} {t : TA} {p : Addr × Obj}
theorem pe_callP (F : FnP X.prog X.w X.K X.mg X.base k f fd ps sp) (hr : RoomH k X.A) (hot : Hot1 X.A p) (hp : p ∈ X.pn) (hg : Gl X x) (hm : X.mg x = some (.ref f)) (hk : PySem.W.keepIn X.K (.ref f) = true) (hb : Binds X.K fd ps [])
    (ha : PA X (e :: es) t) (hdb : (x == ("__debug__" : Str)) = false := by decide) (he : starEach (e :: es) X.env = (false, eval e X.env) :: starEach es X.env := by rfl) (hpl : (backTo pos (starEach es X.env)).any (·.1) = false := by rfl) :
    PE X (.Call (.Name x q) (e :: es) [] pos) (tCall (sp p) [] E0 t) := by
  refine ⟨fun pins s σ H Q I h => ?_⟩
  refine wpAny_Call_Name_kw (ld_glob I hg hm ?_ hdb)
  refine PySem.W.callWith_K (h₀ := X.base) I.ok.mod.kin hk (thn (ha.run pos pins s σ H _ I h) fun us s1 ⟨vs, H1, I1, r, w⟩ => ⟨I1.kIn, ?_⟩) he hpl
  have w : sp p vs H1 Q E0 := by have z : sp p (vs ++ []) H1 Q E0 := w; rw [List.append_nil] at z; exact z
  have hl : us.length = ps.length := by rw [← r.length]; exact F.len _ _ _ _ _ w
  have b := hb s1 us I1.kIn (by rw [List.append_nil]; exact hl)
  rw [List.append_nil] at b
  have P1 := I1.pin p (List.mem_append_left _ hp)
  have hpin : PinOk X.stack H1 s1 p := ⟨P1.1, P1.2.1, fun hm => (List.mem_cons.mp (I1.stkSub p.1 hm)).elim P1.2.2.1 P1.2.2.2.1, P1.2.2.2.2⟩
  refine wpAny_call (codeAny_mono (F.run X.A X.stack s1 H1 ⟨us, []⟩ us vs Q E0 p hr hot hpin I1.env0 b r w) fun r s' hq => ?_)
  cases r with
  | error e => exact pass0 _ _ _ _ _ _ I1 hq
  | ok fl =>
    cases fl with
    | ret u => exact I1.after hq
    | next => exact hq.elim
    | brk => exact hq.elim
    | cont => exact hq.elim
end
end VH

set_option Elab.async false
set_option linter.all false
set_option maxRecDepth 100000
set_option maxHeartbeats 4000000
/-! isinstance of the handled exception, with fields of its own or without. -/
namespace VH
open PySem PySem.Spec PySem.Calls PyProof.Rows PySem.W
section
variable {prog : Program} {w : World} {A : Around} {E : Value → Shared → Prop} {s : Shared} {K : Frag} {x D : Addr} {ox : Obj} {od : Option Obj}
theorem find_cls (C : L2.ExcC K D) : findObj K D od "__class__" = some (.bind (.builtin "getset_descriptor.__get__") (.builtin "object.__class__")) := by
  have hc : (clsIn K D).isSome = true := by obtain ⟨cd, hc, _⟩ := any_some C.hd; rw [hc]; rfl
  obtain ⟨cd, hc⟩ := Option.isSome_iff_exists.mp hc
  unfold findObj
  rw [hc, Option.bind_some, C.ha, Option.bind_some]
  simp [C.hn, C.ht]
theorem own_class {Q : Option Value → Shared → Prop} (C : L2.ExcC K D) (X : K.In s.heap) (I : InstAt s.heap x ox D od) (h : Q (some (.ref D)) { s with toks := s.toks + 1 }) : wpAny (model prog w) A (getAttr? (.ref x) "__class__") Q E s := by
  have hf := find_cls (od := od) C
  obtain ⟨hp, g, d, t, os⟩ := s
  have L0 := I.type (M := model prog w)
  have L1 := looks_findIn (M := model prog w) X C.hg
  have L2 := looks_findIn (M := model prog w) X C.hk
  have L3 := looks_find (M := model prog w) X I hf
  have sub : Looks (model prog w) hp (isInstance (.ref x) (.type "BaseException")) true := L0.andThen (looks_subIn X C.hs)
  have n0 : (Value.builtin "BaseException.__getattribute__" == Value.builtin "object.__getattribute__") = false := by decide +kernel
  unfold getAttr? getAttrBy? getAttrBy
  refine wpAny_bind (wpAny_mkText (wpAny_bind (wpAny_attempt (wpAny_holding (wpAny_bind (L0.at (wpAny_bind (L1.at ?_))))))))
  show wpAny _ _ (if (onTheHeap (Value.ref D) && Value.builtin "BaseException.__getattribute__" == Value.builtin "object.__getattribute__") = true then _ else _) _ _ _
  rw [n0, Bool.and_false, if_neg Bool.false_ne_true]
  unfold getAttrByItsOwn hookBefore
  refine wpAny_bind ?_
  rw [if_pos (show onTheHeap (Value.ref D) = true from rfl)]
  refine L2.at (wpAny_bind (wpAny_attempt (wpAny_holding ?_)))
  unfold callGetattribute
  rw [show (false && onTheHeap (Value.builtin "BaseException.__getattribute__")) = false from rfl, if_neg Bool.false_ne_true]
  unfold boundAndCalled
  rw [PySem.F.excAttr_ValueError.ga.bind (.ref x)]
  refine wpAny_bind (wpAny_pure (wpAny_call (codeAny_call_builtin PySem.F.excAttr_ValueError.ga.plain PySem.F.entry_bexc_ga ?_)))
  refine @check_slot (model prog w) _ _ ⟨hp, g, d, t + 1, os⟩ "BaseException.__getattribute__" "BaseException" "__getattribute__" (.ref x) [.str "__class__" t] [] _ (by decide +kernel) (by decide +kernel) sub (PySem.F.args_bexc_ga (.ref x) (.str "__class__" t)) ?_
  unfold Builtin.«object.__getattribute__»
  refine wpAny_bind (wpAny_of_eq (a := ((Value.ref x : Value), [Value.str "__class__" t])) (by first | rfl | (simp only [slotArgs]; rfl)) (wpAny_bind (wpAny_pure (wpAny_bind (L0.at (wpAny_bind (L3.at ?_)))))))
  show wpAny _ _ (holding [Value.builtin "object.__class__"] (call (.builtin "getset_descriptor.__get__") [.builtin "object.__class__", .ref x, .ref D]) >>= ret) _ _ _
  refine wpAny_bind (wpAny_holding (wpAny_call (class_get (s := ⟨hp, g, d, t + 1, os⟩) (ox := ox) (od := od) X I C.hm (wpAny_pure ?_))))
  show wpAny _ _ (handedOut (.ref D)) _ _ _
  rw [handedOut_of (v := .ref D) rfl]
  first
    | exact wpAny_pure (wpAny_pure h)
    | exact wpAny_pure h
    | exact wpAny_pure (wpAny_bind (wpAny_pure (wpAny_pure h)))
theorem kit_exc (C : L2.ExcC K D) : KitX K (.ref x) (.ref D) (fun h => InstAt h x ox D od) := by
  obtain ⟨ty, it, ne, _⟩ := handS_kitx_exc (x := x) (ox := ox) C.hg C.hk C.hs C.hd C.ha C.hn C.ht C.hm
  refine ⟨fun _ _ _ I => I.type, fun M h X I => ?_, ne, fun X I k => own_class C X I k⟩
  obtain ⟨cdD, hcD, _⟩ := any_some C.hd
  unfold clsIn at hcD
  split at hcD
  · rename_i c' d' cd' sl' ho
    intro A' Q' E' s' k q
    unfold isType loadHead
    exact wpAny_bind (wpAny_loadPart (k _ _ (X _ _ ho)) (wpAny_pure q))
  · cases hcD
end
end VH
namespace VH
open PySem PySem.Spec PyProof.Rows L2 L2H HotX VL
/-- isinstance(e, c), e the handled exception at a, of the class D -/
def rIsP (K : PySem.W.Frag) (D a : Addr) (dd : Option Addr) : List V → Hp → VK → Prop := fun xs H Q => ∃ (c : V) (cv : Value) (b : Bool), xs = [.ref a, c] ∧ (∀ u, RelV c u → u = cv) ∧ PySem.W.kitOne K (.ref D) cv = some b ∧ (∀ d, dd = some d → ∃ fs, H d = some (.xd fs)) ∧ Q (.bl b) H
theorem call_isP {X : Cx} {a D : Addr} {oe : Obj} {dd : Option Addr} (C : ExcC X.K D) (hp : (a, oe) ∈ X.pn) (hz : Zc (.ref D) dd oe) (hf : ∃ vs, oe.data = .fields vs) : CallR X (.builtin "isinstance") (rIsP X.K D a dd) := by
  intro pins s σ H xs us Q I r h
  obtain ⟨c, cv, b, rfl, hcv, e, hd, q⟩ := h
  cases r with
  | cons rx rr =>
    cases rr with
    | cons rt rr =>
      cases rr
      cases rx
      have ec := hcv _ rt
      subst ec
      obtain ⟨hget, _⟩ := I.pin (a, oe) (List.mem_append.mpr (.inl hp))
      obtain ⟨vs, hv⟩ := hf
      have J : ∃ od, PySem.W.InstAt s.heap a oe D od := by
        obtain ⟨oc, od, oda, osl⟩ := oe
        obtain ⟨h1, h2⟩ := hz
        dsimp only at h1 h2 hv
        subst h1 h2 hv
        cases od with
        | none => exact ⟨none, hget, rfl, rfl, trivial⟩
        | some d =>
          obtain ⟨fs, hfs⟩ := hd d rfl
          obtain ⟨mA, ns, _⟩ := I.hok d _ hfs
          obtain ⟨ob, _, _, hob, _⟩ := ns
          exact ⟨some ob, hget, rfl, rfl, hob⟩
      obtain ⟨od, J⟩ := J
      exact PySem.W.kia_one (kit_exc C) I.kIn J e (fun z => nomatch z) fun tk => ⟨.bl b, H, I.kept (t' := tk) fun _ _ z => z, rfl, q⟩
end VH

set_option Elab.async false
set_option linter.all false
set_option maxRecDepth 100000
set_option maxHeartbeats 2000000
/-! By values, while an exception is handled: isinstance of it, calls, defs. -/
namespace VH
open PySem PySem.Spec PyProof.Rows L2 L2H HotX VL
/-- what p is: an exception of the class D, its dict -/
structure ExP (K : PySem.W.Frag) (p : Addr × Obj) (D : Addr) (dd : Option Addr) : Prop where
  c : ExcC K D
  z : Zc (.ref D) dd p.2
  f : ∃ vs, p.2.data = .fields vs
theorem _root_.L2H.RoomH.units {k : Nat} {A : Around} (r : RoomH k A) : A.units + 64 < cLine := by have := r.un; omega
theorem _root_.L2H.RoomH.units65 {k : Nat} {A : Around} (r : RoomH k A) : A.units + 65 < cLine := by have := r.un; omega
section
variable {K : PySem.W.Frag} {cl : Str → Option Addr} {D a : Addr} {dd : Option Addr}
def wIsP (a : Addr) (dd : Option Addr) (b : Bool) (w : WE) : WE := fun sl st R => w sl st fun x st1 => x = .o (.ref a) ∧ (∃ (k : Nat) (B : Hp), st1[k]? = some (Cell.pin B) ∧ ∀ d, dd = some d → ∃ fs, B d = some (.xd fs)) ∧ R (.v (.bl b)) st1
theorem se_isP {te : TE} {w : WE} {c : V} {cv : Value} {b : Bool} (hk : PySem.W.kitOne K (.ref D) cv = some b) (hcv : ∀ u, RelV c u → u = cv) (h : SE K cl te w) : SE K cl (tCB (rIsP K D a dd) (tCons te (tCons (tC c) tNil))) (wIsP a dd b w) := by
  intro sl st R hw F G H σ al S Q q
  refine h sl st _ hw F G H σ al S _ fun v x st1 F1 G1 H1 h1 g1 S1 r1 => ?_
  obtain ⟨rfl, ⟨k, B, hk', hB⟩, hR⟩ := h1
  obtain rfl : v = .ref a := r1
  refine ⟨c, cv, b, rfl, hcv, hk, fun d e => ?_, q _ _ _ _ _ _ hR g1 S1 (.bl _)⟩
  obtain ⟨fs, hfs⟩ := hB d e
  exact ⟨fs, (S1.pinned hk').1 _ _ hfs⟩
end
/-- a def that may be called there -/
structure FnV (P : Program) (w : World) (K : PySem.W.Frag) (mg : Str → Option Value) (base : Heap) (x : Str) (k : Nat) (sp : Addr × Obj → Sp) : Prop where
  ex : ∃ (f : Addr) (fd : FuncData) (ps : List Str), FnP P w K mg base k f fd ps sp ∧ mg x = some (.ref f) ∧ PySem.W.keepIn K (.ref f) = true ∧ Binds K fd ps []
section
variable {cl : Str → Option Addr} {K : PySem.W.Frag} {X : Cx} {pos p2 p3 : Pos} {e : Expr} {es : List Expr} {te : TE} {w : WE} {A : TA} {WA' : WA} {x y : Str} {p : Addr × Obj} {D C : Addr} {dd : Option Addr} {b : Bool}
theorem q_isP (P : ExP X.K p D dd) (hp : p ∈ X.pn) (hI : X.mg "isinstance" = none) (hy : X.mg y = some (.ref C)) (hk : PySem.W.kitOne X.K (.ref D) (.ref C) = some b) (h : QE cl K X e te w) (hg : Gl X "isinstance" := by rfl) (hg2 : Gl X y := by rfl) (hd : (y == ("__debug__" : Str)) = false := by decide)
    (hs1 : starEach (e :: [.Name y p3]) X.env = (false, eval e X.env) :: starEach [.Name y p3] X.env := by rfl) (hs2 : starEach [.Name y p3] X.env = (false, eval (.Name y p3) X.env) :: starEach [] X.env := by rfl)
    (hpl : (backTo pos (starEach [.Name y p3] X.env)).any (·.1) = false := by rfl) :
    QE cl K X (.Call (.Name "isinstance" p2) [e, .Name y p3] [] pos) (tCB (rIsP K D p.1 dd) (tCons te (tCons (tC (.ref C)) tNil))) (wIsP p.1 dd b w) := by
  obtain rfl := h.k
  exact ⟨rfl, pe_callB (call_isP (a := p.1) (oe := p.2) P.c hp P.z P.f) hg hI boot_isinstance (pa_cons h.pe (pa_cons (pe_glob (v := .ref C) hg2 hy rfl hd) pa_nil hs2) hs1) (by decide) (by decide) hs1 hpl, se_isP hk (fun u r => r) h.se⟩
theorem q_isPT {T : String} (P : ExP X.K p D dd) (hp : p ∈ X.pn) (hI : X.mg "isinstance" = none) (hT : X.mg y = none) (hv : bootBuiltins y = some (.type T)) (hk : PySem.W.kitOne X.K (.ref D) (.type T) = some b) (h : QE cl K X e te w) (hg : Gl X "isinstance" := by rfl) (hg2 : Gl X y := by rfl)
    (hn : y ≠ "__name__" := by decide) (hd : (y == ("__debug__" : Str)) = false := by decide)
    (hs1 : starEach (e :: [.Name y p3]) X.env = (false, eval e X.env) :: starEach [.Name y p3] X.env := by rfl) (hs2 : starEach [.Name y p3] X.env = (false, eval (.Name y p3) X.env) :: starEach [] X.env := by rfl)
    (hpl : (backTo pos (starEach [.Name y p3] X.env)).any (·.1) = false := by rfl) :
    QE cl K X (.Call (.Name "isinstance" p2) [e, .Name y p3] [] pos) (tCB (rIsP K D p.1 dd) (tCons te (tCons (tC (.ty T)) tNil))) (wIsP p.1 dd b w) := by
  obtain rfl := h.k
  exact ⟨rfl, pe_callB (call_isP (a := p.1) (oe := p.2) P.c hp P.z P.f) hg hI boot_isinstance (pa_cons h.pe (pa_cons (pe_bltn hg2 hT hv (show RelV (.ty T) (.type T) from rfl) hn hd) pa_nil hs2) hs1) (by decide) (by decide) hs1 hpl, se_isP hk (fun u r => r) h.se⟩
/-- a call of a def that promises by values -/
theorem q_callV {k : Nat} {vsp : VSp} (F : FnV X.prog X.w K X.mg X.base x k (fun _ => toSp K cl vsp)) (hr : RoomH k X.A) (hc : HotC X) (h : QA cl K X (e :: es) A WA') (hg : Gl X x := by rfl) (hdb : (x == ("__debug__" : Str)) = false := by decide)
    (he : starEach (e :: es) X.env = (false, eval e X.env) :: starEach es X.env := by rfl) (hpl : (backTo pos (starEach es X.env)).any (·.1) = false := by rfl) : QE cl K X (.Call (.Name x p2) (e :: es) [] pos) (tCall (toSp K cl vsp) [] E0 A) (wCall vsp WA') := by
  obtain rfl := h.k
  obtain ⟨f, fd, ps, F1, hm, hk, hb⟩ := F.ex
  obtain ⟨p, hot, hp⟩ := hc
  exact ⟨rfl, pe_callP (sp := fun _ => toSp X.K cl vsp) F1 hr hot hp hg hm hk hb h.pe hdb he hpl, se_call h.se⟩
end
section
variable {P : Program} {wd : World} {K : PySem.W.Frag} {mg : Str → Option Value} {base : Heap} {cl : Str → Option Addr}
theorem FnV.of {x qual : Str} {st : Stmt} {f : Addr} {fd : FuncData} {N ps : List Str} {k : Nat} {vsp : VSp} (F : Fun K x qual st f fd) (hm : mg x = some (.ref f)) (S : FnScope N ps (defScope st)) (hN : ps.length ≤ N.length) (ln : ∀ qs R, vsp qs R → qs.length = ps.length)
    (hb : ∀ (kV doc pm : Value) (an : Option Addr) (cdv ct : Value) (us : List Value), us.length = ps.length → bindArgs (PySem.W.fnOf x qual (defArgs st) (defBody st) (defScope st) .none kV doc pm an cdv ct) ⟨us, []⟩ = pure (ps.zip us))
    (body : ∀ (cdv : Value) (A : Around) (outer : List Env) (s : Shared) (H : Hp) (E : XK) (p : Addr × Obj), HotC (cxH CX0 P wd K mg base N qual (defScope st) f cdv A outer s H E p) → RoomH k (A.deeper (envOfC qual (defScope st) s.heap.objs.size f cdv)) →
      ∃ t w, QSs cl K (cxH CX0 P wd K mg base N qual (defScope st) f cdv A outer s H E p) (defBody st) t w ∧ ∀ qs R, vsp qs R → w { nx := fun _ _ => R .non, rt := fun p _ => R p } (startS N.length qs) []) :
    FnV P wd K mg base x (k + 1) (fun _ => toSp K cl vsp) := by
  have len : ∀ vs H Q E, toSp K cl vsp vs H Q E → vs.length = ps.length := fun vs H Q E h => by
    obtain ⟨G, qs, R, _, r, hv, _⟩ := h
    rw [r.len, ln qs R hv]
  refine ⟨f, fd, ps, fn_ofP F S (fun _ => len) (fun cdv A outer s H vs Q E p hot hr h => ?_), hm, F.kp, F.binds hb⟩
  obtain ⟨t, w, q, hw⟩ := body cdv A outer s H E p ⟨p, hot, List.mem_singleton.mpr rfl⟩ hr
  exact run_pure q.pe q.se (by rw [len vs H Q E h]; exact hN) h hw
/-- a def whose first argument is the handled exception, an object of D; its value is True or False -/
def toSpX (K : PySem.W.Frag) (cl : Str → Option Addr) (vsp : Addr → VSp) : Addr × Obj → Sp := fun p vs H Q _ => ∃ (D : Addr) (dd : Option Addr) (us : List V) (ps : List PV) (R : PV → Prop), vs = .ref p.1 :: us ∧ ExP K p D dd ∧ (∀ d, dd = some d → ∃ fs, H d = some (.xd fs)) ∧ (∃ a o, H a = some o) ∧
  RepL K cl H us ps ∧ vsp D ps R ∧ ∀ b H', R (.bl b) → Same H H' → Q (.bl b) H'
theorem run_X {X : Cx} {body : List Stmt} {t : TS} {w : WS} {N : List Str} {us : List V} {ps : List PV} {H : Hp} {Q : VK} {a0 : Addr} {R : PV → Prop} (pe : PSs X body t) (hs : SS K cl t w) (hN : us.length + 1 ≤ N.length) (he : ∃ a o, H a = some o) (r : RepL K cl H us ps) (k : ∀ b H', R (.bl b) → Same H H' → Q (.bl b) H')
    (hw : w { nx := fun _ _ => False, rt := fun p _ => ∃ b, p = .bl b ∧ R p } (some (.o (.ref a0)) :: startS (N.length - 1) ps) [Cell.pin H]) : ∃ t, PSs X body t ∧ t { nx := fun _ H' => Q .non H', rt := Q } (L2.start N (V.ref a0 :: us)) H := by
  obtain ⟨a, o, ha⟩ := he
  have one : ∀ (j : Nat) (b : Addr), [a][j]? = some b → j = 0 ∧ b = a := fun j b h => by
    cases j with
    | zero => exact ⟨rfl, by simpa using h.symm⟩
    | succ j => simp at h
  refine ⟨t, pe, hs _ _ _ hw H H H (L2.start N (V.ref a0 :: us)) [a] ⟨Same.refl _, Same.refl _, fun i y e => ?_, ?_, fun j c h => ?_, fun j i b h1 h2 => ?_, fun j b h => ?_, rfl⟩ _ ⟨?_, ?_, ?_, ?_⟩⟩
  · cases i with
    | zero =>
      have h' : some (some (W.o (.ref a0))) = some (some y) := e
      cases h'
      exact ⟨.ref a0, rfl, rfl⟩
    | succ i =>
      obtain ⟨v, hv, rv⟩ := slots_start (al := [a]) (i := i) r e
      refine ⟨v, ?_, rv⟩
      have e : N.length - (us.length + 1) = N.length - 1 - us.length := by omega
      show (us.map some ++ List.replicate (N.length - (us.length + 1)) none)[i]? = _
      rw [e]
      exact hv
  · unfold L2.start startS
    have := r.len
    simp only [List.length_append, List.length_map, List.length_cons, List.length_replicate, r.len]
    omega
  · cases j with
    | zero =>
      have h' : some (Cell.pin H) = some c := h
      cases h'
      exact ⟨a, rfl, ⟨o, ha⟩, Same.refl _⟩
    | succ j => simp at h
  · rw [(one j b h1).1, (one i b h2).1]
  · rw [(one j b h).2]
    exact ⟨o, ha⟩
  · intro _ _ _ _ _ _ _ h; exact h.elim
  · intro _ _ _ _ _ _ _ h; exact h.elim
  · intro _ _ _ _ _ _ _ h; exact h.elim
  · rintro v p σ' sl' st' F' G' H' al' ⟨b, rfl, hR⟩ g S rv
    cases rv
    exact k b H' hR (g.ff.trans S.fh)
theorem FnV.ofX {x qual : Str} {st : Stmt} {f : Addr} {fd : FuncData} {N ps : List Str} {k : Nat} {vsp : Addr → VSp} (F : Fun K x qual st f fd) (hm : mg x = some (.ref f)) (S : FnScope N ps (defScope st)) (hN : ps.length ≤ N.length) (ln : ∀ D qs R, vsp D qs R → qs.length + 1 = ps.length)
    (hb : ∀ (kV doc pm : Value) (an : Option Addr) (cdv ct : Value) (us : List Value), us.length = ps.length → bindArgs (PySem.W.fnOf x qual (defArgs st) (defBody st) (defScope st) .none kV doc pm an cdv ct) ⟨us, []⟩ = pure (ps.zip us))
    (body : ∀ (cdv : Value) (A : Around) (outer : List Env) (s : Shared) (H : Hp) (E : XK) (p : Addr × Obj) (D : Addr) (dd : Option Addr) (qs : List PV) (R : PV → Prop), HotC (cxH CX0 P wd K mg base N qual (defScope st) f cdv A outer s H E p) → RoomH k (A.deeper (envOfC qual (defScope st) s.heap.objs.size f cdv)) →
      ExP K p D dd → (∀ d, dd = some d → ∃ fs, H d = some (.xd fs)) → vsp D qs R →
      ∃ t w, QSs cl K (cxH CX0 P wd K mg base N qual (defScope st) f cdv A outer s H E p) (defBody st) t w ∧ w { nx := fun _ _ => False, rt := fun p _ => ∃ b, p = .bl b ∧ R p } (some (.o (.ref p.1)) :: startS (N.length - 1) qs) [Cell.pin H]) :
    FnV P wd K mg base x (k + 1) (toSpX K cl vsp) := by
  have len : ∀ p vs H Q E, toSpX K cl vsp p vs H Q E → vs.length = ps.length := fun p vs H Q E h => by
    obtain ⟨D, dd, us, qs, R, rfl, _, _, _, r, hv, _⟩ := h
    rw [List.length_cons, r.len, ln D qs R hv]
  refine ⟨f, fd, ps, fn_ofP F S len (fun cdv A outer s H vs Q E p hot hr h => ?_), hm, F.kp, F.binds hb⟩
  have hl := len p vs H Q E h
  obtain ⟨D, dd, us, qs, R, rfl, P', hd, he, r, hv, k'⟩ := h
  obtain ⟨t, w, q, hw⟩ := body cdv A outer s H E p D dd qs R ⟨p, hot, List.mem_singleton.mpr rfl⟩ hr P' hd hv
  exact run_X q.pe q.se (by rw [← List.length_cons (a := V.ref p.1), hl]; exact hN) he r k' hw
/-- a def that is not called so -/
theorem FnV.none {x qual : Str} {st : Stmt} {f : Addr} {fd : FuncData} {ps : List Str} {k : Nat} (F : Fun K x qual st f fd) (hm : mg x = some (.ref f))
    (hb : ∀ (kV doc pm : Value) (an : Option Addr) (cdv ct : Value) (us : List Value), us.length = ps.length → bindArgs (PySem.W.fnOf x qual (defArgs st) (defBody st) (defScope st) .none kV doc pm an cdv ct) ⟨us, []⟩ = pure (ps.zip us)) :
    FnV P wd K mg base x k (fun _ => toSp K cl fun _ _ => False) := by
  have no : ∀ vs H Q E, ¬ toSp K cl (fun _ _ => False) vs H Q E := fun vs H Q E h => by
    obtain ⟨_, _, _, _, _, z, _⟩ := h
    exact z
  exact ⟨f, fd, ps, ⟨fun _ vs H Q E h => (no vs H Q E h).elim, fun _ _ _ _ _ _ _ _ _ _ _ _ _ _ _ _ h => (no _ _ _ _ h).elim⟩, hm, F.kp, F.binds hb⟩
end
end VH

set_option Elab.async false
set_option linter.all false
set_option maxRecDepth 100000
set_option maxHeartbeats 2000000
/-! The law's own except suite. -/
namespace VH
open PySem PySem.Spec PyProof.Rows L2 L2H HotX VL
theorem hot_suite {X : Cx} {a : Addr} {oe : Obj} {cls : Value} {d : Option Addr} {pn : List (Addr × Obj)} (z : L2N.Zn cls d oe) (hf : ∃ vs, oe.data = .fields vs) : Hot1 (X.suite a ((a, oe) :: pn)).A (a, oe) := by
  obtain ⟨vs, hv⟩ := hf
  exact ⟨rfl, vs, hv, z.2.2 vs hv⟩
section
variable {K : PySem.W.Frag} {cl : Str → Option Addr}
def wCallX (K : PySem.W.Frag) (p : Addr × Obj) (vsp : Addr → VSp) (wa : WA) : WE := fun sl st R => wa sl st fun xs st1 => match xs with
  | x :: ys => match vals ys st1 with
    | some (ps, st2) => ∃ (D : Addr) (dd : Option Addr) (k : Nat) (B : Hp), x = .o (.ref p.1) ∧ ExP K p D dd ∧ st2[k]? = some (Cell.pin B) ∧ (∀ d, dd = some d → ∃ fs, B d = some (.xd fs)) ∧ vsp D ps fun q => R (.v q) st2
    | none => False
  | [] => False
theorem se_callX {p : Addr × Obj} {vsp : Addr → VSp} {ta : TA} {wa : WA} (h : SA K cl ta wa) : SE K cl (tCall (toSpX K cl vsp p) [] E0 ta) (wCallX K p vsp wa) := by
  intro sl st R hw F G H σ al S Q q
  refine h sl st _ hw F G H σ al S _ fun vs xs st1 F1 G1 H1 h1 g1 S1 rs => ?_
  dsimp only at h1
  split at h1
  · rename_i x ys
    match vs, rs with
    | v :: us, rs =>
      split at h1
      · rename_i ps st2 e
        obtain ⟨D, dd, k, B, rfl, P, hk, hB, hv⟩ := h1
        obtain rfl : v = .ref p.1 := rs.1
        obtain ⟨F2, G2, S2, g2, l⟩ := vals_ok S1 rs.2 e
        obtain ⟨sB, a, o, ha⟩ := S2.pinned hk
        show toSpX K cl vsp p ((V.ref p.1 :: us) ++ []) H1 Q E0
        rw [List.append_nil]
        refine ⟨D, dd, us, ps, _, rfl, P, fun d hd => ?_, ⟨a, o, ha⟩, RepL.mono (S2.gf.trans S2.fh) _ _ l, hv, fun b H' r sH => ?_⟩
        · obtain ⟨fs, hfs⟩ := hB d hd
          exact ⟨fs, sB _ _ hfs⟩
        · obtain ⟨F3, S3, g3⟩ := S2.called sH (Same.refl _) ((S2.gf.trans S2.fh).trans sH) (fun _ _ z => .inl z)
          exact q (.bl b) (.v (.bl b)) st2 F3 G2 H' r ((g1.trans g2).trans g3) S3 (Rep.bl _)
      · exact h1.elim
  · exact h1.elim
end
section
variable {cl : Str → Option Addr} {K : PySem.W.Frag} {X : Cx} {pos p2 p3 : Pos} {e : Expr} {es : List Expr} {te : TE} {w : WE} {A : TA} {WA' : WA} {x y : Str} {p : Addr × Obj}
theorem q_callX {k : Nat} {vsp : Addr → VSp} (F : FnV X.prog X.w K X.mg X.base x k (toSpX K cl vsp)) (hr : RoomH k X.A) (hot : Hot1 X.A p) (hp : p ∈ X.pn) (h : QA cl K X (e :: es) A WA') (hg : Gl X x := by rfl) (hdb : (x == ("__debug__" : Str)) = false := by decide)
    (he : starEach (e :: es) X.env = (false, eval e X.env) :: starEach es X.env := by rfl) (hpl : (backTo pos (starEach es X.env)).any (·.1) = false := by rfl) : QE cl K X (.Call (.Name x p2) (e :: es) [] pos) (tCall (toSpX K cl vsp p) [] E0 A) (wCallX K p vsp WA') := by
  obtain rfl := h.k
  obtain ⟨f, fd, ps, F1, hm, hk, hb⟩ := F.ex
  exact ⟨rfl, pe_callP F1 hr hot hp hg hm hk hb h.pe hdb he hpl, se_callX h.se⟩
end
section
variable {K : PySem.W.Frag} {cl : Str → Option Addr}
theorem emp_same (G : Hp) : Same emp G := fun _ _ z => by cases z
/-- a field of the handled exception -/
def wXf (K : PySem.W.Frag) (cl : Str → Option Addr) (a : Addr) (d : Option Addr) (f : Str) (w : WE) : WE := fun sl st R => w sl st fun x st1 => x = .o (.ref a) ∧ ∃ (dd : Addr) (fs : List (Str × V)) (v : V) (q : PV) (k : Nat) (B : Hp), d = some dd ∧ st1[k]? = some (Cell.pin B) ∧ B dd = some (.xd fs) ∧ fs.lookup f = some v ∧
  Rep K cl emp v q ∧ R (.v q) st1
theorem se_xf {a : Addr} {d : Option Addr} {C : Addr} {cls : Value} {f : Str} {te : TE} {w : WE} (hc : cls = .ref C) (h : SE K cl te w) : SE K cl (tXf a cls d C f te) (wXf K cl a d f w) := by
  intro sl st R hw F G H σ al S Q q
  refine h sl st _ hw F G H σ al S _ fun v x st1 F1 G1 H1 h1 g1 S1 r1 => ?_
  obtain ⟨rfl, dd, fs, u, p, k, B, hd, hk, hB, hl, hr, hR⟩ := h1
  obtain rfl : v = .ref a := r1
  exact ⟨rfl, hc, dd, fs, u, hd, (S1.pinned hk).1 _ _ hB, hl, q _ _ _ _ _ _ hR g1 S1 (Rep.mono (emp_same _) _ _ hr)⟩
end
section
variable {cl : Str → Option Addr} {K : PySem.W.Frag} {X : Cx} {pos : Pos} {e : Expr} {te : TE} {w : WE} {a C : Addr} {oe : Obj} {cls : Value} {d : Option Addr} {pn : List (Addr × Obj)} {n : Str}
theorem q_xf (T : XfC X.K C) (hno : PySem.W.findIn X.K (.ref C) n = some none) (hc : cls = .ref C) (hz : Zc cls d oe) (hf : ∃ vs, oe.data = .fields vs) (he : QE cl K (X.suite a ((a, oe) :: pn)) e te w) (hb : attributeBase e n X.env (eval e X.env) = eval e X.env := by rfl) :
    QE cl K (X.suite a ((a, oe) :: pn)) (.Attribute e n pos) (tXf a cls d C n te) (wXf K cl a d n w) := by
  obtain rfl : X.K = K := he.k
  exact ⟨rfl, pe_xf T hno hz hf he.pe hb, se_xf hc he.se⟩
end
/-! ### the state behind a raise -/
section
variable {K : PySem.W.Frag} {cl : Str → Option Addr} {F G H : Hp} {σ : L2.St} {al : List Addr} {sl : Sl} {st : Sto}
/-- behind a raise whose exception has a new dict: the dict joins what the trees stand in -/
theorem SOk.xd {H' : Hp} {d : Addr} {fs : List (Str × V)} (S : SOk K cl F G H σ al sl st) (sH : Same H H') (fd : H d = none) (hd : H' d = some (.xd fs)) :
    ∃ F1 G1, SOk K cl F1 G1 H' σ al sl st ∧ Gr F G al st F1 G1 al st ∧ G1 d = some (.xd fs) := by
  obtain ⟨F1, S1, g1⟩ := S.called sH (Same.refl _) ((S.gf.trans S.fh).trans sH) (fun _ _ z => .inl z)
  have gd : G d = none := (S.gf.trans S.fh).free fd
  have sG : Same G (upd G d (.xd fs)) := same_new gd
  have sF : Same F1 (upd F1 d (.xd fs)) := fun b o e => by
    by_cases hb : b = d
    · subst hb
      rw [upd_same, ← hd, S1.fh _ _ e]
    · rw [upd_ne hb]; exact e
  refine ⟨upd F1 d (.xd fs), upd G d (.xd fs), ⟨same_upd S1.gf, same_updR S1.fh hd, fun i x h => ?_, S1.len, fun k c h => ?_, S1.nd, S1.live, S1.cnt⟩, ⟨g1.ff.trans sF, sG, fun b o e => ?_, fun _ _ h => h, fun _ h => h⟩, upd_same⟩
  · obtain ⟨v, h1, h2⟩ := S1.slots i x h
    exact ⟨v, h1, h2.mono sG⟩
  · obtain ⟨b, h1, h2⟩ := S1.cells k c h
    have nb : b ≠ d := fun e => by
      obtain ⟨o, ho⟩ := S.live k b h1
      rw [e, fd] at ho
      cases ho
    refine ⟨b, h1, h2.mono sF sG (fun _ _ e => e) (fun f => by rw [upd_ne nb]; exact f) (fun _ g => by rw [upd_ne nb]; exact g) fun z => ?_⟩
    subst z
    exact h2.2
  · by_cases hb : b = d
    · subst hb
      exact .inr (.inl (S.fh.free fd))
    · rw [upd_ne hb] at e
      exact .inl e
end
end VH

set_option Elab.async false
set_option linter.all false
set_option maxRecDepth 100000
set_option maxHeartbeats 2000000
/-! try: C(..) except x as e: .., the call raises. -/
namespace VH
open PySem PySem.Spec PyProof.Rows L2 L2H HotX VL
section
variable {K : PySem.W.Frag} {cl : Str → Option Addr}
/-- the caught exception's state: its dict, if any, pinned -/
def CaughtAs (K : PySem.W.Frag) (cl : Str → Option Addr) (d : Option Addr) (ns : List Str) (qs : List PV) (st st3 : Sto) : Prop :=
  (d = none ∧ ns = [] ∧ qs = [] ∧ st3 = st) ∨ ∃ (dd : Addr) (B : Hp) (vs : List V), d = some dd ∧ st3 = st ++ [Cell.pin B] ∧ B dd = some (.xd (ns.zip vs)) ∧ ns.length = vs.length ∧ RepL K cl emp vs qs
theorem SOk.pinLast {F G H : Hp} {σ : L2.St} {al : List Addr} {sl : Sl} {st : Sto} {d : Addr} {o : HO} (S : SOk K cl F G H σ al sl st) (hd : G d = some o) (n : ∀ k : Nat, al[k]? ≠ some d) :
    SOk K cl F G H σ (al ++ [d]) sl (st ++ [Cell.pin G]) ∧ Gr F G al st F G (al ++ [d]) (st ++ [Cell.pin G]) := by
  have pre : ∀ (k : Nat) (b : Addr), al[k]? = some b → (al ++ [d])[k]? = some b := fun k b h => by
    rw [List.getElem?_append_left (List.getElem?_eq_some_iff.mp h).1]
    exact h
  have inv : ∀ (k : Nat) (b : Addr), (al ++ [d])[k]? = some b → al[k]? = some b ∨ (k = al.length ∧ b = d) := fun k b h => by
    by_cases hk : k < al.length
    · rw [List.getElem?_append_left hk] at h
      exact .inl h
    · rw [List.getElem?_append_right (by omega)] at h
      have hk' := (List.getElem?_eq_some_iff.mp h).1
      simp at hk'
      have e : k = al.length := by omega
      subst e
      simp at h
      exact .inr ⟨rfl, h.symm⟩
  refine ⟨⟨S.gf, S.fh, fun i x h => ?_, S.len, fun k c' e => ?_, fun k j b h1 h2 => ?_, fun k b e => ?_, by simp [S.cnt]⟩, ⟨Same.refl _, Same.refl _, fun _ _ h => .inl h, pre, fun k h => ?_⟩⟩
  · obtain ⟨v, h1, h2⟩ := S.slots i x h
    exact ⟨v, h1, h2.pre pre⟩
  · by_cases hk : k < st.length
    · rw [List.getElem?_append_left hk] at e
      obtain ⟨b, h1, h2⟩ := S.cells k c' e
      exact ⟨b, pre _ _ h1, h2⟩
    · rw [List.getElem?_append_right (by omega)] at e
      have hk' : k - st.length = 0 := by
        have := (List.getElem?_eq_some_iff.mp e).1
        simp at this
        omega
      rw [hk'] at e
      have e : Cell.pin G = c' := by simpa using e
      subst e
      refine ⟨d, ?_, ⟨o, hd⟩, Same.refl _⟩
      rw [List.getElem?_append_right (by rw [S.cnt]; omega), S.cnt, hk']
      rfl
  · rcases inv k b h1 with q | ⟨q, e⟩
    · rcases inv j b h2 with r | ⟨r, e'⟩
      · exact S.nd k j b q r
      · rw [e'] at q
        exact (n k q).elim
    · rcases inv j b h2 with r | ⟨r, e'⟩
      · rw [e] at r
        exact (n j r).elim
      · rw [q, r]
  · rcases inv k b e with q | ⟨q, e⟩
    · exact S.live k b q
    · rw [e]
      exact ⟨_, S.fh _ _ (S.gf _ _ hd)⟩
  · rw [List.getElem?_append_left (List.getElem?_eq_some_iff.mp h).1]
    exact h
def tTryMk (K : PySem.W.Frag) (c : Value) (i : Nat) (ts : Addr → Value → Option Addr → TS) (Wout : WX) (C : Addr) (sp : Sp) (ta : TA) : TS := fun D σ H => tDrop (tMakeS C sp (fun σ cls d H => wAs K c i ts Wout D cls d σ H) ta) D σ H
def wTryMk (K : PySem.W.Frag) (cl : Str → Option Addr) (c : Value) (i : Nat) (ws : Addr → Value → Option Addr → WS) (vsp : VSpE) (wa : WA) : WS := fun D sl st => wa sl st fun xs st1 => match vals xs st1 with
  | some (ps, st2) => vsp ps fun x ns qs => ∀ (Cx a : Addr) (d : Option Addr) (st3 : Sto), cl x = some Cx → CaughtAs K cl d ns qs st2 st3 → PySem.W.exmOne K (.ref Cx) c = some true ∧
      ws a (.ref Cx) d { nx := fun sl st => D.nx (sl.set i none) st, rt := D.rt, bk := fun sl st => D.bk (sl.set i none) st, ct := fun sl st => D.ct (sl.set i none) st } (sl.set i (some (.o (.ref a)))) st3
  | none => False
theorem ss_tryMk {c : Value} {i : Nat} {ts : Addr → Value → Option Addr → TS} {ws : Addr → Value → Option Addr → WS} {Wout : WX} {C : Addr} {vsp : VSpE} {ta : TA} {wa : WA} (hs : ∀ a cls d, SS K cl (ts a cls d) (ws a cls d)) (ha : SA K cl ta wa) :
    SS K cl (tTryMk K c i ts Wout C (toSpIE K cl C vsp) ta) (wTryMk K cl c i ws vsp wa) := by
  intro D' sl st hw F G H σ al S D dk
  refine ha sl st _ hw F G H σ al S _ fun vs xs st1 F1 G1 H1 h1 g1 S1 rs => ?_
  dsimp only at h1
  split at h1
  · rename_i ps st2 e
    obtain ⟨F2, G2, S2, g2, l⟩ := vals_ok S1 rs e
    intro x dx hx hdx ne
    refine ⟨x, dx, vs, H1, G2, ps, _, rfl, hx, hdx, ne, rfl, S2.gf.trans S2.fh, l, h1, fun cn ns qs hx2 Cx d H' hc sH xr => ⟨true, ?_, fun _ a ha' => ?_, fun z => by cases z⟩⟩
    · rcases xr with ⟨rfl, rfl, rfl⟩ | ⟨dd, us, fd, rfl, hd, hl, hr⟩
      · exact (hx2 Cx 0 none st2 hc (.inl ⟨rfl, rfl, rfl, rfl⟩)).1
      · exact (hx2 Cx 0 (some dd) _ hc (.inr ⟨dd, fun b => if b = dd then some (.xd (ns.zip us)) else none, us, rfl, rfl, if_pos rfl, hl, hr⟩)).1
    · -- the suite
      have go : ∀ {F3 G3 : Hp} {al3 : List Addr} {st3 : Sto}, SOk K cl F3 G3 H' σ al3 sl st3 → Gr F2 G2 al st2 F3 G3 al3 st3 → CaughtAs K cl d ns qs st2 st3 →
          ts a (.ref Cx) d { nx := fun σ' H' => D.nx (σ'.set i none) H', rt := D.rt, bk := fun σ' H' => D.bk (σ'.set i none) H', ct := fun σ' H' => D.ct (σ'.set i none) H' } (σ.set i (some (.ref a))) H' := fun {F3 G3 al3 st3} S3 g3 ca => by
        have hw3 := (hx2 Cx a d st3 hc ca).2
        have dk3 := dk.gr ((g1.trans g2).trans g3)
        refine hs a (.ref Cx) d _ _ _ hw3 F3 G3 H' _ al3 (S3.set (v := .ref a) (x := .o (.ref a)) rfl) _ ⟨?_, ?_, ?_, ?_⟩
        · intro σ' sl' st' F' G' H'' al' h g S'
          exact dk3.nx _ _ _ _ _ _ _ h g S'.gone
        · intro σ' sl' st' F' G' H'' al' h g S'
          exact dk3.bk _ _ _ _ _ _ _ h g S'.gone
        · intro σ' sl' st' F' G' H'' al' h g S'
          exact dk3.ct _ _ _ _ _ _ _ h g S'.gone
        · intro v p σ' sl' st' F' G' H'' al' h g S' rv
          exact dk3.rt _ _ _ _ _ _ _ _ _ h g S' rv
      rcases xr with ⟨rfl, rfl, rfl⟩ | ⟨dd, us, fd, rfl, hd, hl, hr⟩
      · obtain ⟨F3, S3, g3⟩ := S2.called sH (Same.refl _) ((S2.gf.trans S2.fh).trans sH) (fun _ _ z => .inl z)
        exact go S3 g3 (.inl ⟨rfl, rfl, rfl, rfl⟩)
      · obtain ⟨F3, G3, S3, g3, e3⟩ := SOk.xd S2 sH fd hd
        obtain ⟨S4, g4⟩ := SOk.pinLast S3 e3 fun k z => by
          obtain ⟨o, ho⟩ := S2.live k dd z
          rw [fd] at ho
          cases ho
        exact go S4 (g3.trans g4) (.inr ⟨dd, G3, us, rfl, rfl, e3, hl, hr⟩)
  · exact h1.elim
end
end VH

set_option Elab.async false
set_option linter.all false
set_option maxRecDepth 100000
set_option maxHeartbeats 2000000
/-! The rule for try: C(..) except x as e: .. -/
namespace VH
open PySem PySem.Spec PyProof.Rows L2 L2H HotX VL
def W0 : L2.WX := fun _ _ _ _ => False
theorem takes0 {X : Cx} : L2N.Takes X W0 := by
  intro u s' h
  obtain ⟨a, B, sI, pins, σ, H, cls, d, rfl, J, nb, up, sky, na, os, ag, q⟩ := h
  exact q.elim
section
variable {cl : Str → Option Addr} {K : PySem.W.Frag} {X : Cx} {x y n : Str} {c : Value} {i k : Nat} {suite : List Stmt} {b₀ : Stmt} {np p2 p3 pos pos' p5 : Pos} {C : Addr} {vsp : VSpE} {e : Expr} {es : List Expr} {A : TA} {WA' : WA} {ts : Addr → Value → Option Addr → TS} {ws : Addr → Value → Option Addr → WS}
theorem qs_tryMk (F : MkE X.prog X.w X.K X.mg X.base y C k (toSpIE K cl C vsp)) (hr : Room (k + 1) X.A) (hs : X.stack = X.env :: X.outer) (hf : X.env.frame = some X.env.locals) (hN : X.N.Nodup) (hc : Names X x c)
    (ha : ∀ (pn : List (Addr × Obj)) (xe : Value → Shared → Prop), QA cl K (X.tr pn xe) (e :: es) A WA')
    (hsu : ∀ (a : Addr) (oe : Obj) (cls : Value) (d : Option Addr) (pn : List (Addr × Obj)), L2N.Zn cls d oe → (∃ vs, oe.data = .fields vs) → QSs cl K (X.suite a ((a, oe) :: pn)) (b₀ :: suite) (ts a cls d) (ws a cls d))
    (hss : ∀ a cls d, SS K cl (ts a cls d) (ws a cls d))
    (hi : X.N[i]? = some n := by rfl) (hln : X.env.kindOf n = some .local := by rfl) (hg : Gl X y := by rfl) (hdb : (y == ("__debug__" : Str)) = false := by decide)
    (he : starEach (e :: es) X.env = (false, eval e X.env) :: starEach es X.env := by rfl) (hpl : (backTo p3 (starEach es X.env)).any (·.1) = false := by rfl) (hsw : swapsWith (.Call (.Name y p2) (e :: es) [] p3) none p5.line X.env = pure false := by rfl) (hk : X.K = K := by rfl) :
    QS cl K X (.Try [.Expr (.Call (.Name y p2) (e :: es) [] p3) p5] [.ExceptHandler (some (.Name x np)) (some n) (b₀ :: suite) pos'] [] [] pos) (tTryMk K c i ts W0 C (toSpIE K cl C vsp) A) (wTryMk K cl c i ws vsp WA') := by
  subst hk
  obtain ⟨f, fd, ps, F1, hM, hm, hb⟩ := F.ex
  refine ⟨rfl, ?_, ss_tryMk hss (ha [] X.xe).se⟩
  refine L2N.ps_try_as (tb := fun W => tDrop (tMakeS C (toSpIE X.K cl C vsp) (fun σ cls d H => W cls d σ H) A)) hs hf hN hi hln hc takes0 (fun W pn xe tk _ => ?_) (fun a oe cls d pn z hv => (hsu a oe cls d pn z hv).pe)
  exact pss_one (ps_expr (pe_makeS (X := X.tr pn xe) hM F1 hr hg hm hb (fun σ => L2N.passAt tk σ) (ha pn xe).pe hdb he hpl) hsw)
end
end VH

set_option Elab.async false
set_option linter.all false
set_option maxRecDepth 100000
set_option maxHeartbeats 2000000
/-! Raises with fields; defs that raise, by their bodies; a call in a try that raises. -/
namespace VH
open PySem PySem.Spec PyProof.Rows L2 L2H HotX VL
/-- an own __init__ with two fields -/
theorem run_x2 {K : PySem.W.Frag} {f g n0 n1 n2 : Str} {vs : List V} {H : Hp} {Q : VK} {E : XK} (h : spX2 K f g vs H Q E) :
    (tSeq (tDrop (tVeI K (tCons (tVar 0) (tCons (tVar 2) tNil)))) (tSeq (tOst K f (tVar 0) (tVar 1)) (tOst K g (tVar 0) (tVar 2)))) { nx := fun _ H' => Q .non H', rt := Q } (L2.start [n0, n1, n2] vs) H := by
  obtain ⟨a, C, y, z, rfl, ox, hf, hg, ea, k⟩ := h
  refine ⟨_, rfl, _, rfl, a, C, [z], rfl, by simp, ox, ea, ?_⟩
  refine ⟨_, rfl, _, rfl, a, C, rfl, ox, hf, .inl ⟨ea, fun d hd hne => ?_⟩⟩
  refine ⟨_, rfl, _, rfl, a, C, rfl, ox, hg, .inr ⟨d, [(f, y)], upd_same, by rw [upd_ne hne]; exact upd_same, by simp, k d hd hne⟩⟩
theorem run_x1 {K : PySem.W.Frag} {f n0 n1 : Str} {m : Str} {vs : List V} {H : Hp} {Q : VK} {E : XK} (h : spX1 K f vs H Q E) :
    (tSeq (tDrop (tVeI K (tCons (tVar 0) (tCons (tC (.str m)) tNil)))) (tOst K f (tVar 0) (tVar 1))) { nx := fun _ H' => Q .non H', rt := Q } (L2.start [n0, n1] vs) H := by
  obtain ⟨a, C, y, rfl, ox, hf, ea, k⟩ := h
  refine ⟨_, rfl, a, C, [.str m], rfl, by simp, ox, ea, ?_⟩
  exact ⟨_, rfl, _, rfl, a, C, rfl, ox, hf, .inl ⟨ea, k⟩⟩
theorem pmk_oexN {X : Cx} {CX : CXT} {x : Str} {e : Expr} {es : List Expr} {ta : TA} {p pos : Pos} {C fI : Addr} {k : Nat} {fd : FuncData} {ps : List Str} {sp : Sp} (T : OexC X.K C) (iC : PySem.W.findIn X.K (.ref C) "__init__" = some (some (.ref fI))) (tI : PySem.W.typeIn X.K (.ref fI) = some (.type "function"))
    (F1 : FnOk X.prog X.w X.K X.mg X.base CX k fI fd ps sp) (hr : Room (k + 1) X.A) (hb : Binds X.K fd ps []) (hx : Passes CX X (fun _ _ _ => False)) (hg : Gl X x) (hm : X.mg x = some (.ref C)) (ha : PA X (e :: es) ta)
    (hdb : (x == ("__debug__" : Str)) = false := by decide) (he : starEach (e :: es) X.env = (false, eval e X.env) :: starEach es X.env := by rfl) (hpl : (backTo pos (starEach es X.env)).any (·.1) = false := by rfl) :
    L2N.PMk X (.Call (.Name x p) (e :: es) [] pos) (tMkO C sp [] ta) := by
  intro pins s σ H Q I h
  obtain ⟨nm, q, N, bs, bm, sn, sub, ab, col, dd, k0, k1, k2, k3, k5, hC, hbm⟩ := T.cls
  refine wpAny_Call_Name_kw (ld_glob I hg hm ?_ hdb)
  refine PySem.W.callWith_K (h₀ := X.base) I.ok.mod.kin T.kC (thn (ha.run pos pins s σ H _ I h) fun us s1 ⟨vs, H1, I1, r1, hz, q1⟩ => ⟨I1.kIn, ?_⟩) he hpl
  show wpAny _ _ (call (.ref C) us) _ _ _
  obtain ⟨hp, g, dr, tk, os⟩ := s1
  have hsz : hp.objs.size ≤ hp.objs.size + 1 := Nat.le_succ _
  have hn : H1 (hp.objs.size + 1) = none := I1.hok.fresh hsz
  have hq := q1 (hp.objs.size + 1) hn
  rw [List.append_nil] at hq
  have kk : ∀ b o, hp.get? b = some o → ((hp.push (PySem.W.kdv_tup us)).push (PySem.HandSPX.excO C hp.objs.size)).get? b = some o := fun b o e => Heap.get?_push_of_some _ (Heap.get?_push_of_some _ e)
  have hget : ((hp.push (PySem.W.kdv_tup us)).push (PySem.HandSPX.excO C hp.objs.size)).get? (hp.objs.size + 1) = some (PySem.HandSPX.excO C hp.objs.size) := by heap_get
  have I2 : Inv X pins σ (upd H1 (hp.objs.size + 1) (exo (hp.objs.size + 1) C none)) ⟨(hp.push (PySem.W.kdv_tup us)).push (PySem.HandSPX.excO C hp.objs.size), g, dr, tk, os⟩ :=
    I1.laid (t' := tk) (a := hp.objs.size + 1) (o := exo (hp.objs.size + 1) C none) (h' := (hp.push (PySem.W.kdv_tup us)).push (PySem.HandSPX.excO C hp.objs.size)) kk hsz (exo_ok hget)
  have r2 : Vals (V.ref (hp.objs.size + 1) :: vs) (Value.ref (hp.objs.size + 1) :: us) := .cons rfl r1
  have hl : (Value.ref (hp.objs.size + 1) :: us ++ []).length = ps.length := by
    have e := r2.length
    rw [F1.len _ _ _ _ hq] at e
    rw [List.append_nil]
    exact e.symm
  have hus : us.length ≤ sizeLine := by
    rw [← Paired.length r1, sizeLine_eq]
    omega
  have b2 := hb _ (Value.ref (hp.objs.size + 1) :: us) I2.kIn hl
  rw [List.append_nil] at b2
  refine wpAny_call (PySem.HandSPX.call_own F.excBase_ValueError (fun Y => PySem.HandSPX.refsVE_contains Y bm hbm) (I1.kIn _ _ hC) (PySem.W.looks_findIn I1.kIn iC) (fun self => PySem.W.bind_fn I1.kIn self tI) hus
    (codeAny_mono (F1.run _ X.stack _ _ ⟨Value.ref (hp.objs.size + 1) :: us, []⟩ (Value.ref (hp.objs.size + 1) :: us) _ _ (fun _ _ _ => False) (hr.make C us []) (I2.env0.make C us []) b2 r2 hq) fun r s' hq' => ?_))
  cases r with
  | error er => exact hx pins σ _ _ er s' I2 hq'
  | ok fl =>
    cases fl with
    | ret u =>
      obtain ⟨v, H2, os2, bare2, un2, hok2, rv, ev, d, fs, ea, ed, hd1, q2⟩ := hq'
      subst ev
      obtain ⟨h2, g2, d2, t2, os'⟩ := s'
      obtain ⟨t0, G, J, kG, ge, hoe, na⟩ := mk_end0 (d2 := d2) (t2 := t2) I1 hsz kk un2 hok2 os2 bare2 ea ed hd1
      refine ⟨rv, hp.objs.size + 1, _, _, ⟨G, g2, d2, t2, os'⟩, _, .ref C, some d, rfl, J, kG, ge, hoe, ⟨rfl, rfl, fun vs hv => ?_⟩, rfl, rfl, na, rfl, bare2, raises_own T.exC T.tyC, q2⟩
      cases hv
      rfl
    | next => exact False.elim hq'
    | brk => exact False.elim hq'
    | cont => exact False.elim hq'
section
variable {cl : Str → Option Addr} {K : PySem.W.Frag} {X : Cx} {pos p2 p3 p2b : Pos} {e : Expr} {es : List Expr} {A : TA} {WA' : WA} {x : Str} {E : XK}
theorem qs_raise2 {C : Addr} {f g : Str} {k : Nat} (hc : X.calm = true) (tk : L2N.Takes X (fun cls d _ H => E cls d H)) (T : Xc X.prog X.w K X.mg X.base cl x C k (spX2 K f g)) (hf : PySem.W.findIn K (.ref C) f = some none) (hg2 : PySem.W.findIn K (.ref C) g = some none) (hr : Room (k + 1) X.A)
    (ha : QA cl K X (e :: es) A WA') (hg : Gl X x := by rfl) (hdb : (x == ("__debug__" : Str)) = false := by decide)
    (he : starEach (e :: es) X.env = (false, eval e X.env) :: starEach es X.env := by rfl) (hpl : (backTo pos (starEach es X.env)).any (·.1) = false := by rfl) :
    QS cl K X (.Raise (some (.Call (.Name x p2) (e :: es) [] pos)) none p2b) (fun _ σ H => tMkO C (spX2 K f g) [] A σ H E) (wRaise2 K cl E x f g WA') := by
  obtain rfl := ha.k
  obtain ⟨fI, fd, ps, h1, h2, F1, hb⟩ := T.ini
  exact ⟨rfl, L2N.ps_raise hc tk (pmk_oexN T.ox h1 h2 F1 hr hb pass0 hg T.gm ha.pe hdb he hpl), ss_raise2 T.cl T.ox hf hg2 ha.se⟩
theorem qs_raise1 {C : Addr} {f : Str} {k : Nat} (hc : X.calm = true) (tk : L2N.Takes X (fun cls d _ H => E cls d H)) (T : Xc X.prog X.w K X.mg X.base cl x C k (spX1 K f)) (hf : PySem.W.findIn K (.ref C) f = some none) (hr : Room (k + 1) X.A)
    (ha : QA cl K X (e :: es) A WA') (hg : Gl X x := by rfl) (hdb : (x == ("__debug__" : Str)) = false := by decide)
    (he : starEach (e :: es) X.env = (false, eval e X.env) :: starEach es X.env := by rfl) (hpl : (backTo pos (starEach es X.env)).any (·.1) = false := by rfl) :
    QS cl K X (.Raise (some (.Call (.Name x p2) (e :: es) [] pos)) none p2b) (fun _ σ H => tMkO C (spX1 K f) [] A σ H E) (wRaise1 K cl E x f WA') := by
  obtain rfl := ha.k
  obtain ⟨fI, fd, ps, h1, h2, F1, hb⟩ := T.ini
  exact ⟨rfl, L2N.ps_raise hc tk (pmk_oexN T.ox h1 h2 F1 hr hb pass0 hg T.gm ha.pe hdb he hpl), ss_raise1 T.cl T.ox hf ha.se⟩
end
section
variable {P : Program} {w : World} {K : PySem.W.Frag} {mg : Str → Option Value} {base : Heap} {cl : Str → Option Addr}
theorem _root_.L2.Fun.okN {x qual : Str} {st : Stmt} {f : Addr} {fd : FuncData} {N ps : List Str} {k : Nat} {sp : Sp} (F : Fun K x qual st f fd) (S : FnScope N ps (defScope st)) (len : ∀ vs H Q E, sp vs H Q E → vs.length = ps.length)
    (hbody : ∀ (cdv : Value) (A : Around) (outer : List Env) (s : Shared) (H : Hp) (vs : List V) (Q : VK) (E : XK), Room k (A.deeper (envOfC qual (defScope st) s.heap.objs.size f cdv)) → sp vs H Q E →
      ∃ t, PSs (cxOf (L2N.CX P w) P w K mg base N qual (defScope st) f cdv A outer s H E) (defBody st) t ∧ t { nx := fun _ H' => Q .non H', rt := Q } (L2.start N vs) H) : FnOk P w K mg base (L2N.CX P w) (k + 1) f fd ps sp := by
  obtain ⟨oc, od, kV, doc, pm, an, cdv, ct, osl, rfl, lk, hcd⟩ := F.ex
  exact fn_of lk hcd S len fun A outer s H vs Q E hr hsp => hbody cdv A outer s H vs Q E hr hsp
theorem takesC {N : List Str} {qual : Str} {sc : Scope} {f : Addr} {cdv : Value} {A : Around} {outer : List Env} {s : Shared} {H : Hp} {E : XK} : L2N.Takes (cxOf (L2N.CX P w) P w K mg base N qual sc f cdv A outer s H E) (fun cls d _ H => E cls d H) := L2N.takes_of rfl rfl rfl rfl
/-- a def that raises, by its body -/
theorem FnE.of {x qual : Str} {st : Stmt} {f : Addr} {fd : FuncData} {N ps : List Str} {k : Nat} {vsp : VSpE} (F : Fun K x qual st f fd) (hm : mg x = some (.ref f)) (S : FnScope N ps (defScope st)) (hN : ps.length ≤ N.length) (ln : ∀ qs R, vsp qs R → qs.length = ps.length)
    (hb : ∀ (kV doc pm : Value) (an : Option Addr) (cdv ct : Value) (us : List Value), us.length = ps.length → bindArgs (PySem.W.fnOf x qual (defArgs st) (defBody st) (defScope st) .none kV doc pm an cdv ct) ⟨us, []⟩ = pure (ps.zip us))
    (body : ∀ (cdv : Value) (A : Around) (outer : List Env) (s : Shared) (H : Hp) (E : XK), Room k (A.deeper (envOfC qual (defScope st) s.heap.objs.size f cdv)) →
      L2N.Takes (cxOf (L2N.CX P w) P w K mg base N qual (defScope st) f cdv A outer s H E) (fun cls d _ H => E cls d H) →
      ∃ t wb, QSs cl K (cxOf (L2N.CX P w) P w K mg base N qual (defScope st) f cdv A outer s H E) (defBody st) t wb ∧ ∀ qs Rx, vsp qs Rx → (∀ c ns ps, Rx c ns ps → XW K cl E H c ns ps) → wb { nx := fun _ _ => False, rt := fun _ _ => False } (startS N.length qs) [Cell.pin H]) :
    FnE P w K mg base x (k + 1) (toSpE K cl vsp) := by
  have len : ∀ vs H Q E, toSpE K cl vsp vs H Q E → vs.length = ps.length := fun vs H Q E h => by
    obtain ⟨G, qs, R, _, r, _, hv, _⟩ := h
    rw [r.len, ln qs R hv]
  refine ⟨f, fd, ps, F.okN S len (fun cdv A outer s H vs Q E hr h => ?_), hm, F.kp, F.binds hb⟩
  obtain ⟨t, w, q, hw⟩ := body cdv A outer s H E hr takesC
  exact run_E q.pe q.se (by rw [len vs H Q E h]; exact hN) h hw
theorem MkE.of {x : Str} {qual : Str} {st : Stmt} {f C : Addr} {fd : FuncData} {N ps : List Str} {k : Nat} {vsp : VSpE} (F : Fun K "__init__" qual st f fd) (M : Mk K C f) (hm : mg x = some (.ref C)) (S : FnScope N ps (defScope st)) (hN : ps.length ≤ N.length) (ln : ∀ qs R, vsp qs R → qs.length + 1 = ps.length)
    (hb : ∀ (kV doc pm : Value) (an : Option Addr) (cdv ct : Value) (us : List Value), us.length = ps.length → bindArgs (PySem.W.fnOf "__init__" qual (defArgs st) (defBody st) (defScope st) .none kV doc pm an cdv ct) ⟨us, []⟩ = pure (ps.zip us))
    (body : ∀ (cdv : Value) (A : Around) (outer : List Env) (s : Shared) (H0 : Hp) (E : XK), Room k (A.deeper (envOfC qual (defScope st) s.heap.objs.size f cdv)) →
      L2N.Takes (cxOf (L2N.CX P w) P w K mg base N qual (defScope st) f cdv A outer s H0 E) (fun cls d _ H => E cls d H) →
      ∃ t wb, QSs cl K (cxOf (L2N.CX P w) P w K mg base N qual (defScope st) f cdv A outer s H0 E) (defBody st) t wb ∧ ∀ (x : Addr) qs Rx H, vsp qs Rx → (∀ c ns ps, Rx c ns ps → XW K cl E H c ns ps) → wb { nx := fun _ _ => False, rt := fun _ _ => False } (some (.o (.ref x)) :: startS (N.length - 1) qs) [Cell.pin H]) :
    MkE P w K mg base x C (k + 1) (toSpIE K cl C vsp) := by
  have len : ∀ vs H Q E, toSpIE K cl C vsp vs H Q E → vs.length = ps.length := fun vs H Q E h => by
    obtain ⟨x, dx, us, H', G, qs, R, rfl, _, _, _, _, _, r, hv, _⟩ := h
    rw [List.length_cons, r.len, ln qs R hv]
  refine ⟨f, fd, ps, F.okN S len (fun cdv A outer s H vs Q E hr h => ?_), M, hm, F.binds hb⟩
  obtain ⟨t, w, q, hw⟩ := body cdv A outer s H E hr takesC
  exact run_IE q.pe q.se (by rw [len vs H Q E h]; exact hN) h hw
end
/-! ### try: f(..) except x as e: ..; the call raises -/
section
variable {K : PySem.W.Frag} {cl : Str → Option Addr}
/-- what a suite is wished to do, told by values -/
def CaughtW (K : PySem.W.Frag) (cl : Str → Option Addr) (c : Value) (i : Nat) (ws : Addr → Value → Option Addr → WS) (D : PEnds) (sl : Sl) (st2 : Sto) (x : Str) (ns : List Str) (qs : List PV) : Prop :=
  ∀ (Cx a : Addr) (d : Option Addr) (st3 : Sto), cl x = some Cx → CaughtAs K cl d ns qs st2 st3 → PySem.W.exmOne K (.ref Cx) c = some true ∧
      ws a (.ref Cx) d { nx := fun sl st => D.nx (sl.set i none) st, rt := D.rt, bk := fun sl st => D.bk (sl.set i none) st, ct := fun sl st => D.ct (sl.set i none) st } (sl.set i (some (.o (.ref a)))) st3
theorem caught {F2 G2 H1 : Hp} {σ : L2.St} {al : List Addr} {sl : Sl} {st2 : Sto} {c : Value} {i : Nat} {ts : Addr → Value → Option Addr → TS} {ws : Addr → Value → Option Addr → WS} {Wout : WX} {D' : PEnds} {D : Ends} {x : Str} {ns : List Str} {qs : List PV}
    (hs : ∀ a cls d, SS K cl (ts a cls d) (ws a cls d)) (S2 : SOk K cl F2 G2 H1 σ al sl st2) (dk : DOk K cl F2 G2 al st2 D' D) (hx2 : CaughtW K cl c i ws D' sl st2 x ns qs) : XW K cl (fun cls d H => wAs K c i ts Wout D cls d σ H) H1 x ns qs := by
  intro Cx d H' hc sH xr
  refine ⟨true, ?_, fun _ a ha' => ?_, fun z => by cases z⟩
  · rcases xr with ⟨rfl, rfl, rfl⟩ | ⟨dd, us, fd, rfl, hd, hl, hr⟩
    · exact (hx2 Cx 0 none st2 hc (.inl ⟨rfl, rfl, rfl, rfl⟩)).1
    · exact (hx2 Cx 0 (some dd) _ hc (.inr ⟨dd, fun b => if b = dd then some (.xd (ns.zip us)) else none, us, rfl, rfl, if_pos rfl, hl, hr⟩)).1
  · have go : ∀ {F3 G3 : Hp} {al3 : List Addr} {st3 : Sto}, SOk K cl F3 G3 H' σ al3 sl st3 → Gr F2 G2 al st2 F3 G3 al3 st3 → CaughtAs K cl d ns qs st2 st3 →
        ts a (.ref Cx) d { nx := fun σ' H' => D.nx (σ'.set i none) H', rt := D.rt, bk := fun σ' H' => D.bk (σ'.set i none) H', ct := fun σ' H' => D.ct (σ'.set i none) H' } (σ.set i (some (.ref a))) H' := fun {F3 G3 al3 st3} S3 g3 ca => by
      have hw3 := (hx2 Cx a d st3 hc ca).2
      have dk3 := dk.gr g3
      refine hs a (.ref Cx) d _ _ _ hw3 F3 G3 H' _ al3 (S3.set (v := .ref a) (x := .o (.ref a)) rfl) _ ⟨?_, ?_, ?_, ?_⟩
      · intro σ' sl' st' F' G' H'' al' h g S'
        exact dk3.nx _ _ _ _ _ _ _ h g S'.gone
      · intro σ' sl' st' F' G' H'' al' h g S'
        exact dk3.bk _ _ _ _ _ _ _ h g S'.gone
      · intro σ' sl' st' F' G' H'' al' h g S'
        exact dk3.ct _ _ _ _ _ _ _ h g S'.gone
      · intro v p σ' sl' st' F' G' H'' al' h g S' rv
        exact dk3.rt _ _ _ _ _ _ _ _ _ h g S' rv
    rcases xr with ⟨rfl, rfl, rfl⟩ | ⟨dd, us, fd, rfl, hd, hl, hr⟩
    · obtain ⟨F3, S3, g3⟩ := S2.called sH (Same.refl _) ((S2.gf.trans S2.fh).trans sH) (fun _ _ z => .inl z)
      exact go S3 g3 (.inl ⟨rfl, rfl, rfl, rfl⟩)
    · obtain ⟨F3, G3, S3, g3, e3⟩ := SOk.xd S2 sH fd hd
      obtain ⟨S4, g4⟩ := SOk.pinLast S3 e3 fun k z => by
        obtain ⟨o, ho⟩ := S2.live k dd z
        rw [fd] at ho
        cases ho
      exact go S4 (g3.trans g4) (.inr ⟨dd, G3, us, rfl, rfl, e3, hl, hr⟩)
def tTryF (K : PySem.W.Frag) (c : Value) (i : Nat) (ts : Addr → Value → Option Addr → TS) (Wout : WX) (sp : Sp) (ta : TA) : TS := fun D σ H => tDrop (tCallS sp (fun σ cls d H => wAs K c i ts Wout D cls d σ H) ta) D σ H
def wTryF (K : PySem.W.Frag) (cl : Str → Option Addr) (c : Value) (i : Nat) (ws : Addr → Value → Option Addr → WS) (vsp : VSpE) (wa : WA) : WS := fun D sl st => wa sl st fun xs st1 => match vals xs st1 with
  | some (ps, st2) => (0 < st2.length) ∧ vsp ps fun x ns qs => CaughtW K cl c i ws D sl st2 x ns qs
  | none => False
theorem ss_tryF {c : Value} {i : Nat} {ts : Addr → Value → Option Addr → TS} {ws : Addr → Value → Option Addr → WS} {Wout : WX} {vsp : VSpE} {ta : TA} {wa : WA} (hs : ∀ a cls d, SS K cl (ts a cls d) (ws a cls d)) (ha : SA K cl ta wa) :
    SS K cl (tTryF K c i ts Wout (toSpE K cl vsp) ta) (wTryF K cl c i ws vsp wa) := by
  intro D' sl st hw F G H σ al S D dk
  refine ha sl st _ hw F G H σ al S _ fun vs xs st1 F1 G1 H1 h1 g1 S1 rs => ?_
  dsimp only at h1
  split at h1
  · rename_i ps st2 e
    obtain ⟨F2, G2, S2, g2, l⟩ := vals_ok S1 rs e
    obtain ⟨h0, h1⟩ := h1
    refine ⟨G2, ps, _, S2.gf.trans S2.fh, l, ?_, h1, fun cn ns qs hx2 => caught hs S2 (dk.gr (g1.trans g2)) hx2⟩
    have hal : 0 < al.length := by rw [S2.cnt]; exact h0
    obtain ⟨o, ho⟩ := S2.live 0 al[0] (by simp [hal])
    exact ⟨_, o, ho⟩
  · exact h1.elim
end
section
variable {cl : Str → Option Addr} {K : PySem.W.Frag} {X : Cx} {x y n : Str} {c : Value} {i k : Nat} {suite : List Stmt} {b₀ : Stmt} {np p2 p3 pos pos' p5 : Pos} {vsp : VSpE} {e : Expr} {es : List Expr} {A : TA} {WA' : WA} {ts : Addr → Value → Option Addr → TS} {ws : Addr → Value → Option Addr → WS}
theorem qs_tryF (F : FnE X.prog X.w X.K X.mg X.base y k (toSpE K cl vsp)) (hr : Room k X.A) (hs : X.stack = X.env :: X.outer) (hf : X.env.frame = some X.env.locals) (hN : X.N.Nodup) (hc : Names X x c)
    (ha : ∀ (pn : List (Addr × Obj)) (xe : Value → Shared → Prop), QA cl K (X.tr pn xe) (e :: es) A WA')
    (hsu : ∀ (a : Addr) (oe : Obj) (cls : Value) (d : Option Addr) (pn : List (Addr × Obj)), L2N.Zn cls d oe → (∃ vs, oe.data = .fields vs) → QSs cl K (X.suite a ((a, oe) :: pn)) (b₀ :: suite) (ts a cls d) (ws a cls d))
    (hss : ∀ a cls d, SS K cl (ts a cls d) (ws a cls d))
    (hi : X.N[i]? = some n := by rfl) (hln : X.env.kindOf n = some .local := by rfl) (hg : Gl X y := by rfl) (hdb : (y == ("__debug__" : Str)) = false := by decide)
    (he : starEach (e :: es) X.env = (false, eval e X.env) :: starEach es X.env := by rfl) (hpl : (backTo p3 (starEach es X.env)).any (·.1) = false := by rfl) (hsw : swapsWith (.Call (.Name y p2) (e :: es) [] p3) none p5.line X.env = pure false := by rfl) (hk : X.K = K := by rfl) :
    QS cl K X (.Try [.Expr (.Call (.Name y p2) (e :: es) [] p3) p5] [.ExceptHandler (some (.Name x np)) (some n) (b₀ :: suite) pos'] [] [] pos) (tTryF K c i ts W0 (toSpE K cl vsp) A) (wTryF K cl c i ws vsp WA') := by
  subst hk
  obtain ⟨f, fd, ps, F1, hm, hkp, hb⟩ := F.ex
  refine ⟨rfl, ?_, ss_tryF hss (ha [] X.xe).se⟩
  refine L2N.ps_try_as (tb := fun W => tDrop (tCallS (toSpE X.K cl vsp) (fun σ cls d H => W cls d σ H) A)) hs hf hN hi hln hc takes0 (fun W pn xe tk _ => ?_) (fun a oe cls d pn z hv => (hsu a oe cls d pn z hv).pe)
  exact pss_one (ps_expr (pe_callS (X := X.tr pn xe) F1 hr hg hm hkp hb (fun σ => L2N.passAt tk σ) (ha pn xe).pe hdb he hpl) hsw)
end
/-! ### a call that only looks at lists of one's own -/
section
variable {K : PySem.W.Frag} {cl : Str → Option Addr} {F G H : Hp} {σ : L2.St} {al : List Addr} {sl : Sl} {st : Sto}
def looks : List W → Sto → Option (List PV)
  | [], _ => some []
  | .v p :: xs, st => (looks xs st).map (p :: ·)
  | .l k :: xs, st => match st[k]? with
    | some (.lst ps) => (looks xs st).map (.lst ps :: ·)
    | some (.frz ps) => (looks xs st).map (.lst ps :: ·)
    | some (.lk ps) => (looks xs st).map (.lst ps :: ·)
    | _ => none
  | .o _ :: _, _ => none
  | .ik _ _ _ :: _, _ => none
  | .im _ _ :: _, _ => none
theorem looks_ok (S : SOk K cl F G H σ al sl st) : ∀ {xs : List W} {vs : List V} {ps : List PV}, RepWs K cl al G vs xs → looks xs st = some ps → RepL K cl H vs ps
  | [], [], ps, _, h => by cases h; exact .nil
  | [], _ :: _, _, r, _ => r.elim
  | _ :: _, [], _, r, _ => r.elim
  | .v p :: xs, v :: vs, ps, r, h => by
    cases e : looks xs st with
    | none => simp [looks, e] at h
    | some qs =>
      simp only [looks, e, Option.map_some, Option.some.injEq] at h
      subst h
      exact .cons (Rep.mono (S.gf.trans S.fh) _ _ r.1) (looks_ok S r.2 e)
  | .o _ :: _, _ :: _, _, _, h => by simp [looks] at h
  | .ik _ _ _ :: _, _ :: _, _, _, h => by simp [looks] at h
  | .im _ _ :: _, _ :: _, _, _, h => by simp [looks] at h
  | .l k :: xs, v :: vs, ps, r, h => by
    obtain ⟨a, ha, rfl⟩ := r.1
    cases e : looks xs st with
    | none =>
      unfold looks at h
      rw [e] at h
      split at h <;> simp at h
    | some qs =>
      unfold looks at h
      rw [e] at h
      have l := looks_ok S r.2 e
      have gh := S.gf.trans S.fh
      split at h
      · rename_i zs ek
        cases h
        obtain ⟨b, hb, _, us, e1, l1⟩ := S.cells k _ ek
        rw [ha] at hb
        cases hb
        exact .cons (.lst e1 (RepL.mono gh _ _ l1)) l
      · rename_i zs ek
        cases h
        obtain ⟨b, hb, us, e1, l1⟩ := S.cells k _ ek
        rw [ha] at hb
        cases hb
        exact .cons (.lst (gh _ _ e1) (RepL.mono gh _ _ l1)) l
      · rename_i zs ek
        cases h
        obtain ⟨b, hb, _, us, e1, l1⟩ := S.cells k _ ek
        rw [ha] at hb
        cases hb
        exact .cons (.lst (S.fh _ _ e1) (RepL.mono gh _ _ l1)) l
      · cases h
/-- values that need no heap -/
def flat0 : PV → Bool
  | .int _ => true
  | .str _ => true
  | .bl _ => true
  | .non => true
  | _ => false
theorem rep_flat0 {G' : Hp} {v : V} {p : PV} (h : Rep K cl G' v p) (f : flat0 p = true) : Rep K cl G v p := by
  cases p <;> cases h <;> first | exact .int _ | exact .str _ | exact .bl _ | exact .non | cases f
def wCallF (vsp : VSp) (wa : WA) : WE := fun sl st R => wa sl st fun xs st1 => match looks xs st1 with
  | some ps => vsp ps fun p => flat0 p = true ∧ R (.v p) st1
  | none => False
theorem se_callF {vsp : VSp} {ta : TA} {wa : WA} (h : SA K cl ta wa) : SE K cl (tCall (toSp K cl vsp) [] E0 ta) (wCallF vsp wa) := by
  intro sl st R hw F G H σ al S Q q
  refine h sl st _ hw F G H σ al S _ fun vs xs st1 F1 G1 H1 h1 g1 S1 rs => ?_
  dsimp only at h1
  split at h1
  · rename_i ps e
    show toSp K cl vsp (vs ++ []) H1 Q E0
    rw [List.append_nil]
    refine ⟨H1, ps, _, Same.refl _, looks_ok S1 rs e, h1, fun v p G' H' r sH sG gh new rv => ?_⟩
    obtain ⟨F3, S3, g3⟩ := S1.called sH (Same.refl _) ((S1.gf.trans S1.fh).trans sH) (fun _ _ z => .inl z)
    exact q v (.v p) st1 F3 G1 H' r.2 (g1.trans g3) S3 (rep_flat0 rv r.1)
  · exact h1.elim
end
section
variable {cl : Str → Option Addr} {K : PySem.W.Frag} {X : Cx} {pos p2 : Pos} {e : Expr} {es : List Expr} {A : TA} {WA' : WA} {x : Str}
theorem q_callF {k : Nat} {vsp : VSp} (F : Fn X.prog X.w X.K X.mg X.base x k (toSp K cl vsp)) (hr : Room k X.A) (h : QA cl K X (e :: es) A WA') (hg : Gl X x := by rfl) (hdb : (x == ("__debug__" : Str)) = false := by decide)
    (he : starEach (e :: es) X.env = (false, eval e X.env) :: starEach es X.env := by rfl) (hpl : (backTo pos (starEach es X.env)).any (·.1) = false := by rfl) : QE cl K X (.Call (.Name x p2) (e :: es) [] pos) (tCall (toSp K cl vsp) [] E0 A) (wCallF vsp WA') := by
  obtain rfl := h.k
  obtain ⟨f, fd, ps, F1, hm, hk, hb⟩ := F.ex
  exact ⟨rfl, pe_call F1 hr hg hm hk hb .nil pass0 h.pe hdb he hpl, se_callF h.se⟩
end
end VH

set_option Elab.async false
set_option linter.all false
set_option maxRecDepth 100000
set_option maxHeartbeats 2000000
/-! The suite's rules without the exception's object; try without a suite's soundness; facts of classes. -/
namespace VH
open PySem PySem.Spec PyProof.Rows L2 L2H HotX VL
def toSpY (K : PySem.W.Frag) (cl : Str → Option Addr) (vsp : Addr → VSp) (a : Addr) (cls : Value) (dd : Option Addr) : Sp := fun vs H Q _ => ∃ (D : Addr) (us : List V) (ps : List PV) (R : PV → Prop), cls = .ref D ∧ vs = .ref a :: us ∧ ExcC K D ∧ (∀ d, dd = some d → ∃ fs, H d = some (.xd fs)) ∧ (∃ a o, H a = some o) ∧
  RepL K cl H us ps ∧ vsp D ps R ∧ ∀ b H', R (.bl b) → Same H H' → Q (.bl b) H'
theorem toX_of {K : PySem.W.Frag} {cl : Str → Option Addr} {vsp : Addr → VSp} {a : Addr} {cls : Value} {dd : Option Addr} {oe : Obj} {vs : List V} {H : Hp} {Q : VK} {E : XK} (z : L2N.Zn cls dd oe) (hf : ∃ vs, oe.data = .fields vs) (h : toSpY K cl vsp a cls dd vs H Q E) : toSpX K cl vsp (a, oe) vs H Q E := by
  obtain ⟨D, us, ps, R, rfl, rfl, c, hd, he, r, hv, k⟩ := h
  exact ⟨D, dd, us, ps, R, rfl, ⟨c, z.zc, hf⟩, hd, he, r, hv, k⟩
section
variable {X : Cx} {k : Nat} {f : Addr} {fd : FuncData} {ps : List Str} {sp : Sp} {x : Str} {q pos : Pos} {e : Expr} {es : List Expr} {t : TA} {p : Addr × Obj}
theorem pe_callP1 (len : ∀ vs H Q E, sp vs H Q E → vs.length = ps.length)
    (run : ∀ (A : Around) (outer : List Env) (s : Shared) (H : Hp) (args : Args) (us : List Value) (vs : List V) (Q : VK) (E : XK), RoomH k A → Hot1 A p → PinOk outer H s p → Env0 X.prog X.w X.K X.mg X.base A outer s H → BindsTo s fd args (ps.zip us) → Vals vs us → sp vs H Q E →
      codeAny (model X.prog X.w) A (.call (.ref f) args) (CR CX0 outer X.prog X.w H s Q E) s)
    (hr : RoomH k X.A) (hot : Hot1 X.A p) (hp : p ∈ X.pn) (hg : Gl X x) (hm : X.mg x = some (.ref f)) (hk : PySem.W.keepIn X.K (.ref f) = true) (hb : Binds X.K fd ps [])
    (ha : PA X (e :: es) t) (hdb : (x == ("__debug__" : Str)) = false := by decide) (he : starEach (e :: es) X.env = (false, eval e X.env) :: starEach es X.env := by rfl) (hpl : (backTo pos (starEach es X.env)).any (·.1) = false := by rfl) :
    PE X (.Call (.Name x q) (e :: es) [] pos) (tCall sp [] E0 t) := by
  refine ⟨fun pins s σ H Q I h => ?_⟩
  refine wpAny_Call_Name_kw (ld_glob I hg hm ?_ hdb)
  refine PySem.W.callWith_K (h₀ := X.base) I.ok.mod.kin hk (thn (ha.run pos pins s σ H _ I h) fun us s1 ⟨vs, H1, I1, r, w⟩ => ⟨I1.kIn, ?_⟩) he hpl
  have w : sp vs H1 Q E0 := by have z : sp (vs ++ []) H1 Q E0 := w; rw [List.append_nil] at z; exact z
  have hl : us.length = ps.length := by rw [← r.length]; exact len _ _ _ _ w
  have b := hb s1 us I1.kIn (by rw [List.append_nil]; exact hl)
  rw [List.append_nil] at b
  have P1 := I1.pin p (List.mem_append_left _ hp)
  have hpin : PinOk X.stack H1 s1 p := ⟨P1.1, P1.2.1, fun hm => (List.mem_cons.mp (I1.stkSub p.1 hm)).elim P1.2.2.1 P1.2.2.2.1, P1.2.2.2.2⟩
  refine wpAny_call (codeAny_mono (run X.A X.stack s1 H1 ⟨us, []⟩ us vs Q E0 hr hot hpin I1.env0 b r w) fun r s' hq => ?_)
  cases r with
  | error e => exact pass0 _ _ _ _ _ _ I1 hq
  | ok fl =>
    cases fl with
    | ret u => exact I1.after hq
    | next => exact hq.elim
    | brk => exact hq.elim
    | cont => exact hq.elim
end
section
variable {K : PySem.W.Frag} {cl : Str → Option Addr}
def wCallY (K : PySem.W.Frag) (a : Addr) (cls : Value) (dd : Option Addr) (vsp : Addr → VSp) (wa : WA) : WE := fun sl st R => wa sl st fun xs st1 => match xs with
  | x :: ys => match vals ys st1 with
    | some (ps, st2) => ∃ (D : Addr), x = .o (.ref a) ∧ cls = .ref D ∧ ExcC K D ∧ ((dd = none ∧ 0 < st2.length) ∨ ∃ (k : Nat) (B : Hp), st2[k]? = some (Cell.pin B) ∧ ∀ d, dd = some d → ∃ fs, B d = some (.xd fs)) ∧ vsp D ps fun q => R (.v q) st2
    | none => False
  | [] => False
theorem se_callY {a : Addr} {cls : Value} {dd : Option Addr} {vsp : Addr → VSp} {ta : TA} {wa : WA} (h : SA K cl ta wa) : SE K cl (tCall (toSpY K cl vsp a cls dd) [] E0 ta) (wCallY K a cls dd vsp wa) := by
  intro sl st R hw F G H σ al S Q q
  refine h sl st _ hw F G H σ al S _ fun vs xs st1 F1 G1 H1 h1 g1 S1 rs => ?_
  dsimp only at h1
  split at h1
  · rename_i x ys
    match vs, rs with
    | v :: us, rs =>
      split at h1
      · rename_i ps st2 e
        obtain ⟨D, rfl, rfl, C, hpin, hv⟩ := h1
        obtain rfl : v = .ref a := rs.1
        obtain ⟨F2, G2, S2, g2, l⟩ := vals_ok S1 rs.2 e
        have hpin' : (∀ d, dd = some d → ∃ fs, H1 d = some (.xd fs)) ∧ ∃ a o, H1 a = some o := by
          rcases hpin with ⟨rfl, h0⟩ | ⟨k, B, hk, hB⟩
          · have hal : 0 < al.length := by rw [S2.cnt]; exact h0
            obtain ⟨o, ho⟩ := S2.live 0 al[0] (by simp [hal])
            exact ⟨fun d z => (nomatch z), _, o, ho⟩
          · obtain ⟨sB, a, o, ha⟩ := S2.pinned hk
            refine ⟨fun d hd => ?_, a, o, ha⟩
            obtain ⟨fs, hfs⟩ := hB d hd
            exact ⟨fs, sB _ _ hfs⟩
        show toSpY K cl vsp a (.ref D) dd ((V.ref a :: us) ++ []) H1 Q E0
        rw [List.append_nil]
        refine ⟨D, us, ps, _, rfl, rfl, C, hpin'.1, hpin'.2, RepL.mono (S2.gf.trans S2.fh) _ _ l, hv, fun b H' r sH => ?_⟩
        obtain ⟨F3, S3, g3⟩ := S2.called sH (Same.refl _) ((S2.gf.trans S2.fh).trans sH) (fun _ _ z => .inl z)
        exact q (.bl b) (.v (.bl b)) st2 F3 G2 H' r ((g1.trans g2).trans g3) S3 (Rep.bl _)
      · exact h1.elim
  · exact h1.elim
def wXg (K : PySem.W.Frag) (cl : Str → Option Addr) (a : Addr) (cls : Value) (C : Addr) (d : Option Addr) (f : Str) (w : WE) : WE := fun sl st R => w sl st fun x st1 => x = .o (.ref a) ∧ cls = .ref C ∧ ∃ (dd : Addr) (fs : List (Str × V)) (v : V) (q : PV) (k : Nat) (B : Hp), d = some dd ∧ st1[k]? = some (Cell.pin B) ∧ B dd = some (.xd fs) ∧ fs.lookup f = some v ∧
  Rep K cl emp v q ∧ R (.v q) st1
theorem se_xg {a : Addr} {d : Option Addr} {C : Addr} {cls : Value} {f : Str} {te : TE} {w : WE} (h : SE K cl te w) : SE K cl (tXf a cls d C f te) (wXg K cl a cls C d f w) := by
  intro sl st R hw F G H σ al S Q q
  refine h sl st _ hw F G H σ al S _ fun v x st1 F1 G1 H1 h1 g1 S1 r1 => ?_
  obtain ⟨rfl, hc, dd, fs, u, p, k, B, hd, hk, hB, hl, hr, hR⟩ := h1
  obtain rfl : v = .ref a := r1
  exact ⟨rfl, hc, dd, fs, u, hd, (S1.pinned hk).1 _ _ hB, hl, q _ _ _ _ _ _ hR g1 S1 (Rep.mono (emp_same _) _ _ hr)⟩
end
section
variable {cl : Str → Option Addr} {K : PySem.W.Frag} {X : Cx} {pos p2 p3 : Pos} {e : Expr} {es : List Expr} {te : TE} {w : WE} {A : TA} {WA' : WA} {x y n : Str} {a C : Addr} {oe : Obj} {cls : Value} {d : Option Addr} {pn : List (Addr × Obj)}
theorem hotS (z : L2N.Zn cls d oe) (hf : ∃ vs, oe.data = .fields vs) : HotC (X.suite a ((a, oe) :: pn)) := ⟨(a, oe), hot_suite z hf, List.mem_cons_self ..⟩
theorem roomS {k : Nat} (hr : Room k X.A) : RoomH k (X.suite a pn).A := roomH_mark hr _
theorem q_callY {k : Nat} {vsp : Addr → VSp} (F : FnV X.prog X.w K X.mg X.base x k (toSpX K cl vsp)) (hr : RoomH k (X.suite a ((a, oe) :: pn)).A) (z : L2N.Zn cls d oe) (hf : ∃ vs, oe.data = .fields vs) (h : QA cl K (X.suite a ((a, oe) :: pn)) (e :: es) A WA') (hg : Gl X x := by rfl) (hdb : (x == ("__debug__" : Str)) = false := by decide)
    (he : starEach (e :: es) X.env = (false, eval e X.env) :: starEach es X.env := by rfl) (hpl : (backTo pos (starEach es X.env)).any (·.1) = false := by rfl) : QE cl K (X.suite a ((a, oe) :: pn)) (.Call (.Name x p2) (e :: es) [] pos) (tCall (toSpY K cl vsp a cls d) [] E0 A) (wCallY K a cls d vsp WA') := by
  obtain rfl : X.K = K := h.k
  obtain ⟨f, fd, ps, F1, hm, hk, hb⟩ := F.ex
  refine ⟨rfl, pe_callP1 (X := X.suite a ((a, oe) :: pn)) (sp := toSpY X.K cl vsp a cls d) (p := (a, oe)) (fun vs H Q E h => F1.len _ _ _ _ _ (toX_of z hf h)) (fun A outer s H args us vs Q E hr hot hpin e0 b r h => F1.run A outer s H args us vs Q E (a, oe) hr hot hpin e0 b r (toX_of z hf h)) hr (hot_suite z hf) (List.mem_cons_self ..) hg hm hk hb h.pe hdb he hpl, se_callY h.se⟩
theorem q_xg (T : XfC X.K C) (hno : PySem.W.findIn X.K (.ref C) n = some none) (hz : L2N.Zn cls d oe) (hf : ∃ vs, oe.data = .fields vs) (he : QE cl K (X.suite a ((a, oe) :: pn)) e te w) (hb : attributeBase e n X.env (eval e X.env) = eval e X.env := by rfl) :
    QE cl K (X.suite a ((a, oe) :: pn)) (.Attribute e n pos) (tXf a cls d C n te) (wXg K cl a cls C d n w) := by
  obtain rfl : X.K = K := he.k
  exact ⟨rfl, pe_xf T hno hz.zc hf he.pe hb, se_xg he.se⟩
end
/-- an exception that stands for the suite's soundness -/
def oeD (cls : Value) (d : Option Addr) : Obj := ⟨cls, d, .fields #[.none, .none, .none], #[]⟩
theorem oeD_zn (cls : Value) (d : Option Addr) : L2N.Zn cls d (oeD cls d) := ⟨rfl, rfl, fun vs e => by cases e; rfl⟩
theorem oeD_hf (cls : Value) (d : Option Addr) : ∃ vs, (oeD cls d).data = .fields vs := ⟨_, rfl⟩
section
variable {cl : Str → Option Addr} {K : PySem.W.Frag} {X : Cx} {x y n : Str} {c : Value} {i k : Nat} {suite : List Stmt} {b₀ : Stmt} {np p2 p3 pos pos' p5 : Pos} {C : Addr} {vsp : VSpE} {e : Expr} {es : List Expr} {A : TA} {WA' : WA} {ts : Addr → Value → Option Addr → TS} {ws : Addr → Value → Option Addr → WS}
theorem qs_tryF' (F : FnE X.prog X.w X.K X.mg X.base y k (toSpE K cl vsp)) (hr : Room k X.A) (hs : X.stack = X.env :: X.outer) (hf : X.env.frame = some X.env.locals) (hN : X.N.Nodup) (hc : Names X x c)
    (ha : ∀ (pn : List (Addr × Obj)) (xe : Value → Shared → Prop), QA cl K (X.tr pn xe) (e :: es) A WA')
    (hsu : ∀ (a : Addr) (oe : Obj) (cls : Value) (d : Option Addr) (pn : List (Addr × Obj)), L2N.Zn cls d oe → (∃ vs, oe.data = .fields vs) → QSs cl K (X.suite a ((a, oe) :: pn)) (b₀ :: suite) (ts a cls d) (ws a cls d))
    (hi : X.N[i]? = some n := by rfl) (hln : X.env.kindOf n = some .local := by rfl) (hg : Gl X y := by rfl) (hdb : (y == ("__debug__" : Str)) = false := by decide)
    (he : starEach (e :: es) X.env = (false, eval e X.env) :: starEach es X.env := by rfl) (hpl : (backTo p3 (starEach es X.env)).any (·.1) = false := by rfl) (hsw : swapsWith (.Call (.Name y p2) (e :: es) [] p3) none p5.line X.env = pure false := by rfl) (hk : X.K = K := by rfl) :
    QS cl K X (.Try [.Expr (.Call (.Name y p2) (e :: es) [] p3) p5] [.ExceptHandler (some (.Name x np)) (some n) (b₀ :: suite) pos'] [] [] pos) (tTryF K c i ts W0 (toSpE K cl vsp) A) (wTryF K cl c i ws vsp WA') :=
  qs_tryF F hr hs hf hN hc ha hsu (fun a cls d => (hsu a (oeD cls d) cls d [] (oeD_zn cls d) (oeD_hf cls d)).se) hi hln hg hdb he hpl hsw hk
theorem qs_tryMk' (F : MkE X.prog X.w X.K X.mg X.base y C k (toSpIE K cl C vsp)) (hr : Room (k + 1) X.A) (hs : X.stack = X.env :: X.outer) (hf : X.env.frame = some X.env.locals) (hN : X.N.Nodup) (hc : Names X x c)
    (ha : ∀ (pn : List (Addr × Obj)) (xe : Value → Shared → Prop), QA cl K (X.tr pn xe) (e :: es) A WA')
    (hsu : ∀ (a : Addr) (oe : Obj) (cls : Value) (d : Option Addr) (pn : List (Addr × Obj)), L2N.Zn cls d oe → (∃ vs, oe.data = .fields vs) → QSs cl K (X.suite a ((a, oe) :: pn)) (b₀ :: suite) (ts a cls d) (ws a cls d))
    (hi : X.N[i]? = some n := by rfl) (hln : X.env.kindOf n = some .local := by rfl) (hg : Gl X y := by rfl) (hdb : (y == ("__debug__" : Str)) = false := by decide)
    (he : starEach (e :: es) X.env = (false, eval e X.env) :: starEach es X.env := by rfl) (hpl : (backTo p3 (starEach es X.env)).any (·.1) = false := by rfl) (hsw : swapsWith (.Call (.Name y p2) (e :: es) [] p3) none p5.line X.env = pure false := by rfl) (hk : X.K = K := by rfl) :
    QS cl K X (.Try [.Expr (.Call (.Name y p2) (e :: es) [] p3) p5] [.ExceptHandler (some (.Name x np)) (some n) (b₀ :: suite) pos'] [] [] pos) (tTryMk K c i ts W0 C (toSpIE K cl C vsp) A) (wTryMk K cl c i ws vsp WA') :=
  qs_tryMk F hr hs hf hN hc ha hsu (fun a cls d => (hsu a (oeD cls d) cls d [] (oeD_zn cls d) (oeD_hf cls d)).se) hi hln hg hdb he hpl hsw hk
end
/-! ### facts of classes -/
theorem kitOne_of {K : PySem.W.Frag} {C D : Addr} {cd : ClassData} {b : Bool} (h1 : PySem.W.clsIn K C = some cd) (h2 : PySem.W.typeIn K (.ref C) = some (.type "type")) (h3 : PySem.W.subIn K (.ref D) (.ref C) = some b) (h4 : D = C → b = true) : PySem.W.kitOne K (.ref D) (.ref C) = some b := by
  unfold PySem.W.kitOne
  split
  · rename_i h
    have e : (Value.ref D) = .ref C := by simpa using h
    cases e
    rw [h4 rfl]
  · unfold PySem.W.kitCls
    dsimp only
    rw [h1, h2]
    simp [h3]
theorem kitOne_of2 {K : PySem.W.Frag} {C D : Addr} {cd : ClassData} {b b' : Bool} (e : b' = b) (h1 : PySem.W.clsIn K C = some cd) (h2 : PySem.W.typeIn K (.ref C) = some (.type "type")) (h3 : PySem.W.subIn K (.ref D) (.ref C) = some b) (h5 : PySem.W.subIn K (.ref D) (.ref D) = some true) : PySem.W.kitOne K (.ref D) (.ref C) = some b' := by
  subst e
  exact kitOne_of h1 h2 h3 fun e => by
    subst e
    rw [h3] at h5
    exact Option.some.inj h5
theorem kitT_of {K : PySem.W.Frag} {D : Addr} {T : String} {b : Bool} (h1 : PySem.W.kitMeta T = true) (h3 : PySem.W.subIn K (.ref D) (.type T) = some b) : PySem.W.kitOne K (.ref D) (.type T) = some b := by
  unfold PySem.W.kitOne
  rw [if_neg (by simp)]
  unfold PySem.W.kitCls
  dsimp only
  rw [if_pos h1, h3]
theorem exmOne_of {K : PySem.W.Frag} {C D : Addr} {cd : ClassData} {b : Bool} (h0 : PySem.W.subIn K (.ref C) (.type "BaseException") = some true) (h1 : PySem.W.clsIn K C = some cd) (h2 : PySem.W.typeIn K (.ref C) = some (.type "type")) (h3 : PySem.W.subIn K (.ref D) (.ref C) = some b) : PySem.W.exmOne K (.ref D) (.ref C) = some b := by
  unfold PySem.W.exmOne
  rw [h0, if_pos (by simp)]
  unfold PySem.W.kitCls
  dsimp only
  rw [h1, h2]
  simp [h3]
end VH

set_option Elab.async false
set_option linter.all false
set_option maxRecDepth 100000
set_option maxHeartbeats 2000000
/-! Texts; dicts whose keys are texts. -/
namespace VL
open PySem L2 PySem.Spec PyProof.Rows
section
variable {K : PySem.W.Frag} {cl : Str → Option Addr} {F G H F' G' H' : Hp} {σ : L2.St} {al al' : List Addr} {sl : Sl} {st st' : Sto}
/-! ### a text is walked -/
def sgs (z : Str) : List PV := z.cps.toList.map fun c => .str ⟨#[c]⟩
theorem sgs_len (z : Str) : (sgs z).length = z.cps.size := by simp [sgs]
theorem walkP_str {z : Str} {B : Hp} : WalkP K cl (Its z) (sgs z) B G := by
  refine ⟨fun i H hi s => ?_, fun H s => ?_, fun i H x H' hi s y => ?_⟩
  · rw [sgs_len] at hi; exact hi
  · rw [sgs_len]; exact Nat.le_refl _
  · obtain ⟨rfl, c, hc, rfl⟩ := y
    refine ⟨.str ⟨#[c]⟩, ?_, .inl ⟨rfl, .str _⟩⟩
    unfold sgs
    rw [List.getElem?_map, Array.getElem?_toList, hc]
    rfl
def wIS (w : WE) : WI := fun sl st R => w sl st fun x st1 => match x with
  | .v (.str z) => R (sgs z) st1
  | _ => False
theorem si_str {te : TE} {w : WE} (h : SE K cl te w) : SI K cl (iStr te) (wIS w) := by
  intro sl st R hw F G H σ al S Q q
  refine h sl st _ hw F G H σ al S _ fun v x st1 F1 G1 H1 h1 g1 S1 r1 => ?_
  dsimp only at h1
  split at h1
  · rename_i z
    cases r1
    exact ⟨z, rfl, q _ _ _ _ _ _ h1 g1 S1 walkP_str⟩
  · exact h1.elim
/-! ### one sign in a text -/
def rInSign : R2 := fun x y H Q => ∃ (c : Nat) (z : Str), x = .str ⟨#[c]⟩ ∧ y = .str z ∧ Q (.bl (decide (c ∈ z.cps.toList))) H
def rNotInSign : R2 := fun x y H Q => ∃ (c : Nat) (z : Str), x = .str ⟨#[c]⟩ ∧ y = .str z ∧ Q (.bl (!decide (c ∈ z.cps.toList))) H
theorem op_inSign {X : Cx} : OpR X (compareOp .In) rInSign := op_in_sign
theorem op_notInSign {X : Cx} : OpR X (compareOp .NotIn) rNotInSign := op_notIn_sign
def wInS (f : Bool → Bool) : W2 := fun x y st R => match x, y with
  | .v (.str s), .v (.str z) => ∃ c, s = ⟨#[c]⟩ ∧ R (.v (.bl (f (decide (c ∈ z.cps.toList))))) st
  | _, _ => False
theorem sr_inS : SR K cl rInSign (wInS id) := by
  intro x y sl st R hw F G H σ al S v u rv ru Q q
  unfold wInS at hw
  split at hw
  · rename_i s z
    obtain ⟨c, rfl, hw⟩ := hw
    cases rv
    cases ru
    exact ⟨c, z, rfl, rfl, q.at hw S (.bl _)⟩
  · exact hw.elim
theorem sr_notInS : SR K cl rNotInSign (wInS not) := by
  intro x y sl st R hw F G H σ al S v u rv ru Q q
  unfold wInS at hw
  split at hw
  · rename_i s z
    obtain ⟨c, rfl, hw⟩ := hw
    cases rv
    cases ru
    exact ⟨c, z, rfl, rfl, q.at hw S (.bl _)⟩
  · exact hw.elim
/-! ### slices of a text -/
def wSlS (wa : WE) (wl wh : WO) : WE := fun sl st R => wa sl st fun x st1 => wl sl st1 fun l st2 => wh sl st2 fun u st3 => match x with
  | .v (.str z) => z.length ≤ sizeLine ∧ R (.v (.str (cutS z l u))) st3
  | _ => False
theorem se_slS {te : TE} {tl th : TO} {w : WE} {wl wh : WO} (h : SE K cl te w) (hl : SO K cl tl wl) (hh : SO K cl th wh) : SE K cl (tSl rSlS te tl th) (wSlS w wl wh) := by
  intro sl st R hw F G H σ al S Q q
  refine h sl st _ hw F G H σ al S _ fun v x st1 F1 G1 H1 h1 g1 S1 r1 => ?_
  refine hl sl st1 _ h1 F1 G1 H1 σ al S1 _ fun l st2 F2 G2 H2 h2 g2 S2 => ?_
  refine hh sl st2 _ h2 F2 G2 H2 σ al S2 _ fun u st3 F3 G3 H3 h3 g3 S3 => ?_
  try dsimp only at h3
  split at h3
  · rename_i z
    cases r1
    exact ⟨z, rfl, h3.1, q _ _ _ _ _ _ h3.2 ((g1.trans g2).trans g3) S3 (.str _)⟩
  · exact h3.elim
/-! ### methods of a text, with one argument -/
def SM1 (K : PySem.W.Frag) (cl : Str → Option Addr) (r : V → List V → Hp → VK → Prop) (w : Str → W1) : Prop := ∀ z y sl st R, w z y st R → ∀ F G H σ al, SOk K cl F G H σ al sl st → ∀ u, RepW K cl al G u y → ∀ Q, QOk K cl F G σ al sl st R Q → r (.str z) [u] H Q
def wM1 (m : Str → W1) (wo wa : WE) : WE := fun sl st R => wo sl st fun x st1 => match x with
  | .v (.str z) => wa sl st1 fun y st2 => m z y st2 R
  | _ => False
theorem se_m1 {r : V → List V → Hp → VK → Prop} {m : Str → W1} {to te : TE} {wo we : WE} (hr : SM1 K cl r m) (ho : SE K cl to wo) (he : SE K cl te we) : SE K cl (tM1 r to te) (wM1 m wo we) := by
  intro sl st R hw F G H σ al S Q q
  refine ho sl st _ hw F G H σ al S _ fun v x st1 F1 G1 H1 h1 g1 S1 r1 => ?_
  dsimp only at h1
  split at h1
  · rename_i z
    cases r1
    refine ⟨⟨z, rfl⟩, ?_⟩
    refine he sl st1 _ h1 F1 G1 H1 σ al S1 _ fun u y st2 F2 G2 H2 h2 g2 S2 r2 => ?_
    exact hr z y sl st2 R h2 F2 G2 H2 σ al S2 u r2 Q (q.gr (g1.trans g2))
  · exact h1.elim
theorem RepL.strs : ∀ (ns : List Str), RepL K cl G (ns.map V.str) (ns.map PV.str)
  | [] => .nil
  | n :: ns => .cons (.str n) (RepL.strs ns)
def rSplit : V → List V → Hp → VK → Prop := fun x xs H Q => ∃ a b, x = .str a ∧ xs = [.str b] ∧ (b.length == 0) = false ∧ a.length + 2 ≤ sizeLine ∧ rNewStrs (Txt.split a b) H Q
def mSplit (z : Str) : W1 := fun y st R => match y with
  | .v (.str b) => ((b.length == 0) = false ∧ z.length + 2 ≤ sizeLine) ∧ R (.v (.lst ((Txt.split z b).map .str))) st
  | _ => False
theorem sm_split : SM1 K cl rSplit mSplit := by
  intro z y sl st R hw F G H σ al S u ru Q q
  unfold mSplit at hw
  split at hw
  · rename_i b
    cases ru
    exact ⟨z, b, rfl, rfl, hw.1.1, hw.1.2, fun p hp => q.newL S hp (RepL.strs _) hw.2⟩
  · exact hw.elim
def rJoin (K : PySem.W.Frag) : V → List V → Hp → VK → Prop := fun x xs H Q => ∃ a p, ∃ ys : List Str, x = .str a ∧ xs = [.ref p] ∧ (SqL K H p (ys.map V.str) ∨ SqT K H p (ys.map V.str)) ∧
    (ys.map (·.length)).sum + ys.length * a.length ≤ 16777216 ∧ Q (.str (Txt.join a ys)) H
def mJoin (z : Str) : W1 := fun y st R => ∃ ys : List Str, items y st = some (ys.map PV.str) ∧ (ys.map (·.length)).sum + ys.length * z.length ≤ 16777216 ∧ R (.v (.str (Txt.join z ys))) st
theorem sm_join : SM1 K cl (rJoin K) mJoin := by
  intro z y sl st R hw F G H σ al S u ru Q q
  obtain ⟨ys, e, hz, hw⟩ := hw
  obtain ⟨a, vs, rfl, h1, l⟩ := items_at S ru e
  cases l.strs_inv
  exact ⟨z, a, ys, rfl, rfl, .inl (SqL.of h1), hz, q.at hw S (.str _)⟩
/-! ### str(int), int(text) -/
def rStrI : List V → Hp → VK → Prop := fun xs H Q => ∃ i : Int, xs = [.int i] ∧ i.natAbs.log2 < 1920 ∧ Q (.str (toString i)) H
theorem call_strI {X : Cx} : CallR X (.type "str") rStrI := call_str_int
def wStrI : WL := fun xs st R => match xs with
  | [.v (.int i)] => i.natAbs.log2 < 1920 ∧ R (.v (.str (toString i))) st
  | _ => False
theorem sc_strI : SC K cl rStrI wStrI := by
  intro xs sl st R hw F G H σ al S vs rs Q q
  unfold wStrI at hw
  split at hw
  · rename_i i
    obtain ⟨v, rfl, r⟩ := rs.one
    cases r
    exact ⟨i, rfl, hw.1, q.at hw.2 S (.str _)⟩
  · exact hw.elim
def rIntS : List V → Hp → VK → Prop := fun xs H Q => ∃ a n, xs = [.str a] ∧ PySem.intText? a = some n ∧ a.length ≤ 640 ∧ Q (.int n) H
theorem call_intS {X : Cx} : CallR X (.type "int") rIntS := call_int_str
def wIntS : WL := fun xs st R => match xs with
  | [.v (.str a)] => ∃ n, PySem.intText? a = some n ∧ a.length ≤ 640 ∧ R (.v (.int n)) st
  | _ => False
theorem sc_intS : SC K cl rIntS wIntS := by
  intro xs sl st R hw F G H σ al S vs rs Q q
  unfold wIntS at hw
  split at hw
  · rename_i a
    obtain ⟨n, h1, h2, hw⟩ := hw
    obtain ⟨v, rfl, r⟩ := rs.one
    cases r
    exact ⟨a, n, rfl, h1, h2, q.at hw S (.int _)⟩
  · exact hw.elim
/-! ### where a text stands in a written tuple of texts -/
structure CnT (K : PySem.W.Frag) (mg : Str → Option Value) (x : Str) (ys : List Str) : Prop where
  ex : ∃ (a : Addr) (o : Obj), mg x = some (.ref a) ∧ K.lookup a = some o ∧ o.cls = .type "tuple" ∧ o.dict = none ∧ ∀ H, SqT K H a (ys.map V.str)
def rTIx (K : PySem.W.Frag) : V → List V → Hp → VK → Prop := fun x xs H Q => ∃ p, ∃ ys : List Str, ∃ z j, x = .ref p ∧ xs = [.str z] ∧ SqT K H p (ys.map V.str) ∧ ys[j]? = some z ∧ (∀ m, m < j → ys[m]? ≠ some z) ∧ Q (.int (j : Nat)) H
def wTIx (ys : List Str) (wa : WA) : WE := fun sl st R => wa sl st fun xs st1 => match xs with
  | [.v (.str z)] => ∃ j, ys[j]? = some z ∧ (∀ m, m < j → ys[m]? ≠ some z) ∧ R (.v (.int (j : Nat))) st1
  | _ => False
/-- a reading of the tuple's name -/
def tCT (K : PySem.W.Frag) (ys : List Str) : TE := fun _ H Q => ∀ (a : Addr) (o : Obj), K.lookup a = some o → o.cls = .type "tuple" → o.dict = none → (∀ H, SqT K H a (ys.map V.str)) → Q (.ref a) H
theorem se_tix {ys : List Str} {ta : TA} {wa : WA} (ha : SA K cl ta wa) : SE K cl (tBM K "tuple" (rTIx K) (tCT K ys) ta) (wTIx ys wa) := by
  intro sl st R hw F G H σ al S Q q a o ho hc hd hs
  refine ⟨.inr (.inl ⟨rfl, o, ho, hc, hd⟩), ?_⟩
  refine ha sl st _ hw F G H σ al S _ fun vs xs st1 F1 G1 H1 h1 g1 S1 rs => ?_
  dsimp only at h1
  split at h1
  · rename_i z
    obtain ⟨j, h2, h3, h4⟩ := h1
    obtain ⟨v, rfl, r⟩ := rs.one
    cases r
    exact ⟨a, ys, z, j, rfl, rfl, hs H1, h2, h3, q _ _ _ _ _ _ h4 g1 S1 (.int _)⟩
  · exact h1.elim
/-! ### dicts by texts -/
def kvS (ks : List Str) (vs : List V) : List (L2.Key × V) := (ks.map Sum.inr).zip vs
/-- what stands at a text -/
def getP (s : Str) : List Str → List PV → Option PV
  | k :: ks, p :: ps => if k = s then some p else getP s ks ps
  | _, _ => none
theorem val_getP {s : Str} : ∀ {ks : List Str} {vs : List V} {ps : List PV}, ks.length = vs.length → RepL K cl G vs ps →
    (∀ p, getP s ks ps = some p → ∃ v, valV (kvS ks vs) (Sum.inr s) = some v ∧ Rep K cl G v p) ∧ (getP s ks ps = none → valV (kvS ks vs) (Sum.inr s) = none)
  | [], [], _, _, h => by
    cases h
    exact ⟨fun _ z => (by cases z), fun _ => rfl⟩
  | [], _ :: _, _, e, _ => by simp at e
  | _ :: _, [], _, e, _ => by simp at e
  | k :: ks, v :: vs, _, e, h => by
    cases h with
    | @cons _ _ p ps h1 h2 =>
      obtain ⟨i1, i2⟩ := val_getP (s := s) (ks := ks) (by simpa using e) h2
      have ek : kvS (k :: ks) (v :: vs) = (Sum.inr k, v) :: kvS ks vs := rfl
      by_cases hk : k = s
      · subst hk
        refine ⟨fun q hq => ?_, fun hq => ?_⟩
        · have : p = q := by simpa [getP] using hq
          subst this
          exact ⟨v, by rw [ek, valV_pos rfl], h1⟩
        · simp [getP] at hq
      · have hn : ¬ ((Sum.inr k : L2.Key) = Sum.inr s) := fun z => hk (Sum.inr.inj z)
        refine ⟨fun q hq => ?_, fun hq => ?_⟩
        · obtain ⟨u, e1, e2⟩ := i1 q (by simpa [getP, hk] using hq)
          exact ⟨u, by rw [ek, valV_neg hn]; exact e1, e2⟩
        · rw [ek, valV_neg hn]
          exact i2 (by simpa [getP, hk] using hq)
theorem getP_none {s : Str} : ∀ {ks : List Str} {ps : List PV}, s ∉ ks → getP s ks ps = none
  | [], _, _ => rfl
  | k :: ks, [], _ => rfl
  | k :: ks, p :: ps, h => by
    have hk : k ≠ s := fun z => h (by simp [z])
    simp only [getP, if_neg hk]
    exact getP_none fun z => h (List.mem_cons_of_mem _ z)
theorem getP_some {s : Str} : ∀ {ks : List Str} {ps : List PV}, ks.length = ps.length → s ∈ ks → ∃ p, getP s ks ps = some p
  | [], _, _, h => by cases h
  | k :: ks, [], e, _ => by simp at e
  | k :: ks, p :: ps, e, h => by
    by_cases hk : k = s
    · exact ⟨p, by simp [getP, hk]⟩
    · obtain ⟨q, hq⟩ := getP_some (ks := ks) (ps := ps) (by simpa using e) (by
        rcases List.mem_cons.mp h with z | z
        · exact (hk z.symm).elim
        · exact z)
      exact ⟨q, by simp only [getP, if_neg hk]; exact hq⟩
theorem putK_S {s : Str} {ks : List Str} {vs : List V} (v : V) (e : ks.length = vs.length) (h : s ∉ ks) : putK (kvS ks vs) (Sum.inr s) v = kvS (ks ++ [s]) (vs ++ [v]) := by
  rw [putK_new]
  · unfold kvS
    rw [List.map_append, List.zip_append (by simpa using e)]
    rfl
  · have : ∀ (ks : List Str) (vs : List V), s ∉ ks → valV (kvS ks vs) (Sum.inr s) = none := by
      intro ks
      induction ks with
      | nil => intro vs _; rfl
      | cons k ks ih =>
        intro vs h
        cases vs with
        | nil => rfl
        | cons v vs =>
          have hk : ¬ ((Sum.inr k : L2.Key) = Sum.inr s) := fun z => h (by simp [Sum.inr.inj z])
          have ek : kvS (k :: ks) (v :: vs) = (Sum.inr k, v) :: kvS ks vs := rfl
          rw [ek, valV_neg hk]
          exact ih vs fun z => h (List.mem_cons_of_mem _ z)
    exact this ks vs h
/-- a dict by texts, one's own or a tree's -/
def dicOf (x : W) (st : Sto) : Option (List Str × List PV) := match x with
  | .v (.dic ks ps) => some (ks, ps)
  | .l k => match st[k]? with
    | some (.dK ks ps) => some (ks, ps)
    | _ => none
  | _ => none
theorem dicOf_at {x : W} {v : V} {ks : List Str} {ps : List PV} (S : SOk K cl F G H σ al sl st) (r : RepW K cl al G v x) (h : dicOf x st = some (ks, ps)) : ∃ a vs, v = .ref a ∧ H a = some (.dK (kvS ks vs)) ∧ ks.length = vs.length ∧ RepL K cl G vs ps := by
  cases x with
  | v p =>
    cases p with
    | dic qs =>
      cases h
      cases r with
      | dic e l z => exact ⟨_, _, rfl, S.fh _ _ (S.gf _ _ e), l, z⟩
    | _ => cases h
  | l k =>
    obtain ⟨a, h1, rfl⟩ := r
    obtain ⟨c, h2, h3⟩ := S.cell h1
    unfold dicOf at h
    simp only [h2] at h
    cases c with
    | dK qs us =>
      cases h
      obtain ⟨_, vs, e, l, z⟩ := h3
      exact ⟨a, vs, rfl, e, l, z⟩
    | _ => cases h
  | o u => cases h
  | ik c f k => cases h
  | im c fs => cases h
/-- s in d -/
def wDIn (f : Bool → Bool) (wk wd : WE) : WE := fun sl st R => wk sl st fun y st1 => wd sl st1 fun x st2 => match y with
  | .v (.str s) => ∃ ks ps, dicOf x st2 = some (ks, ps) ∧ (s ∈ ks → R (.v (.bl (f true))) st2) ∧ (s ∉ ks → R (.v (.bl (f false))) st2)
  | _ => False
theorem some_in {s : Str} {ks : List Str} {vs : List V} {ps : List PV} (e : ks.length = vs.length) (l : RepL K cl G vs ps) : (valV (kvS ks vs) (Sum.inr s)).isSome = true ∧ s ∈ ks ∨ (valV (kvS ks vs) (Sum.inr s)).isSome = false ∧ s ∉ ks := by
  obtain ⟨i1, i2⟩ := val_getP (s := s) e l
  by_cases h : s ∈ ks
  · obtain ⟨p, hp⟩ := getP_some (ps := ps) (by rw [e, l.len]) h
    obtain ⟨v, hv, _⟩ := i1 p hp
    exact .inl ⟨by rw [hv]; rfl, h⟩
  · exact .inr ⟨by rw [i2 (getP_none h)]; rfl, h⟩
theorem se_dIn {ty td : TE} {wk wd : WE} (hk : SE K cl ty wk) (hd : SE K cl td wd) : SE K cl (tDIn ty td) (wDIn id wk wd) := by
  intro sl st R hw F G H σ al S Q q
  refine hk sl st _ hw F G H σ al S _ fun v y st1 F1 G1 H1 h1 g1 S1 r1 => ?_
  refine hd sl st1 _ h1 F1 G1 H1 σ al S1 _ fun u x st2 F2 G2 H2 h2 g2 S2 r2 => ?_
  dsimp only at h2
  split at h2
  · rename_i s
    cases r1
    obtain ⟨ks, ps, e, t1, t2⟩ := h2
    obtain ⟨a, vs, rfl, e1, e2, l⟩ := dicOf_at S2 r2 e
    refine ⟨a, _, rfl, DGet.k (k := Sum.inr s) e1, ?_⟩
    rcases some_in (s := s) e2 l with ⟨z, m⟩ | ⟨z, m⟩
    · rw [z]; exact q _ _ _ _ _ _ (t1 m) (g1.trans g2) S2 (.bl _)
    · rw [z]; exact q _ _ _ _ _ _ (t2 m) (g1.trans g2) S2 (.bl _)
  · exact h2.elim
theorem se_dNotIn {ty td : TE} {wk wd : WE} (hk : SE K cl ty wk) (hd : SE K cl td wd) : SE K cl (tDNotIn ty td) (wDIn not wk wd) := by
  intro sl st R hw F G H σ al S Q q
  refine hk sl st _ hw F G H σ al S _ fun v y st1 F1 G1 H1 h1 g1 S1 r1 => ?_
  refine hd sl st1 _ h1 F1 G1 H1 σ al S1 _ fun u x st2 F2 G2 H2 h2 g2 S2 r2 => ?_
  dsimp only at h2
  split at h2
  · rename_i s
    cases r1
    obtain ⟨ks, ps, e, t1, t2⟩ := h2
    obtain ⟨a, vs, rfl, e1, e2, l⟩ := dicOf_at S2 r2 e
    refine ⟨a, _, rfl, DGet.k (k := Sum.inr s) e1, ?_⟩
    rcases some_in (s := s) e2 l with ⟨z, m⟩ | ⟨z, m⟩
    · rw [z]; exact q _ _ _ _ _ _ (t1 m) (g1.trans g2) S2 (.bl _)
    · rw [z]; exact q _ _ _ _ _ _ (t2 m) (g1.trans g2) S2 (.bl _)
  · exact h2.elim
/-- d[s] -/
def wDGet (wd wk : WE) : WE := fun sl st R => wd sl st fun x st1 => wk sl st1 fun y st2 => match y with
  | .v (.str s) => ∃ ks ps p, dicOf x st2 = some (ks, ps) ∧ getP s ks ps = some p ∧ R (.v p) st2
  | _ => False
theorem se_dGet {td ty : TE} {wd wk : WE} (hd : SE K cl td wd) (hk : SE K cl ty wk) : SE K cl (tDGet td ty) (wDGet wd wk) := by
  intro sl st R hw F G H σ al S Q q
  refine hd sl st _ hw F G H σ al S _ fun v x st1 F1 G1 H1 h1 g1 S1 r1 => ?_
  refine hk sl st1 _ h1 F1 G1 H1 σ al S1 _ fun u y st2 F2 G2 H2 h2 g2 S2 r2 => ?_
  dsimp only at h2
  split at h2
  · rename_i s
    cases r2
    obtain ⟨ks, ps, p, e, hp, hR⟩ := h2
    obtain ⟨a, vs, rfl, e1, e2, l⟩ := dicOf_at S2 (r1.mono g2.gg) e
    obtain ⟨v, hv, rv⟩ := (val_getP (s := s) e2 l).1 p hp
    exact ⟨a, v, rfl, by rw [← hv]; exact DGet.k (k := Sum.inr s) e1, q _ _ _ _ _ _ hR (g1.trans g2) S2 rv⟩
  · exact h2.elim
/-- d.get(s, x) -/
def wDGet2 (wd wk wx : WE) : WE := fun sl st R => wd sl st fun x st1 => ∃ ks ps, dicOf x st1 = some (ks, ps) ∧ wk sl st1 fun y st2 => wx sl st2 fun z st3 => match y, z with
  | .v (.str s), .v d => dicOf x st3 = some (ks, ps) ∧ R (.v ((getP s ks ps).getD d)) st3
  | _, _ => False
theorem se_dGet2 {td ty tx : TE} {wd wk wx : WE} (hd : SE K cl td wd) (hk : SE K cl ty wk) (hx : SE K cl tx wx) : SE K cl (tDGet2 td ty tx) (wDGet2 wd wk wx) := by
  intro sl st R hw F G H σ al S Q q
  refine hd sl st _ hw F G H σ al S _ fun v x st1 F1 G1 H1 h1 g1 S1 r1 => ?_
  obtain ⟨ks, ps, e, h1⟩ := h1
  obtain ⟨a, vs, rfl, e1, e2, l⟩ := dicOf_at S1 r1 e
  refine ⟨a, rfl, .inl ⟨_, .inl e1⟩, ?_⟩
  refine hk sl st1 _ h1 F1 G1 H1 σ al S1 _ fun u y st2 F2 G2 H2 h2 g2 S2 r2 => ?_
  refine hx sl st2 _ h2 F2 G2 H2 σ al S2 _ fun t z st3 F3 G3 H3 h3 g3 S3 r3 => ?_
  dsimp only at h3
  split at h3
  · rename_i s d
    cases r2
    obtain ⟨e', hR⟩ := h3
    obtain ⟨a', vs', ea, e1', e2', l'⟩ := dicOf_at S3 (r1.mono (g2.trans g3).gg) e'
    cases ea
    refine ⟨_, DGet.k (k := Sum.inr s) e1', ?_⟩
    obtain ⟨i1, i2⟩ := val_getP (s := s) e2' l'
    cases hg : getP s ks ps with
    | some p =>
      obtain ⟨v, hv, rv⟩ := i1 p hg
      rw [hv]
      rw [hg] at hR
      exact q _ _ _ _ _ _ hR ((g1.trans g2).trans g3) S3 rv
    | none =>
      rw [i2 hg]
      rw [hg] at hR
      exact q _ _ _ _ _ _ hR ((g1.trans g2).trans g3) S3 r3
  · exact h3.elim
/-- d[s] = v, s new -/
def wDPutS (wd wk wv : WE) : WS := fun D sl st => wv sl st fun z st1 => wd sl st1 fun x st2 => wk sl st2 fun y st3 => match x, y, z with
  | .l k, .v (.str s), .v p => ∃ ks ps, st3[k]? = some (.dK ks ps) ∧ s ∉ ks ∧ ks.length < 100000 ∧ D.nx sl (st3.set k (.dK (ks ++ [s]) (ps ++ [p])))
  | _, _, _ => False
theorem ss_dPutS {td ty tv : TE} {wd wk wv : WE} (hd : SE K cl td wd) (hk : SE K cl ty wk) (hv : SE K cl tv wv) : SS K cl (sDPut td ty tv) (wDPutS wd wk wv) := by
  intro D' sl st hw F G H σ al S D d
  refine hv sl st _ hw F G H σ al S _ fun v z st1 F1 G1 H1 h1 g1 S1 r1 => ?_
  refine hd sl st1 _ h1 F1 G1 H1 σ al S1 _ fun u x st2 F2 G2 H2 h2 g2 S2 r2 => ?_
  refine hk sl st2 _ h2 F2 G2 H2 σ al S2 _ fun t y st3 F3 G3 H3 h3 g3 S3 r3 => ?_
  dsimp only at h3
  split at h3
  · rename_i k s p
    cases r3
    obtain ⟨ks, ps, ek, hs, hl, hn⟩ := h3
    obtain ⟨a, ha, rfl⟩ := r2
    obtain ⟨a', ha', f, vs, e, le, l⟩ := S3.cells k _ ek
    rw [ha] at ha'
    cases ha'
    have lz : (kvS ks vs).length < sizeLine := by
      unfold kvS
      rw [List.length_zip, List.length_map, ← le, Nat.min_self]
      exact line_lt hl
    refine ⟨a, _, rfl, DPut.k (k := Sum.inr s) (v := v) e lz, ?_⟩
    have pk := putK_S v le hs
    unfold kvS at pk
    rw [pk]
    obtain ⟨S5, g5⟩ := S3.write (c' := .dK (ks ++ [s]) (ps ++ [p])) (o := .dK (kvS (ks ++ [s]) (vs ++ [v]))) ek ha f ⟨f, vs ++ [v], upd_same, by simp [le], l.snoc (r1.mono (g2.trans g3).gg)⟩ (by intro z; cases z)
    exact d.nx _ _ _ _ _ _ _ hn (((g1.trans g2).trans g3).trans g5) S5
  · exact h3.elim
end
section
variable {cl : Str → Option Addr} {K : PySem.W.Frag} {X : Cx} {pos p2 p3 apos : Pos} {a b c e o f i : Expr} {es : List Expr} {ta tb tc te to tf ti : TE} {wa wb wc w wo wf wi : WE} {A : TA} {WA' : WA} {x : Str}
theorem units1 {n : Nat} (h : n + 64 < cLine) : n + 1 < cLine := by omega
theorem qi_str {tg : Expr} (h : QE cl K X e te w) : QI cl K X tg e (iStr te) (wIS w) := by
  obtain rfl := h.k
  exact ⟨rfl, pi_str h.pe, si_str h.se⟩
theorem q_slS {lo hi : Option Expr} {tl th : TO} {wl wh : WO} (h : QE cl K X e te w) (hl : QO cl K X lo tl wl) (hh : QO cl K X hi th wh) : QE cl K X (.Subscript e (.Slice lo hi none p2) pos) (tSl rSlS te tl th) (wSlS w wl wh) := by
  obtain rfl := h.k
  exact ⟨rfl, pe_slice sl_str h.pe hl.pe hh.pe, se_slS h.se hl.se hh.se⟩
theorem q_split (ho : QE cl K X o to wo) (he : QE cl K X e te w) (hs : starEach [e] X.env = [(false, eval e X.env)] := by rfl) (hbase : attributeBase o "split" X.env (eval o X.env) = eval o X.env := by rfl) (hline : (apos.endLine == pos.line) = true := by rfl) :
    QE cl K X (.Call (.Attribute o "split" apos) [e] [] pos) (tM1 rSplit to te) (wM1 mSplit wo w) := by
  obtain rfl := ho.k
  exact ⟨rfl, pe_split ho.pe he.pe hs hbase hline, se_m1 sm_split ho.se he.se⟩
theorem q_join (ho : QE cl K X o to wo) (he : QE cl K X e te w) (hs : starEach [e] X.env = [(false, eval e X.env)] := by rfl) (hbase : attributeBase o "join" X.env (eval o X.env) = eval o X.env := by rfl) (hline : (apos.endLine == pos.line) = true := by rfl) :
    QE cl K X (.Call (.Attribute o "join" apos) [e] [] pos) (tM1 (rJoin K) to te) (wM1 mJoin wo w) := by
  obtain rfl := ho.k
  exact ⟨rfl, pe_join ho.pe he.pe hs hbase hline, se_m1 sm_join ho.se he.se⟩
theorem q_tix {ys : List Str} (h : CnT K X.mg x ys) (ha : QA cl K X (e :: es) A WA') (hg : Gl X x := by rfl) (hd : (x == ("__debug__" : Str)) = false := by decide)
    (hbase : attributeBase (.Name x p2) "index" X.env (eval (.Name x p2) X.env) = eval (.Name x p2) X.env := by rfl)
    (hfew : ((backTo pos (starEach (e :: es) X.env)).all (fun x => !x.1) && (backToKw pos (keywordEach [] X.env)).all (fun x => x.1.isSome)
      && decide ((e :: es).length + ([] : List Keyword).length + (if ([] : List Keyword).isEmpty then 0 else 1) < 30)) = true := by rfl)
    (hline : (apos.endLine == pos.line) = true := by rfl) (hst : starEach (e :: es) X.env = (false, eval e X.env) :: starEach es X.env := by rfl) (hplain : (backTo pos (starEach es X.env)).any (·.1) = false := by rfl) :
    QE cl K X (.Call (.Attribute (.Name x p2) "index" apos) (e :: es) [] pos) (tBM K "tuple" (rTIx K) (tCT K ys) A) (wTIx ys WA') := by
  obtain rfl := ha.k
  have ho : PE X (.Name x p2) (tCT X.K ys) := by
    refine ⟨fun pins s σ H Q I hw => ?_⟩
    obtain ⟨a, o, hm, h1, h2, h3, h4⟩ := h.ex
    exact (pe_glob (v := .ref a) hg hm rfl hd).run pins s σ H Q I (hw a o h1 h2 h3 h4)
  exact ⟨rfl, pe_bm PySem.F.plainAttrs_tuple PySem.F.slot_tuple_index PySem.F.type_tuple_index mt_tup_index ho ha.pe hbase hfew hline hst hplain, se_tix ha.se⟩
theorem q_dIn (hu : X.A.units + 64 < cLine) (hi : QE cl K X i ti wi) (ho : QE cl K X o to wo) (hm : behindInMarks .In o = false := by rfl) : QE cl K X (.Compare i [.In] [o] pos) (tDIn ti to) (wDIn id wi wo) := by
  obtain rfl := hi.k
  exact ⟨rfl, pe_cmp (pc_din (units1 hu) hi.pe ho.pe) hm, se_dIn hi.se ho.se⟩
theorem q_dNotIn (hu : X.A.units + 64 < cLine) (hi : QE cl K X i ti wi) (ho : QE cl K X o to wo) (hm : behindInMarks .NotIn o = false := by rfl) : QE cl K X (.Compare i [.NotIn] [o] pos) (tDNotIn ti to) (wDIn not wi wo) := by
  obtain rfl := hi.k
  exact ⟨rfl, pe_cmp (pc_dnotin (units1 hu) hi.pe ho.pe) hm, se_dNotIn hi.se ho.se⟩
theorem t_dIn (hu : X.A.units + 64 < cLine) (hi : QE cl K X i ti wi) (ho : QE cl K X o to wo) (hm : behindInMarks .In o = false := by rfl) : QT cl K X (.Compare i [.In] [o] pos) (tB (tDIn ti to)) (wTest (wDIn id wi wo)) := by
  obtain rfl := hi.k
  exact ⟨rfl, pt_cmp (pc_din (units1 hu) hi.pe ho.pe) hm, st_B (se_dIn hi.se ho.se)⟩
theorem t_dNotIn (hu : X.A.units + 64 < cLine) (hi : QE cl K X i ti wi) (ho : QE cl K X o to wo) (hm : behindInMarks .NotIn o = false := by rfl) : QT cl K X (.Compare i [.NotIn] [o] pos) (tB (tDNotIn ti to)) (wTest (wDIn not wi wo)) := by
  obtain rfl := hi.k
  exact ⟨rfl, pt_cmp (pc_dnotin (units1 hu) hi.pe ho.pe) hm, st_B (se_dNotIn hi.se ho.se)⟩
theorem q_dGet (hu : X.A.units + 64 < cLine) (ho : QE cl K X o to wo) (hi : QE cl K X i ti wi) (hs : NoSl i := by exact fun _ _ => rfl) : QE cl K X (.Subscript o i pos) (tDGet to ti) (wDGet wo wi) := by
  obtain rfl := hi.k
  exact ⟨rfl, pe_dget (units1 hu) ho.pe hi.pe hs, se_dGet ho.se hi.se⟩
theorem q_dGet2 (hu : X.A.units + 64 < cLine) (ho : QE cl K X o to wo) (he : QE cl K X e te w) (hf : QE cl K X f tf wf) (m : M2 X o "get" apos e f pos := by exact ⟨rfl, rfl, rfl, rfl⟩) :
    QE cl K X (.Call (.Attribute o "get" apos) [e, f] [] pos) (tDGet2 to te tf) (wDGet2 wo w wf) := by
  obtain rfl := ho.k
  exact ⟨rfl, pe_dget2 (units1 hu) ho.pe he.pe hf.pe m, se_dGet2 ho.se he.se hf.se⟩
theorem qs_dPutS (hu : X.A.units + 64 < cLine) (ho : QE cl K X o to wo) (hi : QE cl K X i ti wi) (hv : QE cl K X e te w) (hs : swapsWith e (some (.Subscript o i p2)) pos.line X.env = pure false := by rfl) :
    QS cl K X (.Assign [.Subscript o i p2] e pos) (sDPut to ti te) (wDPutS wo wi w) := by
  obtain rfl := ho.k
  exact ⟨rfl, ps_dput (units1 hu) ho.pe hi.pe hv.pe hs, ss_dPutS ho.se hi.se hv.se⟩
end
end VL

set_option Elab.async false
set_option linter.all false
set_option maxRecDepth 100000
set_option maxHeartbeats 2000000
/-! An __init__ of a list's copy and two dicts, which go on to be filled; the fields as one's own. -/
namespace VL
open PySem L2 PySem.Spec PyProof.Rows
section
variable {K : PySem.W.Frag} {cl : Str → Option Addr} {F G H F' G' H' : Hp} {σ : L2.St} {al al' : List Addr} {sl : Sl} {st st' : Sto}
theorem ImAt.lookup {f : Str} {k : Nat} : ∀ {fs : List (Str × Nat)} {vs : List (Str × V)}, ImAt al fs vs → fs.lookup f = some k → ∃ a, al[k]? = some a ∧ vs.lookup f = some (.ref a)
  | [], _, _, e => by cases e
  | (g, j) :: r, [], h, _ => h.elim
  | (g, j) :: r, (g', u) :: r', ⟨h1, ⟨a, h2, h3⟩, h4⟩, e => by
    subst h1
    rw [List.lookup_cons] at e ⊢
    split at e
    · cases e
      exact ⟨a, h2, by rw [h3]⟩
    · exact ImAt.lookup h4 e
def wFldM (c f : Str) (w : WE) : WE := fun sl st R => w sl st fun x st1 => match x with
  | .im c' fs => ∃ k, c' = c ∧ fs.lookup f = some k ∧ R (.l k) st1
  | _ => False
theorem se_fldM {te : TE} {w : WE} {c f : Str} (hc : ∀ C, cl c = some C → Cls K C ∧ NoAttr K C f) (h : SE K cl te w) : SE K cl (tFld K te f) (wFldM c f w) := by
  intro sl st R hw F G H σ al S Q q
  refine h sl st _ hw F G H σ al S _ fun v x st1 F1 G1 H1 h1 g1 S1 r1 => ?_
  dsimp only at h1
  split at h1
  · rename_i c' fs
    obtain ⟨k, rfl, hf, h1⟩ := h1
    obtain ⟨y, C, dx, vs, rfl, e2, e3, e4⟩ := r1
    obtain ⟨a, ha, hv⟩ := e4.lookup hf
    exact ⟨y, C, dx, vs, .ref a, rfl, S1.fh _ _ (S1.gf _ _ e3), (hc C e2).1, (hc C e2).2, hv, q _ _ _ _ _ _ h1 g1 S1 ⟨a, ha, rfl⟩⟩
  · exact h1.elim
theorem run_init3 {t : TS} {w : WS} {vsp : VSp} {C : Addr} {c : Str} {N : List Str} {vs : List V} {H0 : Hp} {Q : VK} {E : XK} (hs : SS K cl t w) (hC : cl c = some C)
    (h1 : Cls K C ∧ NoAttr K C "rows") (h2 : Cls K C ∧ NoAttr K C "marks") (h3 : Cls K C ∧ NoAttr K C "names") (hN : vs.length ≤ N.length)
    (h : toSpI K cl C vsp vs H0 Q E) (h1' : ∀ ps R, vsp ps R → ∃ rs, ps = [.lst rs])
    (hw : ∀ rs R, vsp [.lst rs] R → w { nx := fun sl st => ∃ ks1 ps1 ks2 ps2, st[1]? = some (.dK ks1 ps1) ∧ st[2]? = some (.dK ks2 ps2) ∧ R (.ins c ["rows", "marks", "names"] [.lst rs, .dic ks1 ps1, .dic ks2 ps2]), rt := fun _ _ => False }
      (some (.im c [("rows", 0), ("marks", 1), ("names", 2)]) :: startS (N.length - 1) [.lst rs]) [.frz rs, .dK [] [], .dK [] []]) :
    tSeq (sFld K (tVar 0) (tCB (rList K) (tCons (tVar 1) tNil)) "rows") (tSeq (sFld K (tVar 0) tDNewK "marks") (tSeq (sFld K (tVar 0) tDNewK "names") t)) { nx := fun _ H' => Q .non H', rt := Q } (L2.start N vs) H0 := by
  obtain ⟨x, dx, us, H, G, ps, R, rfl, hx, hdx, ne, rfl, gh, r, hv, k⟩ := h
  obtain ⟨rs, rfl⟩ := h1' ps R hv
  have hN' : us.length + 1 ≤ N.length := hN
  have lu : us.length = 1 := r.len
  match us, r with
  | [u], r =>
  cases r with
  | cons ru _ =>
  cases ru with
  | @lst ar ys _ er lr =>
  have hsx : (L2.start N [V.ref x, .ref ar])[0]? = some (some (.ref x)) := rfl
  have hsr : (L2.start N [V.ref x, .ref ar])[1]? = some (some (.ref ar)) := rfl
  have H0x : upd (upd H dx (.own x)) x (.ins C dx []) x = some (.ins C dx []) := upd_same
  have nax : ar ≠ x := fun e => by rw [e, gh.free hx] at er; cases er
  have nad : ar ≠ dx := fun e => by rw [e, gh.free hdx] at er; cases er
  refine ⟨.ref ar, hsr, ar, ys, rfl, .inl (SqL.of (by rw [upd_ne nax, upd_ne nad]; exact gh _ _ er)), fun l hl => ?_⟩
  have nlx : l ≠ x := fun e => by rw [e, H0x] at hl; cases hl
  have nld : l ≠ dx := fun e => by rw [e, upd_ne ne, upd_same] at hl; cases hl
  have hHl : H l = none := by rw [upd_ne nlx, upd_ne nld] at hl; exact hl
  refine ⟨.ref x, hsx, x, C, dx, [], rfl, by rw [upd_ne (Ne.symm nlx)]; exact H0x, h1.1, h1.2, by decide, ?_⟩
  intro p hp
  have npx : p ≠ x := fun e => by rw [e, upd_same] at hp; cases hp
  rw [upd_ne npx] at hp
  have npl : p ≠ l := fun e => by rw [e, upd_same] at hp; cases hp
  rw [upd_ne npl, upd_ne npx] at hp
  have npd : p ≠ dx := fun e => by rw [e, upd_same] at hp; cases hp
  rw [upd_ne npd] at hp
  refine ⟨.ref x, hsx, x, C, dx, [("rows", .ref l)], rfl, by rw [upd_ne (Ne.symm npx)]; exact upd_same, h2.1, h2.2, by show 1 < 1000; decide, ?_⟩
  intro q hq
  have nqx : q ≠ x := fun e => by rw [e, upd_same] at hq; cases hq
  rw [upd_ne nqx] at hq
  have nqp : q ≠ p := fun e => by rw [e, upd_same] at hq; cases hq
  rw [upd_ne nqp, upd_ne nqx] at hq
  have nql : q ≠ l := fun e => by rw [e, upd_same] at hq; cases hq
  rw [upd_ne nql, upd_ne nqx] at hq
  have nqd : q ≠ dx := fun e => by rw [e, upd_same] at hq; cases hq
  rw [upd_ne nqd] at hq
  refine ⟨.ref x, hsx, x, C, dx, [("rows", .ref l), ("marks", .ref p)], rfl, by rw [upd_ne (Ne.symm nqx)]; exact upd_same, h3.1, h3.2, by show 2 < 1000; decide, ?_⟩
  -- the heap now
  have gx : G x = none := gh.free hx
  have gl : G l = none := gh.free hHl
  have gp : G p = none := gh.free hp
  have gq : G q = none := gh.free hq
  let I : HO := .ins C dx [("rows", .ref l), ("marks", .ref p), ("names", .ref q)]
  let H3 : Hp := upd (upd (upd (upd (upd (upd (upd (upd H dx (.own x)) x (.ins C dx [])) l (.lst ys)) x (.ins C dx [("rows", .ref l)])) p (.dK [])) x (.ins C dx [("rows", .ref l), ("marks", .ref p)])) q (.dK [])) x I
  show t _ _ H3
  let F1 : Hp := upd (upd (upd H dx (.own x)) l (.lst ys)) x I
  let G1 : Hp := upd (upd G l (.lst ys)) x I
  have H3x : H3 x = some I := upd_same
  have H3q : H3 q = some (.dK []) := by show upd _ x I q = _; rw [upd_ne nqx, upd_same]
  have H3p : H3 p = some (.dK []) := by show upd _ x I p = _; rw [upd_ne npx, upd_ne (Ne.symm nqp), upd_ne npx, upd_same]
  have H3o : ∀ b, b ≠ x → b ≠ q → b ≠ p → H3 b = upd (upd H dx (.own x)) l (.lst ys) b := fun b n1 n2 n3 => by
    show upd _ x I b = _
    rw [upd_ne n1, upd_ne n2, upd_ne n1, upd_ne n3, upd_ne n1]
    by_cases hb : b = l
    · subst hb; rw [upd_same, upd_same]
    · rw [upd_ne hb, upd_ne n1, upd_ne hb]
  have F1p : F1 p = none := by show upd _ x I p = _; rw [upd_ne npx, upd_ne npl, upd_ne npd]; exact hp
  have F1q : F1 q = none := by show upd _ x I q = _; rw [upd_ne nqx, upd_ne nql, upd_ne nqd]; exact hq
  have FH : Same F1 H3 := fun b o e => by
    by_cases hb : b = x
    · subst hb; rw [H3x]; have : F1 b = some I := upd_same; rw [← this]; exact e
    · have n2 : b ≠ q := ne_of_none e F1q
      have n3 : b ≠ p := ne_of_none e F1p
      rw [H3o b hb n2 n3]
      have e' : upd (upd (upd H dx (.own x)) l (.lst ys)) x I b = some o := e
      rw [upd_ne hb] at e'
      exact e'
  have HF : Same H F1 := fun b o e => by
    show upd _ x I b = _
    rw [upd_ne (ne_of_none e hx), upd_ne (ne_of_none e hHl), upd_ne (ne_of_none e hdx)]
    exact e
  have GF : Same G1 F1 := same_upd (same_upd (gh.trans (same_new hdx)))
  have GG : Same G G1 := fun b o e => by
    show upd _ x I b = _
    rw [upd_ne (ne_of_none e gx), upd_ne (ne_of_none e gl)]
    exact e
  have G1x : G1 x = some I := upd_same
  have G1l : G1 l = some (.lst ys) := by show upd _ x I l = _; rw [upd_ne nlx, upd_same]
  have lr1 : RepL K cl G1 ys rs := RepL.mono GG _ _ lr
  refine hs _ _ _ (hw rs R hv) F1 G1 H3 (L2.start N [V.ref x, .ref ar]) [l, p, q] ⟨GF, FH, fun i y e => ?_, ?_, fun j cc h => ?_, fun j i a e1 e2 => ?_, fun j a e => ?_, rfl⟩ _ ⟨?_, ?_, ?_, ?_⟩
  · cases i with
    | zero =>
      have h' : some (some (W.im c [("rows", 0), ("marks", 1), ("names", 2)])) = some (some y) := e
      cases h'
      exact ⟨.ref x, rfl, x, C, dx, _, rfl, hC, G1x, rfl, ⟨l, rfl, rfl⟩, rfl, ⟨p, rfl, rfl⟩, rfl, ⟨q, rfl, rfl⟩, trivial⟩
    | succ i =>
      obtain ⟨v, hv, rv⟩ := slots_start (al := [l, p, q]) (G := G1) (vs := [.ref ar]) (i := i) (.cons (.lst (GG _ _ er) lr1) .nil) e
      refine ⟨v, ?_, rv⟩
      have e : N.length - 2 = N.length - 1 - 1 := by omega
      show ([V.ref ar].map some ++ List.replicate (N.length - 2) none)[i]? = _
      rw [e]
      exact hv
  · unfold L2.start startS
    simp only [List.length_append, List.length_map, List.length_cons, List.length_replicate, List.length_nil] at hN' ⊢
    omega
  · match j, h with
    | 0, h =>
      have h' : some (Cell.frz rs) = some cc := h
      cases h'
      exact ⟨l, rfl, ys, G1l, lr1⟩
    | 1, h =>
      have h' : some (Cell.dK [] []) = some cc := h
      cases h'
      exact ⟨p, rfl, F1p, [], H3p, rfl, .nil⟩
    | 2, h =>
      have h' : some (Cell.dK [] []) = some cc := h
      cases h'
      exact ⟨q, rfl, F1q, [], H3q, rfl, .nil⟩
    | j + 3, h => simp at h
  · have key : ∀ (j : Nat) (a : Addr), [l, p, q][j]? = some a → (j = 0 ∧ a = l) ∨ (j = 1 ∧ a = p) ∨ (j = 2 ∧ a = q) := fun j a h => by
      match j, h with
      | 0, h => exact .inl ⟨rfl, by simpa using h.symm⟩
      | 1, h => exact .inr (.inl ⟨rfl, by simpa using h.symm⟩)
      | 2, h => exact .inr (.inr ⟨rfl, by simpa using h.symm⟩)
      | j + 3, h => simp at h
    rcases key j a e1 with ⟨rfl, m1⟩ | ⟨rfl, m1⟩ | ⟨rfl, m1⟩ <;> rcases key i a e2 with ⟨rfl, m2⟩ | ⟨rfl, m2⟩ | ⟨rfl, m2⟩ <;> first
      | rfl
      | exact (npl (m1.symm.trans m2)).elim
      | exact (npl (m2.symm.trans m1)).elim
      | exact (nql (m1.symm.trans m2)).elim
      | exact (nql (m2.symm.trans m1)).elim
      | exact (nqp (m1.symm.trans m2)).elim
      | exact (nqp (m2.symm.trans m1)).elim
  · match j, e with
    | 0, e =>
      have e' : some l = some a := e
      cases e'
      exact ⟨_, FH _ _ (GF _ _ G1l)⟩
    | 1, e =>
      have e' : some p = some a := e
      cases e'
      exact ⟨_, H3p⟩
    | 2, e =>
      have e' : some q = some a := e
      cases e'
      exact ⟨_, H3q⟩
    | j + 3, e => simp at e
  · rintro σ' sl' st' F' G' H' al' ⟨ks1, ps1, ks2, ps2, e1, e2, hR⟩ g S
    obtain ⟨p', hp', fp, vs1, hd1, ln1, l1⟩ := S.cells 1 _ e1
    obtain ⟨q', hq', fq, vs2, hd2, ln2, l2⟩ := S.cells 2 _ e2
    have := g.pre 1 p rfl
    rw [hp'] at this
    cases this
    have := g.pre 2 q rfl
    rw [hq'] at this
    cases this
    have gp' : G' p = none := S.gf.free fp
    have gq' : G' q = none := S.gf.free fq
    let G2 : Hp := upd (upd G' p (.dK (kvS ks1 vs1))) q (.dK (kvS ks2 vs2))
    have GG2 : Same G' G2 := fun b o e => by
      show upd _ q _ b = _
      rw [upd_ne (ne_of_none e gq'), upd_ne (ne_of_none e gp')]
      exact e
    have G2H : Same G2 H' := fun b o e => by
      have e' : upd (upd G' p (.dK (kvS ks1 vs1))) q (.dK (kvS ks2 vs2)) b = some o := e
      by_cases hb : b = q
      · subst hb
        rw [upd_same] at e'
        cases e'
        exact hd2
      · rw [upd_ne hb] at e'
        by_cases hb2 : b = p
        · subst hb2
          rw [upd_same] at e'
          cases e'
          exact hd1
        · rw [upd_ne hb2] at e'
          exact S.fh _ _ (S.gf _ _ e')
    refine k _ G2 H' hR ((HF.trans g.ff).trans S.fh) ((GG.trans g.gg).trans GG2) G2H (fun b o e => ?_) ?_
    · have e' : upd (upd G' p (.dK (kvS ks1 vs1))) q (.dK (kvS ks2 vs2)) b = some o := e
      by_cases hb : b = q
      · subst hb; exact .inr (.inl hq)
      · rw [upd_ne hb] at e'
        by_cases hb2 : b = p
        · subst hb2; exact .inr (.inl hp)
        · rw [upd_ne hb2] at e'
          rcases g.new b o e' with z | z | z
          · by_cases hb3 : b = x
            · subst hb3; exact .inr (.inl hx)
            · by_cases hb4 : b = l
              · subst hb4; exact .inr (.inl hHl)
              · have z' : upd (upd G l (.lst ys)) x I b = some o := z
                rw [upd_ne hb3, upd_ne hb4] at z'
                exact .inl z'
          · exact .inr (.inl (HF.free z))
          · exact .inr (.inr z)
    · refine .ins (vs := [.ref l, .ref p, .ref q]) hC (GG2 _ _ (g.gg _ _ G1x)) rfl (.cons (.lst (GG2 _ _ (g.gg _ _ G1l)) (RepL.mono (g.gg.trans GG2) _ _ lr1)) (.cons (.dic ?_ ln1 (RepL.mono GG2 _ _ l1)) (.cons (.dic ?_ ln2 (RepL.mono GG2 _ _ l2)) .nil)))
      · show upd _ q _ p = _
        rw [upd_ne (Ne.symm nqp), upd_same]
        rfl
      · show upd _ q _ q = _
        rw [upd_same]
        rfl
  · intro _ _ _ _ _ _ _ h; exact h.elim
  · intro _ _ _ _ _ _ _ h; exact h.elim
  · intro _ _ _ _ _ _ _ _ _ h; exact h.elim
end
section
variable {cl : Str → Option Addr} {K : PySem.W.Frag} {X : Cx} {pos : PySem.Pos} {o : Expr} {to : TE} {wo : WE}
theorem q_fldM {c f : Str} (hc : ∀ C, cl c = some C → Cls K C ∧ NoAttr K C f) (h : QE cl K X o to wo) (hb : attributeBase o f X.env (eval o X.env) = eval o X.env := by rfl) : QE cl K X (.Attribute o f pos) (tFld K to f) (wFldM c f wo) := by
  obtain rfl := h.k
  exact ⟨rfl, pe_fld h.pe hb, se_fldM hc h.se⟩
theorem run_init3' {s1 s2 s3 : Stmt} {rest : List Stmt} {t : TS} {w : WS} {vsp : VSp} {C : Addr} {c : Str} {N : List Str} {vs : List V} {H0 : Hp} {Q : VK} {E : XK} (q : QSs cl K X rest t w)
    (p1 : PS X s1 (sFld X.K (tVar 0) (tCB (rList X.K) (tCons (tVar 1) tNil)) "rows")) (p2 : PS X s2 (sFld X.K (tVar 0) tDNewK "marks")) (p3 : PS X s3 (sFld X.K (tVar 0) tDNewK "names")) (hC : cl c = some C)
    (h1 : Cls K C ∧ NoAttr K C "rows") (h2 : Cls K C ∧ NoAttr K C "marks") (h3 : Cls K C ∧ NoAttr K C "names") (hN : vs.length ≤ N.length)
    (h : toSpI K cl C vsp vs H0 Q E) (h1' : ∀ ps R, vsp ps R → ∃ rs, ps = [.lst rs])
    (hw : ∀ rs R, vsp [.lst rs] R → w { nx := fun sl st => ∃ ks1 ps1 ks2 ps2, st[1]? = some (.dK ks1 ps1) ∧ st[2]? = some (.dK ks2 ps2) ∧ R (.ins c ["rows", "marks", "names"] [.lst rs, .dic ks1 ps1, .dic ks2 ps2]), rt := fun _ _ => False }
      (some (.im c [("rows", 0), ("marks", 1), ("names", 2)]) :: startS (N.length - 1) [.lst rs]) [.frz rs, .dK [] [], .dK [] []]) :
    ∃ t, PSs X (s1 :: s2 :: s3 :: rest) t ∧ t { nx := fun _ H' => Q .non H', rt := Q } (L2.start N vs) H0 := by
  obtain rfl := q.k
  exact ⟨_, pss_cons p1 (pss_cons p2 (pss_cons p3 q.pe)), run_init3 q.se hC h1 h2 h3 hN h h1' hw⟩
end
end VL

set_option Elab.async false
set_option linter.all false
set_option maxRecDepth 100000
set_option maxHeartbeats 2000000
/-! Texts by their signs; tables of letters, books. -/
namespace VL
open PySem L2 PySem.Spec PyProof.Rows
/-- a text by its signs -/
def tx (l : List Nat) : Str := ⟨l.toArray⟩
theorem cps_tx (l : List Nat) : (tx l).cps.toList = l := by simp [tx]
theorem tl_tx (l : List Nat) : TL.tl (tx l) = l := by simp [tx, TL.tl]
theorem tx_tl (x : Str) : tx (TL.tl x) = x := TL.mk_tl x
theorem tx_inj {a b : List Nat} (h : tx a = tx b) : a = b := by rw [← tl_tx a, h, tl_tx]
theorem len_tx (l : List Nat) : (tx l).length = l.length := by rw [TL.len_tl, tl_tx]
theorem tx_app (a b : List Nat) : tx a ++ tx b = tx (a ++ b) := TL.ext_tl (by rw [TL.tl_append, tl_tx, tl_tx, tl_tx])
theorem tx_of (s : String) : Str.ofString s = tx (s.toList.map Char.toNat) := TL.ext_tl (by rw [TL.tl_ofString, tl_tx])
theorem cutS_tx (l : List Nat) (lo hi : Option Int) : cutS (tx l) lo hi = tx ((l.drop (HT.sIx l.length 0 lo)).take (HT.sIx l.length l.length hi - HT.sIx l.length 0 lo)) := by
  unfold cutS
  rw [cps_tx, len_tx]
  rfl
theorem letters_of : Str.ofString "abcdefghijklmnopqrstuvwxyz" = tx (List.range' 97 26) := by decide +kernel
theorem letters25_of : Str.ofString "abcdefghijklmnopqrstuvwxy" = tx (List.range' 97 25) := by decide +kernel
theorem figures_of : Str.ofString "0123456789" = tx (List.range' 48 10) := by decide +kernel
theorem mem_letters {c : Nat} : c ∈ (tx (List.range' 97 26)).cps.toList ↔ 97 ≤ c ∧ c < 123 := by
  rw [cps_tx, List.mem_range'_1]
theorem mem_figures {c : Nat} : c ∈ (tx (List.range' 48 10)).cps.toList ↔ 48 ≤ c ∧ c < 58 := by
  rw [cps_tx, List.mem_range'_1]
theorem dash_of : Str.ofString ".-" = tx [46, 45] := by decide +kernel
theorem sgs_at {l : List Nat} {i : Nat} {p : PV} (h : (sgs (tx l))[i]? = some p) : ∃ c ∈ l, p = .str ⟨#[c]⟩ := by
  unfold sgs at h
  rw [cps_tx, List.getElem?_map] at h
  cases e : l[i]? with
  | none => rw [e] at h; cases h
  | some c =>
    rw [e] at h
    exact ⟨c, List.mem_of_getElem? e, (Option.some.inj h).symm⟩
theorem sgs_lenx (l : List Nat) : (sgs (tx l)).length = l.length := by
  unfold sgs
  rw [cps_tx, List.length_map]
/-! tables -/
abbrev Rw := Nat × List Nat
def rowV (r : Rw) : PV := .tup [.str (tx [r.1]), .str (tx r.2)]
def MkOk (m : List Nat) : Prop := 1 ≤ m.length ∧ m.length ≤ 6 ∧ ∀ x ∈ m, x = 46 ∨ x = 45
def LtOk (c : Nat) : Prop := 97 ≤ c ∧ c < 123
structure TabOk (rs : List Rw) : Prop where
  lt : ∀ r ∈ rs, LtOk r.1
  mrk : ∀ r ∈ rs, MkOk r.2
  n1 : (rs.map (·.1)).Nodup
  n2 : (rs.map (·.2)).Nodup
  len : rs.length ≤ 26
def ltsOf (rs : List Rw) : List Str := rs.map fun r => tx [r.1]
def mksOf (rs : List Rw) : List Str := rs.map fun r => tx r.2
def tabV (rs : List Rw) : PV := .ins "Table" ["rows", "marks", "names"] [.lst (rs.map rowV), .dic (ltsOf rs) ((mksOf rs).map .str), .dic (mksOf rs) ((ltsOf rs).map .str)]
def sp_Table : VSp := fun ps R => ∃ rs : List Rw, ps = [.lst (rs.map rowV)] ∧ TabOk rs ∧ R (tabV rs)
theorem nodup_at {α : Type} [DecidableEq α] {xs : List α} (h : xs.Nodup) {i : Nat} {x : α} (hi : xs[i]? = some x) : x ∉ xs.take i := fun hm => by
  obtain ⟨j, hj⟩ := List.mem_iff_getElem?.mp hm
  rw [List.getElem?_take] at hj
  split at hj
  · rename_i hlt
    have e1 := (List.getElem?_eq_some_iff.mp hi)
    have e2 := (List.getElem?_eq_some_iff.mp hj)
    obtain ⟨h1, e1⟩ := e1
    obtain ⟨h2, e2⟩ := e2
    have := (List.getElem_inj h).mp (e1.trans e2.symm)
    omega
  · cases hj
theorem TabOk.l1 {rs : List Rw} (t : TabOk rs) {i : Nat} {r : Rw} (hi : rs[i]? = some r) : tx [r.1] ∉ ltsOf (rs.take i) := fun hm => by
  obtain ⟨q, hq, e⟩ := List.mem_map.mp hm
  have e' : q.1 = r.1 := by simpa using tx_inj e
  refine nodup_at t.n1 (i := i) (x := r.1) (by rw [List.getElem?_map, hi]; rfl) ?_
  rw [← e', ← List.map_take]
  exact List.mem_map.mpr ⟨q, hq, rfl⟩
theorem TabOk.l2 {rs : List Rw} (t : TabOk rs) {i : Nat} {r : Rw} (hi : rs[i]? = some r) : tx r.2 ∉ mksOf (rs.take i) := fun hm => by
  obtain ⟨q, hq, e⟩ := List.mem_map.mp hm
  have e' : q.2 = r.2 := tx_inj e
  refine nodup_at t.n2 (i := i) (x := r.2) (by rw [List.getElem?_map, hi]; rfl) ?_
  rw [← e', ← List.map_take]
  exact List.mem_map.mpr ⟨q, hq, rfl⟩
theorem take_snocM {α β : Type} {f : α → β} {xs : List α} {i : Nat} {x : α} (hi : xs[i]? = some x) : (xs.take (i + 1)).map f = (xs.take i).map f ++ [f x] := by
  rw [List.take_add_one, hi]
  simp
/-! books -/
def WdOk (w : List Nat) : Prop := w ≠ [] ∧ w.length ≤ 400 ∧ ∀ c ∈ w, LtOk c
structure BkOk (ws : List (List Nat)) : Prop where
  wd : ∀ w ∈ ws, WdOk w
  nd : ws.Nodup
  len : ws.length ≤ 10000
def wdsV (ws : List (List Nat)) : List PV := ws.map fun w => .str (tx w)
def sp_book : VSp := fun ps R => ∃ ws, ps = [.lst (wdsV ws)] ∧ BkOk ws ∧ R .non
end VL

set_option Elab.async false
set_option linter.all false
set_option maxRecDepth 100000
set_option maxHeartbeats 2000000
/-! Sheets as texts. -/
namespace VL
open PySem L2 PySem.Spec PyProof.Rows TL
def numT (t : Int) : List Nat := numL t.toNat
theorem str_int {t : Int} (h : 0 ≤ t) : ((toString t : String) : Str) = tx (numT t) := by
  obtain ⟨n, rfl⟩ := Int.eq_ofNat_of_zero_le h
  refine ext_tl ?_
  rw [tl_tx]
  exact tl_num n
theorem log_small {t : Int} (h0 : 0 ≤ t) (h : t ≤ 1000000) : t.natAbs.log2 < 1920 := by
  have : t.natAbs < 2 ^ 1920 := by
    have : t.natAbs ≤ 1000000 := by omega
    exact Nat.lt_of_le_of_lt this (by decide)
  by_cases hz : t.natAbs = 0
  · rw [hz]; decide
  · exact (Nat.log2_lt hz).mpr this
theorem numT_len {t : Int} (h0 : 0 ≤ t) (h : t ≤ 9999) : (numT t).length ≤ 4 := numL_len (by decide) (by omega)
theorem numT_pos (t : Int) : 1 ≤ (numT t).length := by
  have := numL_ne t.toNat
  exact List.length_pos_iff.mpr this
theorem numL_head : ∀ (n : Nat), 0 < n → ∃ c r, numL n = c :: r ∧ 49 ≤ c := by
  intro n
  induction n using Nat.strongRecOn with
  | _ n ih =>
    intro h
    by_cases h10 : n < 10
    · exact ⟨48 + n, [], numL_lt h10, by omega⟩
    · obtain ⟨c, r, e, hc⟩ := ih (n / 10) (by omega) (by omega)
      exact ⟨c, r ++ [48 + n % 10], by rw [numL_step (by omega), e]; rfl, hc⟩
theorem numT_dig (t : Int) : ∀ c ∈ numT t, 48 ≤ c ∧ c < 58 := fun c hc => by
  have h : ¬ (c < 48 ∨ 57 < c) := fun h => numL_free h hc
  omega
theorem numT_int {t : Int} (h0 : 0 ≤ t) (h : t ≤ 9999) : intText? (tx (numT t)) = some t := by
  have e := int_num (n := t.toNat) (by have := numT_len h0 h; unfold numT at this; omega)
  have e2 : Str.ofString (toString ((t.toNat : Nat) : Int)) = tx (numT t) := by
    refine ext_tl ?_
    rw [tl_tx]
    exact tl_num _
  rw [e2] at e
  rw [e]
  congr 1
  omega
/-! words and lines -/
def tapsW : List Nat := [116, 97, 112, 115]
def lettW : List Nat := [108, 101, 116, 116, 101, 114]
def wordW : List Nat := [119, 111, 114, 100]
theorem tapsW_of : Str.ofString "taps" = tx tapsW := by decide +kernel
theorem lettW_of : Str.ofString "letter" = tx lettW := by decide +kernel
theorem wordW_of : Str.ofString "word" = tx wordW := by decide +kernel
theorem taps_of : Str.ofString "taps " = tx (tapsW ++ [32]) := by decide +kernel
theorem lett_of : Str.ofString "letter " = tx (lettW ++ [32]) := by decide +kernel
theorem word_of : Str.ofString "word " = tx (wordW ++ [32]) := by decide +kernel
theorem sp_of : Str.ofString " " = tx [32] := by decide +kernel
theorem nl_of : Str.ofString "\n" = tx [10] := by decide +kernel
def rowsW (ts : List Int) (rs : List Rw) (ws : List (List Nat)) : List (List (List Nat)) :=
  (tapsW :: ts.map numT) :: (rs.map fun r => [lettW, [r.1], r.2]) ++ ws.map fun w => [wordW, w]
def linesL (ts : List Int) (rs : List Rw) (ws : List (List Nat)) : List (List Nat) := (rowsW ts rs ws).map (joinL [32])
def sheetL (ts : List Int) (rs : List Rw) (ws : List (List Nat)) : List Nat := joinL [10] (linesL ts rs ws)
theorem join_tx (s : List Nat) (ps : List (List Nat)) : Txt.join (tx s) (ps.map tx) = tx (joinL s ps) := by
  refine ext_tl ?_
  rw [join_eq, tl_join, tl_tx, tl_tx, List.map_map]
  congr 1
  conv => rhs; rw [← List.map_id ps]
  exact List.map_congr_left fun p _ => tl_tx p
theorem split_tx {s : Nat} (hs : s < 256) {ps : List (List Nat)} (hne : ps ≠ []) (h : ∀ p ∈ ps, s ∉ p) : Txt.split (tx (joinL [s] ps)) (tx [s]) = ps.map tx := by
  rw [← join_tx]
  refine split_join (s := s) (S := []) (tl_tx _) ?_ (fun e => hne (List.map_eq_nil_iff.mp e)) fun p hp => ?_
  · unfold tx
    simpa using hs
  · obtain ⟨q, hq, rfl⟩ := List.mem_map.mp hp
    rw [tl_tx]
    exact h q hq
theorem joinL_len {s : Nat} {k : Nat} : ∀ {ps : List (List Nat)}, (∀ p ∈ ps, p.length ≤ k) → (joinL [s] ps).length ≤ ps.length * (k + 1)
  | [], _ => by simp [joinL]
  | [p], h => by
    have := h p (by simp)
    simp [joinL]
    omega
  | p :: q :: r, h => by
    have h1 := h p (by simp)
    have h2 := joinL_len (s := s) (ps := q :: r) fun x hx => h x (List.mem_cons_of_mem _ hx)
    simp only [joinL, List.length_append, List.length_cons, List.length_nil] at h2 ⊢
    have : (r.length + 1 + 1) * (k + 1) = (r.length + 1) * (k + 1) + (k + 1) := by rw [Nat.add_mul (r.length + 1) 1]; omega
    omega
theorem joinL_mem {s c : Nat} : ∀ {ps : List (List Nat)}, c ∈ joinL [s] ps → c = s ∨ ∃ p ∈ ps, c ∈ p
  | [], h => by cases h
  | [p], h => .inr ⟨p, by simp, h⟩
  | p :: q :: r, h => by
    simp only [joinL, List.mem_append, List.mem_singleton] at h
    rcases h with h | h | h
    · exact .inr ⟨p, by simp, h⟩
    · exact .inl h
    · rcases joinL_mem h with e | ⟨x, hx, hc⟩
      · exact .inl e
      · exact .inr ⟨x, List.mem_cons_of_mem _ hx, hc⟩
/-- a sheet -/
structure ShOk (ts : List Int) (rs : List Rw) (ws : List (List Nat)) : Prop where
  t : TapsOk ts
  r : TabOk rs
  w : BkOk ws
  wl : ws.length ≤ 100
theorem rowsW_len (ts : List Int) (rs : List Rw) (ws : List (List Nat)) : (rowsW ts rs ws).length = 1 + rs.length + ws.length := by
  unfold rowsW
  simp
  omega
/-- a word of a sheet's rows -/
theorem word_ok {ts : List Int} {rs : List Rw} {ws : List (List Nat)} (h : ShOk ts rs ws) {row : List (List Nat)} (hr : row ∈ rowsW ts rs ws) : row ≠ [] ∧ row.length ≤ 26 ∧ ∀ w ∈ row, w.length ≤ 400 ∧ ∀ c ∈ w, 45 ≤ c ∧ c < 123 := by
  unfold rowsW at hr
  rcases List.mem_append.mp hr with hr | hr
  · rcases List.mem_cons.mp hr with rfl | hr
    · refine ⟨by simp, by have := h.t.2.1; simp; omega, fun w hw => ?_⟩
      rcases List.mem_cons.mp hw with rfl | hw
      · exact ⟨by decide, by decide⟩
      · obtain ⟨t, ht, rfl⟩ := List.mem_map.mp hw
        have b := h.t.2.2.2 t ht
        exact ⟨Nat.le_trans (numT_len (by omega) b.2) (by decide), fun c hc => by have := numT_dig t c hc; omega⟩
    · obtain ⟨r, hm, rfl⟩ := List.mem_map.mp hr
      have b1 := h.r.lt r hm
      have b2 := h.r.mrk r hm
      refine ⟨by simp, by simp, fun w hw => ?_⟩
      simp only [List.mem_cons, List.not_mem_nil, or_false] at hw
      rcases hw with rfl | rfl | rfl
      · exact ⟨by decide, by decide⟩
      · refine ⟨by simp, fun c hc => ?_⟩
        have : c = r.1 := by simpa using hc
        have := b1.1
        have := b1.2
        omega
      · exact ⟨by have := b2.2.1; omega, fun c hc => by rcases b2.2.2 c hc with e | e <;> omega⟩
  · obtain ⟨w0, hm, rfl⟩ := List.mem_map.mp hr
    have b := h.w.wd w0 hm
    refine ⟨by simp, by simp, fun w hw => ?_⟩
    simp only [List.mem_cons, List.not_mem_nil, or_false] at hw
    rcases hw with rfl | rfl
    · exact ⟨by decide, by decide⟩
    · exact ⟨b.2.1, fun c hc => by have := b.2.2 c hc; unfold LtOk at this; omega⟩
theorem line_ok {ts : List Int} {rs : List Rw} {ws : List (List Nat)} (h : ShOk ts rs ws) {l : List Nat} (hl : l ∈ linesL ts rs ws) : l.length ≤ 10426 ∧ 10 ∉ l := by
  obtain ⟨row, hr, rfl⟩ := List.mem_map.mp hl
  obtain ⟨h1, h2, h3⟩ := word_ok h hr
  constructor
  · have := joinL_len (s := 32) (k := 400) fun p hp => (h3 p hp).1
    have : row.length * 401 ≤ 26 * 401 := Nat.mul_le_mul_right _ h2
    omega
  · intro hm
    rcases joinL_mem hm with e | ⟨p, hp, hc⟩
    · cases e
    · have := (h3 p hp).2 10 hc
      omega
theorem sheet_len {ts : List Int} {rs : List Rw} {ws : List (List Nat)} (h : ShOk ts rs ws) : (sheetL ts rs ws).length ≤ 1400000 := by
  have a := joinL_len (s := 10) (k := 10426) (ps := linesL ts rs ws) fun p hp => (line_ok h hp).1
  have b : (linesL ts rs ws).length ≤ 127 := by
    unfold linesL
    rw [List.length_map, rowsW_len]
    have := h.r.len
    have := h.wl
    omega
  have c : (linesL ts rs ws).length * (10426 + 1) ≤ 127 * 10427 := Nat.mul_le_mul_right _ b
  unfold sheetL
  omega
theorem split_sheet {ts : List Int} {rs : List Rw} {ws : List (List Nat)} (h : ShOk ts rs ws) : Txt.split (tx (sheetL ts rs ws)) (tx [10]) = (linesL ts rs ws).map tx :=
  split_tx (by decide) (fun e => by
    have := congrArg List.length e
    unfold linesL at this
    rw [List.length_map, rowsW_len] at this
    simp at this) fun p hp => (line_ok h hp).2
theorem split_row {ts : List Int} {rs : List Rw} {ws : List (List Nat)} (h : ShOk ts rs ws) {row : List (List Nat)} (hr : row ∈ rowsW ts rs ws) : Txt.split (tx (joinL [32] row)) (tx [32]) = row.map tx :=
  split_tx (by decide) (word_ok h hr).1 fun p hp hm => by
    have := ((word_ok h hr).2.2 p hp).2 32 hm
    omega
theorem line1_of {ts : List Int} (h : ts ≠ []) : Str.ofString "taps " ++ Txt.join (Str.ofString " ") ((ts.map numT).map tx) = tx (joinL [32] (tapsW :: ts.map numT)) := by
  rw [taps_of, sp_of, join_tx, tx_app]
  cases ts with
  | nil => exact (h rfl).elim
  | cons t ts => simp [joinL]
theorem line2_of (r : Rw) : ((Str.ofString "letter " ++ tx [r.1]) ++ Str.ofString " ") ++ tx r.2 = tx (joinL [32] [lettW, [r.1], r.2]) := by
  rw [lett_of, sp_of, tx_app, tx_app, tx_app]
  simp [joinL]
theorem line3_of (w : List Nat) : Str.ofString "word " ++ tx w = tx (joinL [32] [wordW, w]) := by
  rw [word_of, tx_app]
  simp [joinL]
theorem lines_of (ts : List Int) (rs : List Rw) (ws : List (List Nat)) : (tx (joinL [32] (tapsW :: ts.map numT)) :: rs.map fun r => tx (joinL [32] [lettW, [r.1], r.2])) ++ (ws.map fun w => tx (joinL [32] [wordW, w])) = (linesL ts rs ws).map tx := by
  unfold linesL rowsW
  simp [List.map_map, Function.comp_def]
/-- [f(x) for x in xs], nothing of one's own made -/
theorem lcMap {α : Type} {g f : α → PV} {xs : List α} {wg : WG} {we : WE} {sl : Sl} {vs : List Nat} {st : Sto} {R : List PV → Sto → Prop} (hn : xs.length ≤ 100000)
    (step : ∀ x ∈ xs, ∀ Q : W → Sto → Prop, Q (.v (f x)) st → wg (.v (g x)) (wipeS sl vs) st fun sl3 st3 => we sl3 st3 Q) (done : R (xs.map f) st) :
    (xs.map g).length ≤ 100000 ∧ ∃ I : Nat → List PV → Sto → Prop, I 0 [] st ∧
      (∀ i acc p st2, (xs.map g)[i]? = some p → I i acc st2 → wg (.v p) (wipeS sl vs) st2 fun sl3 st3 => wYes sl3 st3 fun b st4 =>
        if b = true then we sl3 st4 fun x st5 => match vals [x] st5 with
          | some ([q], st6) => I (i + 1) (acc ++ [q]) st6
          | _ => False
        else I (i + 1) acc st4) ∧ ∀ acc st2, I (xs.map g).length acc st2 → R acc st2 := by
  refine ⟨by rw [List.length_map]; exact hn, fun i acc st2 => acc = (xs.take i).map f ∧ st2 = st, ⟨by simp, rfl⟩, ?_, ?_⟩
  · rintro i acc p st2 hp ⟨rfl, rfl⟩
    rw [List.getElem?_map] at hp
    cases e : xs[i]? with
    | none => rw [e] at hp; cases hp
    | some x =>
      rw [e] at hp
      cases hp
      exact step x (List.mem_of_getElem? e) _ ⟨(take_snocM e).symm, rfl⟩
  · rintro acc st2 ⟨rfl, rfl⟩
    rw [List.length_map, List.take_length]
    exact done
theorem lcMapE {α : Type} {g f : α → PV} {xs : List α} {ps : List PV} {wg : WG} {we : WE} {sl : Sl} {vs : List Nat} {st : Sto} {R : List PV → Sto → Prop} (hp : ps = xs.map g) (hn : xs.length ≤ 100000)
    (step : ∀ x ∈ xs, ∀ Q : W → Sto → Prop, Q (.v (f x)) st → wg (.v (g x)) (wipeS sl vs) st fun sl3 st3 => we sl3 st3 Q) (done : R (xs.map f) st) :
    ps.length ≤ 100000 ∧ ∃ I : Nat → List PV → Sto → Prop, I 0 [] st ∧
      (∀ i acc p st2, ps[i]? = some p → I i acc st2 → wg (.v p) (wipeS sl vs) st2 fun sl3 st3 => wYes sl3 st3 fun b st4 =>
        if b = true then we sl3 st4 fun x st5 => match vals [x] st5 with
          | some ([q], st6) => I (i + 1) (acc ++ [q]) st6
          | _ => False
        else I (i + 1) acc st4) ∧ ∀ acc st2, I ps.length acc st2 → R acc st2 := by
  subst hp
  exact lcMap hn step done
theorem sum_le {α : Type} {f : α → Nat} {k : Nat} : ∀ {xs : List α}, (∀ x ∈ xs, f x ≤ k) → (xs.map f).sum ≤ xs.length * k
  | [], _ => by simp
  | x :: xs, h => by
    have h1 := h x (by simp)
    have h2 := sum_le (xs := xs) fun y hy => h y (List.mem_cons_of_mem _ hy)
    simp only [List.map_cons, List.sum_cons, List.length_cons, Nat.add_mul, Nat.one_mul]
    omega
theorem join_size {ps : List (List Nat)} {s : List Nat} {k : Nat} (h : ∀ p ∈ ps, p.length ≤ k) : ((ps.map tx).map (·.length)).sum + (ps.map tx).length * (tx s).length ≤ ps.length * (k + s.length) := by
  rw [List.map_map, List.length_map, len_tx, Nat.mul_add]
  have := sum_le (k := k) (xs := ps) (f := (fun x : Str => x.length) ∘ tx) fun p hp => by
    show (tx p).length ≤ k
    rw [len_tx]
    exact h p hp
  omega
theorem len_add (a b : Str) : (a ++ b).length = a.length + b.length := by
  rw [TL.len_tl, TL.len_tl, TL.len_tl, TL.tl_append, List.length_append]
/-! promises -/
def sp_letters : VSp := fun ps R => ∃ rs : List Rw, ps = [tabV rs] ∧ R (.lst (rs.map rowV))
def sp_written : VSp := fun ps R => ∃ ts rs ws, ps = [tapsP ts, tabV rs, .lst (wdsV ws)] ∧ ShOk ts rs ws ∧ R (.str (tx (sheetL ts rs ws)))
def sp_number : VSp := fun ps R => ∃ (t : Int) (k : Int), ps = [.str (tx (numT t)), .int k] ∧ 1 ≤ t ∧ t ≤ 9999 ∧ R (.int t)
def sp_read : VSp := fun ps R => ∃ ts rs ws, ps = [.str (tx (sheetL ts rs ws))] ∧ ShOk ts rs ws ∧ R (.tup [tapsP ts, tabV rs, .lst (wdsV ws)])
/-! reading a sheet, row by row -/
def sorts : List Str := [Str.ofString "taps", Str.ofString "letter", Str.ofString "word"]
def lstI (rs : List Rw) (i : Nat) : Nat := if i ≤ 1 then 0 else if i ≤ 1 + rs.length then 1 else 2
def tmP (ts : List Int) (i : Nat) : PV := .lst ((if i = 0 then [] else ts).map .int)
def ltP (rs : List Rw) (i : Nat) : List PV := (rs.take (i - 1)).map rowV
def bkP (rs : List Rw) (ws : List (List Nat)) (i : Nat) : List PV := wdsV (ws.take (i - 1 - rs.length))
theorem ltP_next {rs : List Rw} {j : Nat} {r : Rw} (h : rs[j]? = some r) : ltP rs (j + 1 + 1) = ltP rs (j + 1) ++ [rowV r] := take_snocM h
theorem ltP_far {rs : List Rw} {i : Nat} (h : rs.length + 1 ≤ i) : ltP rs i = rs.map rowV := by
  unfold ltP
  rw [List.take_of_length_le (by omega)]
theorem bkP_none {rs : List Rw} {ws : List (List Nat)} {i : Nat} (h : i ≤ 1 + rs.length) : bkP rs ws i = [] := by
  unfold bkP
  rw [show i - 1 - rs.length = 0 by omega]
  rfl
theorem bkP_next {rs : List Rw} {ws : List (List Nat)} {j : Nat} {w : List Nat} (h : ws[j]? = some w) : bkP rs ws (j + 1 + rs.length + 1) = bkP rs ws (j + 1 + rs.length) ++ [.str (tx w)] := by
  unfold bkP wdsV
  rw [show j + 1 + rs.length + 1 - 1 - rs.length = j + 1 by omega, show j + 1 + rs.length - 1 - rs.length = j by omega]
  exact take_snocM h
theorem tmP_pos (ts : List Int) {i : Nat} (h : 0 < i) : tmP ts i = ils ts := by
  unfold tmP
  rw [if_neg (by omega)]
theorem row_at {ts : List Int} {rs : List Rw} {ws : List (List Nat)} {i : Nat} {row : List (List Nat)} (h : (rowsW ts rs ws)[i]? = some row) :
    (i = 0 ∧ row = tapsW :: ts.map numT) ∨ (∃ j r, i = j + 1 ∧ rs[j]? = some r ∧ row = [lettW, [r.1], r.2]) ∨ ∃ j w, i = j + 1 + rs.length ∧ ws[j]? = some w ∧ row = [wordW, w] := by
  unfold rowsW at h
  match i, h with
  | 0, h => exact .inl ⟨rfl, by simpa using h.symm⟩
  | i + 1, h =>
    have h' : ((rs.map fun r => [lettW, [r.1], r.2]) ++ ws.map fun w => [wordW, w])[i]? = some row := by simpa using h
    by_cases hi : i < rs.length
    · rw [List.getElem?_append_left (by simpa using hi), List.getElem?_map] at h'
      cases e : rs[i]? with
      | none => rw [e] at h'; cases h'
      | some r =>
        rw [e] at h'
        exact .inr (.inl ⟨i, r, rfl, e, (Option.some.inj h').symm⟩)
    · rw [List.getElem?_append_right (by simpa using hi), List.length_map, List.getElem?_map] at h'
      cases e : ws[i - rs.length]? with
      | none => rw [e] at h'; cases h'
      | some w =>
        rw [e] at h'
        exact .inr (.inr ⟨i - rs.length, w, by omega, e, (Option.some.inj h').symm⟩)
theorem sorts_0 : tx tapsW ∈ sorts ∧ sorts[0]? = some (tx tapsW) := by unfold sorts; rw [tapsW_of]; simp
theorem sorts_1 : tx lettW ∈ sorts ∧ sorts[1]? = some (tx lettW) ∧ tx lettW ≠ tx tapsW ∧ sorts[0]? ≠ some (tx lettW) := by
  have h : tx lettW ≠ tx tapsW := fun e => by cases tx_inj e
  unfold sorts; rw [tapsW_of, lettW_of]; simp [h, h.symm]
theorem sorts_2 : tx wordW ∈ sorts ∧ sorts[2]? = some (tx wordW) ∧ tx wordW ≠ tx tapsW ∧ sorts[0]? ≠ some (tx wordW) ∧ sorts[1]? ≠ some (tx wordW) := by
  have h : tx wordW ≠ tx tapsW := fun e => by cases tx_inj e
  have h2 : tx wordW ≠ tx lettW := fun e => by cases tx_inj e
  unfold sorts; rw [tapsW_of, lettW_of, wordW_of]; simp [h, h.symm, h2.symm]
theorem empty_of : Str.ofString "" = tx [] := by decide +kernel
theorem row_facts {ts : List Int} {rs : List Rw} {ws : List (List Nat)} (ok : ShOk ts rs ws) {i : Nat} {row : List (List Nat)} (h : (rowsW ts rs ws)[i]? = some row) :
    ∃ hd tl k, row = hd :: tl ∧ tx hd ∈ sorts ∧ (tx hd = Str.ofString "taps" ↔ i = 0) ∧ sorts[k]? = some (tx hd) ∧ (∀ m, m < k → sorts[m]? ≠ some (tx hd)) ∧ lstI rs i ≤ k ∧ k = lstI rs (i + 1) ∧
      idx [PV.int ((hd :: tl).length : Nat), .int 3, .int 2] (k : Int) = some (.int ((hd :: tl).length : Nat)) ∧ (hd :: tl).length ≠ 1 ∧ Str.ofString "" ∉ (hd :: tl).map tx ∧
      ((k = 0 ∧ i = 0 ∧ tl = ts.map numT) ∨ (k = 1 ∧ ∃ j r, i = j + 1 ∧ rs[j]? = some r ∧ tl = [[r.1], r.2]) ∨ (k = 2 ∧ ∃ j w, i = j + 1 + rs.length ∧ ws[j]? = some w ∧ tl = [w])) := by
  have ne : ∀ {row : List (List Nat)}, (∀ w ∈ row, w ≠ []) → Str.ofString "" ∉ row.map tx := fun hw hm => by
    obtain ⟨w, hm, e⟩ := List.mem_map.mp hm
    rw [empty_of] at e
    exact hw w hm (tx_inj e)
  rcases row_at h with ⟨rfl, rfl⟩ | ⟨j, r, rfl, hr, rfl⟩ | ⟨j, w, rfl, hw, rfl⟩
  · refine ⟨tapsW, _, 0, rfl, sorts_0.1, ⟨fun _ => rfl, fun _ => tapsW_of.symm⟩, sorts_0.2, fun m hm => by omega, Nat.le_refl _, rfl, rfl, ?_, ne fun w hw => ?_, .inl ⟨rfl, rfl, rfl⟩⟩
    · have := ok.t.1
      simp
      intro e
      rw [e] at this
      simp at this
    · rcases List.mem_cons.mp hw with rfl | hw
      · decide
      · obtain ⟨t, _, rfl⟩ := List.mem_map.mp hw
        have := numT_pos t
        intro e
        rw [e] at this
        simp at this
  · have hj := (List.getElem?_eq_some_iff.mp hr).1
    have b := ok.r.mrk r (List.mem_of_getElem? hr)
    refine ⟨lettW, _, 1, rfl, sorts_1.1, ⟨fun e => (sorts_1.2.2.1 (e.trans tapsW_of)).elim, fun e => by omega⟩, sorts_1.2.1, fun m hm => ?_, ?_, ?_, rfl, by simp, ne fun w hw => ?_, .inr (.inl ⟨rfl, j, r, rfl, hr, rfl⟩)⟩
    · have : m = 0 := by omega
      subst this
      exact sorts_1.2.2.2
    · unfold lstI
      split
      · omega
      · rw [if_pos (by omega)]; exact Nat.le_refl _
    · unfold lstI
      rw [if_neg (by omega), if_pos (by omega)]
    · simp only [List.mem_cons, List.not_mem_nil, or_false] at hw
      rcases hw with rfl | rfl | rfl
      · decide
      · simp
      · intro e
        have := b.1
        rw [e] at this
        simp at this
  · have b := ok.w.wd w (List.mem_of_getElem? hw)
    refine ⟨wordW, _, 2, rfl, sorts_2.1, ⟨fun e => (sorts_2.2.2.1 (e.trans tapsW_of)).elim, fun e => by omega⟩, sorts_2.2.1, fun m hm => ?_, ?_, ?_, rfl, by simp, ne fun w' hw' => ?_, .inr (.inr ⟨rfl, j, w, rfl, hw, rfl⟩)⟩
    · have : m = 0 ∨ m = 1 := by omega
      rcases this with rfl | rfl
      · exact sorts_2.2.2.2.1
      · exact sorts_2.2.2.2.2
    · unfold lstI
      split
      · omega
      · split <;> omega
    · unfold lstI
      rw [if_neg (by omega), if_neg (by omega)]
    · simp only [List.mem_cons, List.not_mem_nil, or_false] at hw'
      rcases hw' with rfl | rfl
      · decide
      · exact b.1
end VL

set_option Elab.async false
set_option linter.all false
set_option maxRecDepth 100000
set_option maxHeartbeats 2000000
/-! The laws' own tables and sheets. -/
namespace VL
open PySem L2 PySem.Spec PyProof.Rows TL
theorem idx_of {α : Type} {ps : List α} {i : Nat} {p : α} (h : ps[i]? = some p) : idx ps (i : Int) = some p := by
  unfold idx
  rw [if_pos (by omega), Int.toNat_natCast]
  exact h
def rot (t : Nat) : List Nat := (List.range' 97 25).drop t ++ (List.range' 97 25).take t
theorem cutS_from (l : List Nat) (k : Nat) : cutS (tx l) (some (k : Int)) none = tx (l.drop k) := by
  rw [cutS_tx, HT.sIx_none, HT.sIx_nat]
  rcases Nat.le_total k l.length with h | h
  · rw [Nat.min_eq_left h, List.take_of_length_le (by rw [List.length_drop]; omega)]
  · rw [Nat.min_eq_right h, Nat.sub_self, List.take_zero, List.drop_of_length_le h]
theorem cutS_to (l : List Nat) (k : Nat) : cutS (tx l) none (some (k : Int)) = tx (l.take k) := by
  rw [cutS_tx, HT.sIx_none, HT.sIx_nat, List.drop_zero, Nat.sub_zero]
  congr 1
  rcases Nat.le_total k l.length with h | h
  · rw [Nat.min_eq_left h]
  · rw [Nat.min_eq_right h, List.take_length, List.take_of_length_le h]
theorem rot_perm (t : Nat) : (rot t).Perm (List.range' 97 25) := by
  unfold rot
  have h := List.perm_append_comm (l₁ := (List.range' 97 25).drop t) (l₂ := (List.range' 97 25).take t)
  rw [List.take_append_drop] at h
  exact h
theorem rot_nodup (t : Nat) : (rot t).Nodup := (rot_perm t).nodup_iff.mpr (by decide)
theorem rot_mem {t c : Nat} (h : c ∈ rot t) : 97 ≤ c ∧ c < 122 := by
  have := (rot_perm t).mem_iff.mp h
  rw [List.mem_range'_1] at this
  exact this
theorem rot_len (t : Nat) : (rot t).length = 25 := by
  rw [(rot_perm t).length_eq, List.length_range']
/-- the marks of the laws' tables -/
def M21 : List (List Nat) := [[46], [45], [46, 46], [46, 45], [45, 46], [45, 45], [46, 46, 46], [46, 46, 45], [46, 45, 46], [46, 45, 45], [45, 46, 46], [45, 46, 45], [45, 45, 46], [45, 45, 45], [46, 46, 46, 46], [46, 46, 46, 45],
  [46, 46, 46, 46, 46], [45, 45, 46, 45, 45], [46, 46, 46, 46, 46, 46], [45, 46, 45, 46, 45, 46], [45, 45, 45, 45, 45, 45]]
theorem M21_nodup : M21.Nodup := by decide
theorem M21_ok : ∀ m ∈ M21, MkOk m ∧ m ≠ [46, 45, 45, 45, 45, 46] := by unfold MkOk; decide
/-- a law's table, k rows of it made -/
structure Tb (t k : Nat) (rs : List Rw) (left : List (List Nat)) : Prop where
  l : rs.map (·.1) = (rot t).take k
  m : (rs.map (·.2) ++ left).Perm M21
theorem Tb.len {t k : Nat} {rs : List Rw} {left : List (List Nat)} (h : Tb t k rs left) (hk : k ≤ 17) : rs.length = k ∧ left.length + k = 21 := by
  have a := congrArg List.length h.l
  rw [List.length_map, List.length_take, rot_len] at a
  have b := h.m.length_eq
  rw [List.length_append, List.length_map] at b
  have : M21.length = 21 := rfl
  omega
theorem erase_permM {α : Type} {m : α} : ∀ {l : List α} {j : Nat}, l[j]? = some m → (m :: l.eraseIdx j).Perm l
  | [], _, h => by simp at h
  | x :: l, 0, h => by
    have : x = m := by simpa using h
    subst this
    exact List.Perm.refl _
  | x :: l, j + 1, h => by
    have ih := erase_permM (l := l) (j := j) (by simpa using h)
    exact (List.Perm.swap _ _ _).trans (ih.cons x)
theorem Tb.step {t k : Nat} {rs : List Rw} {left : List (List Nat)} (h : Tb t k rs left) {c : Nat} {m : List Nat} {j : Nat} (hc : (rot t)[k]? = some c) (hm : left[j]? = some m) : Tb t (k + 1) (rs ++ [(c, m)]) (left.eraseIdx j) := by
  refine ⟨?_, ?_⟩
  · rw [List.map_append, h.l, List.take_add_one, hc]
    rfl
  · have p : (m :: left.eraseIdx j).Perm left := erase_permM hm
    rw [List.map_append, List.append_assoc]
    exact (List.Perm.append_left _ p).trans h.m
theorem Tb.ok {t k : Nat} {rs : List Rw} {left : List (List Nat)} (h : Tb t k rs left) (hk : k ≤ 17) : TabOk rs ∧ ∀ r ∈ rs, r.1 < 122 ∧ r.2 ≠ [46, 45, 45, 45, 45, 46] := by
  have hl : ∀ r ∈ rs, 97 ≤ r.1 ∧ r.1 < 122 := fun r hr => by
    have : r.1 ∈ rs.map (·.1) := List.mem_map.mpr ⟨r, hr, rfl⟩
    rw [h.l] at this
    exact rot_mem (List.mem_of_mem_take this)
  have hm : ∀ r ∈ rs, MkOk r.2 ∧ r.2 ≠ [46, 45, 45, 45, 45, 46] := fun r hr => M21_ok _ (h.m.mem_iff.mp (List.mem_append_left _ (List.mem_map.mpr ⟨r, hr, rfl⟩)))
  refine ⟨⟨fun r hr => ⟨(hl r hr).1, by have := (hl r hr).2; omega⟩, fun r hr => (hm r hr).1, ?_, ?_, by have := (h.len hk).1; omega⟩, fun r hr => ⟨(hl r hr).2, (hm r hr).2⟩⟩
  · rw [h.l]
    exact (rot_nodup t).sublist (List.take_sublist _ _)
  · exact ((h.m.nodup_iff.mpr M21_nodup).sublist (List.sublist_append_left _ _))
/-- .. with the row that is no letter of theirs -/
def zRow : Rw := (122, [46, 45, 45, 45, 45, 46])
theorem TabOk.z {rs : List Rw} (h : TabOk rs) (hl : rs.length ≤ 16) (hz : ∀ r ∈ rs, r.1 < 122 ∧ r.2 ≠ [46, 45, 45, 45, 45, 46]) : TabOk (rs ++ [zRow]) := by
  refine ⟨fun r hr => ?_, fun r hr => ?_, ?_, ?_, by rw [List.length_append]; simp; omega⟩
  · rcases List.mem_append.mp hr with q | q
    · exact h.lt r q
    · have : r = zRow := by simpa using q
      subst this
      unfold LtOk zRow
      decide
  · rcases List.mem_append.mp hr with q | q
    · exact h.mrk r q
    · have : r = zRow := by simpa using q
      subst this
      unfold MkOk zRow
      decide
  · rw [List.map_append, List.nodup_append]
    refine ⟨h.n1, by simp, fun a ha b hb e => ?_⟩
    obtain ⟨r, hr, rfl⟩ := List.mem_map.mp ha
    have : b = 122 := by simpa [zRow] using hb
    have := (hz r hr).1
    omega
  · rw [List.map_append, List.nodup_append]
    refine ⟨h.n2, by simp, fun a ha b hb e => ?_⟩
    obtain ⟨r, hr, rfl⟩ := List.mem_map.mp ha
    have : b = [46, 45, 45, 45, 45, 46] := by simpa [zRow] using hb
    rw [this] at e
    exact (hz r hr).2 e
/-- the words of the laws' books -/
def W4 : List (List Nat) := [[101, 116], [116, 101, 97], [109, 101, 115, 115, 97, 103, 101], [109, 97, 110]]
theorem W4_ok (k : Nat) : BkOk (W4.drop k) := by
  refine ⟨fun w hw => ?_, (by decide : W4.Nodup).sublist (List.drop_sublist _ _), by rw [List.length_drop]; have : W4.length = 4 := rfl; omega⟩
  have : ∀ w ∈ W4, WdOk w := by unfold WdOk LtOk; decide
  exact this w (List.mem_of_mem_drop hw)
def sp_ltable : VSp := fun ps R => ps = [] ∧ ∀ rs : List Rw, TabOk rs → rs.length ≤ 16 → (∀ r ∈ rs, r.1 < 122 ∧ r.2 ≠ [46, 45, 45, 45, 45, 46]) → R (.lst (rs.map rowV))
def shP (ts : List Int) (rs : List Rw) (ws : List (List Nat)) : PV := .tup [ils ts, .lst (rs.map rowV), .lst (wdsV ws)]
def sp_lsheet : VSp := fun ps R => ps = [] ∧ ∀ ts rs ws, ShOk ts rs ws → R (shP ts rs ws)
def sp_llines : VSp := fun ps R => ∃ ts rs ws, ps = [shP ts rs ws] ∧ ShOk ts rs ws ∧ R (.lst (((linesL ts rs ws).map tx).map .str))
theorem sheet_size {ts : List Int} {rs : List Rw} {ws : List (List Nat)} (ok : ShOk ts rs ws) : (((linesL ts rs ws).map tx).map (·.length)).sum + ((linesL ts rs ws).map tx).length * (tx [10]).length ≤ 16777216 := by
  refine Nat.le_trans (join_size (k := 10426) fun p hp => (line_ok ok hp).1) ?_
  have h1 := ok.r.len
  have h2 := ok.wl
  have : (linesL ts rs ws).length ≤ 127 := by
    unfold linesL
    rw [List.length_map, rowsW_len]
    omega
  exact Nat.le_trans (Nat.mul_le_mul_right _ this) (by decide)
abbrev Sh := List Int × List Rw × List (List Nat)
def shV (x : Sh) : PV := shP x.1 x.2.1 x.2.2
def ShO (x : Sh) : Prop := ShOk x.1 x.2.1 x.2.2
theorem alk_rows {n : Nat} (rs : List Rw) (h : rs.length ≤ 100000) : alk (n + 3) (.lst (rs.map rowV)) := by
  refine ⟨by simpa using h, fun p hp => ?_⟩
  obtain ⟨r, _, rfl⟩ := List.mem_map.mp hp
  refine ⟨by show 2 ≤ 100000; decide, fun q hq => ?_⟩
  simp at hq
  rcases hq with rfl | rfl <;> trivial
theorem alk_wds {n : Nat} (ws : List (List Nat)) (h : ws.length ≤ 100000) : alk (n + 2) (.lst (wdsV ws)) := by
  unfold wdsV
  refine ⟨by simpa using h, fun p hp => ?_⟩
  obtain ⟨r, _, rfl⟩ := List.mem_map.mp hp
  trivial
theorem alk_sh {n : Nat} {ts : List Int} {rs : List Rw} {ws : List (List Nat)} (ok : ShOk ts rs ws) : alk (n + 4) (shP ts rs ws) := by
  refine ⟨by show 3 ≤ 100000; decide, fun p hp => ?_⟩
  have h1 := ok.t.2.1
  have h2 := ok.r.len
  have h3 := ok.wl
  simp at hp
  rcases hp with rfl | rfl | rfl
  · exact alk_ils (n := n + 2) (by omega)
  · exact alk_rows (n := n) _ (by omega)
  · exact alk_wds (n := n + 1) _ (by omega)
end VL

set_option Elab.async false
set_option linter.all false
set_option maxRecDepth 100000
set_option maxHeartbeats 2000000
/-! Methods whose value is a new list: the caller's own. -/
namespace VL
open PySem L2 PySem.Spec PyProof.Rows
abbrev VSpN := List PV → (List PV → Prop) → Prop
def toSpN (K : PySem.W.Frag) (cl : Str → Option Addr) (vsp : VSpN) : Sp := fun vs H Q _ => ∃ (G : Hp) (ps : List PV) (R : List PV → Prop), Same G H ∧ RepL K cl G vs ps ∧ vsp ps R ∧
  ∀ a us qs G' H', R qs → Same H H' → Same G G' → Same G' H' → NewOk G H G' → H a = none → G' a = none → H' a = some (.lst us) → RepL K cl G' us qs → Q (.ref a) H'
section
variable {K : PySem.W.Frag} {cl : Str → Option Addr} {F G H : Hp} {σ : L2.St} {al : List Addr} {sl : Sl} {st : Sto}
theorem run_pureN {X : Cx} {s1 : Stmt} {e : Expr} {p : Pos} {te : TE} {w : WN} {vsp : VSpN} {N : List Str} {vs : List V} {Q : VK} {E : XK} (h1 : PS X s1 tNext) (he : QN cl K X e te w) (hN : vs.length ≤ N.length) (h : toSpN K cl vsp vs H Q E)
    (hw : ∀ ps R, vsp ps R → w (startS N.length ps) [] fun qs _ => R qs) : ∃ t, PSs X [s1, .Return (some e) p] t ∧ t { nx := fun _ H' => Q .non H', rt := Q } (L2.start N vs) H := by
  obtain ⟨G, ps, R, gh, r, hv, k⟩ := h
  refine ⟨_, pss_cons h1 (pss_one (ps_ret he.pe)), ?_⟩
  show te (L2.start N vs) H Q
  refine he.se _ _ _ (hw ps R hv) H G H (L2.start N vs) [] ⟨gh, Same.refl _, fun i x h => slots_start r h, ?_, fun k c h => (by simp at h), fun k j a h => (by simp at h), fun k a h => (by simp at h), rfl⟩ Q ?_
  · unfold L2.start startS
    rw [List.length_append, List.length_append, List.length_map, List.length_map, r.len]
    simp
  · intro a us qs st' F' G' H' hR g S ha fa na rl
    exact k a us qs G' H' hR (g.ff.trans S.fh) g.gg (S.gf.trans S.fh) g.new (g.ff.free fa) (S.gf.free fa) ha rl
def wMethN (c m : Str) (vsp : VSpN) (w : WE) : WN := fun sl st R => w sl st fun x st1 => match x with
  | .v (.ins c' ns qs) => c' = c ∧ (ns.any fun n => m == n) = false ∧ vsp [.ins c' ns qs] fun ps => R ps st1
  | _ => False
theorem SOk.drop {a : Addr} (S : SOk K cl F G H σ al sl st) (g : G a = none) (n : ∀ k : Nat, al[k]? ≠ some a) : SOk K cl (fun b => if b = a then none else F b) G H σ al sl st := by
  have le : ∀ {b : Addr}, b ≠ a → (if b = a then none else F b) = F b := fun h => if_neg h
  refine ⟨fun b u q => ?_, fun b u q => ?_, S.slots, S.len, fun k c h => ?_, S.nd, S.live, S.cnt⟩
  · show (if b = a then none else F b) = some u
    rw [le (ne_of_none q g)]
    exact S.gf _ _ q
  · have q' : (if b = a then none else F b) = some u := q
    split at q'
    · cases q'
    · exact S.fh _ _ q'
  · obtain ⟨b, h1, h2⟩ := S.cells k c h
    have nb : b ≠ a := fun z => n k (z ▸ h1)
    refine ⟨b, h1, ?_⟩
    cases c with
    | lst ps => exact ⟨(le nb).trans h2.1, h2.2⟩
    | frz ps => exact h2
    | lk ps =>
      obtain ⟨g, vs, e, r⟩ := h2
      exact ⟨g, vs, (le nb).trans e, r⟩
    | dT ks => exact ⟨(le nb).trans h2.1, h2.2⟩
    | dK ks ps => exact ⟨(le nb).trans h2.1, h2.2⟩
    | dice => exact ⟨(le nb).trans h2.1, h2.2⟩
    | lkT ks =>
      obtain ⟨g, od, e⟩ := h2
      exact ⟨g, od, (le nb).trans e⟩
    | pin B => exact h2
    | tab P q ls => exact ⟨(le nb).trans h2.1, h2.2⟩
theorem sen_methN {te : TE} {w : WE} {c m : Str} {C : Addr} {vsp : VSpN} (hc : cl c = some C) (h : SE K cl te w) : SEN K cl (tMeth C m (toSpN K cl vsp) [] E0 te tNil) (wMethN c m vsp w) := by
  intro sl st R hw F G H σ al S Q q
  refine h sl st _ hw F G H σ al S _ fun v x st1 F1 G1 H1 h1 g1 S1 r1 => ?_
  dsimp only at h1
  split at h1
  · rename_i c' ns qs
    obtain ⟨rfl, hm, h1⟩ := h1
    have r1' := r1
    cases r1 with
    | @ins a C' dx _ _ vs _ e1 e2 e3 e4 =>
      rw [hc] at e1
      cases e1
      refine ⟨a, dx, _, rfl, S1.fh _ _ (S1.gf _ _ e2), lookup_zip_none hm, ?_⟩
      show toSpN K cl vsp [V.ref a] H1 Q E0
      refine ⟨G1, _, _, S1.gf.trans S1.fh, .cons r1' .nil, h1, fun b us ps G' H' hR sH sG gh new hb gb hl rl => ?_⟩
      obtain ⟨F4, S4, g4⟩ := S1.called sH sG gh new
      have nal := fun k => S1.notAl hb k
      refine q b us ps st1 _ G' H' hR (g1.trans ⟨fun d u e => ?_, g4.gg, g4.new, g4.pre, g4.dice⟩) (SOk.drop S4 gb nal) hl (if_pos rfl) (fun k z => nal k (g1.pre k b z)) rl
      show (if d = b then none else F4 d) = some u
      rw [if_neg (ne_of_none e (S1.fh.free hb))]
      exact g4.ff _ _ e
  · exact h1.elim
end
section
variable {cl : Str → Option Addr} {K : PySem.W.Frag} {X : Cx} {pos : PySem.Pos} {o : Expr} {to : TE} {wo : WE}
theorem qn_meth0N {pl : Sem Bool} {k : Nat} {C : Addr} {c m : Str} {vsp : VSpN} {apos : PySem.Pos} (F : Mt X.prog X.w X.K X.mg X.base C m k (toSpN K cl vsp)) (hc : cl c = some C) (hr : Room k X.A) (h : QE cl K X o to wo)
    (ht : eval (.Call (.Attribute o m apos) [] [] pos) X.env = (do
      let ov ← eval o X.env
      standAt apos.atName
      let (f, first) ← holding [ov] (getMethod ov m pl)
      callWith pos f first (backTo pos (starEach [] X.env)) (backToKw pos (keywordEach [] X.env))) := by rfl) : QN cl K X (.Call (.Attribute o m apos) [] [] pos) (tMeth C m (toSpN K cl vsp) [] E0 to tNil) (wMethN c m vsp wo) := by
  obtain rfl := h.k
  obtain ⟨f, fd, ps, F1, hM, hb⟩ := F.ex
  exact ⟨rfl, pe_meth0 h.pe F.cls hM F1 hr hb .nil pass0 (ht := ht), sen_methN hc h.se⟩
variable {P : Program} {wd : World} {mg : Str → Option Value} {base : Heap}
theorem Mt.ofN {m qual : Str} {st : Stmt} {f C : Addr} {fd : FuncData} {N ps : List Str} {k : Nat} {vsp : VSpN} (F : Fun K m qual st f fd) (hM : Meth K C m f) (hC : Cls K C) (S : FnScope N ps (defScope st)) (hN : ps.length ≤ N.length) (ln : ∀ qs R, vsp qs R → qs.length = ps.length)
    (hb : ∀ (kV doc pm : Value) (an : Option Addr) (cdv ct : Value) (us : List Value), us.length = ps.length → bindArgs (PySem.W.fnOf m qual (defArgs st) (defBody st) (defScope st) .none kV doc pm an cdv ct) ⟨us, []⟩ = pure (ps.zip us))
    (body : ∀ (cdv : Value) (A : Around) (outer : List Env) (s : Shared) (H : Hp) (E : XK), Room k (A.deeper (envOfC qual (defScope st) s.heap.objs.size f cdv)) →
      ∃ s1 e p te w, defBody st = [s1, .Return (some e) p] ∧ PS (cxOf CX0 P wd K mg base N qual (defScope st) f cdv A outer s H E).nox s1 tNext ∧ QN cl K (cxOf CX0 P wd K mg base N qual (defScope st) f cdv A outer s H E).nox e te w ∧ ∀ qs R, vsp qs R → w (startS N.length qs) [] fun qs _ => R qs) :
    Mt P wd K mg base C m (k + 1) (toSpN K cl vsp) := by
  have len : ∀ vs H Q E, toSpN K cl vsp vs H Q E → vs.length = ps.length := fun vs H Q E h => by
    obtain ⟨G, qs, R, _, r, hv, _⟩ := h
    rw [r.len, ln qs R hv]
  refine ⟨⟨f, fd, ps, F.ok S len (fun cdv A outer s H vs Q E hr h => ?_), hM, F.binds hb⟩, hC⟩
  obtain ⟨s1, e, p, te, w, eb, h1, q, hw⟩ := body cdv A outer s H E hr
  rw [eb]
  exact run_pureN h1 q (by rw [len vs H Q E h]; exact hN) h hw
end
end VL

set_option Elab.async false
set_option linter.all false
set_option maxRecDepth 100000
set_option maxHeartbeats 2000000
/-! Refused taps: what is none, what is told of it. -/
namespace VH
open PySem PySem.Spec PyProof.Rows L2 L2H HotX VL
/-- why a list is no taps -/
inductive BadT (ts : List Int) : Int → Str → Prop
  | many : ¬ (1 ≤ ts.length ∧ ts.length ≤ 25 ∧ ts.length % 2 = 1) → BadT ts 0 "many"
  | time (i : Nat) : (1 ≤ ts.length ∧ ts.length ≤ 25 ∧ ts.length % 2 = 1) → i < ts.length → ¬ (1 ≤ at0 ts i ∧ at0 ts i ≤ 9999) → (∀ j, j < i → 1 ≤ at0 ts j ∧ at0 ts j ≤ 9999) → BadT ts i "time"
def spE_Taps : VSpE := fun ps Rx => ∃ (ts : List Int) (at_ : Int) (why : Str), ps = [ils ts] ∧ ts.length ≤ 1000 ∧ BadT ts at_ why ∧ Rx "BadTaps" ["why", "at"] [.str why, .int at_]
def sp_wrong : VSp := fun ps R => ∃ ts : List Int, ps = [ils ts] ∧ TapsOk ts ∧ ∀ (bad : List Int) (at_ : Int) (why : Str), bad.length ≤ 1000 → BadT bad at_ why → R (.tup [ils bad, .int at_, .str why])
def spF_Taps : VSp := fun ps R => ∃ ts : List Int, ps = ts.map PV.int ∧ TapsOk ts ∧ R (tapsP ts)
def sp_timesN : VSpN := fun ps R => ∃ ts : List Int, ps = [tapsP ts] ∧ R (ts.map PV.int)
theorem badT_put {ts us : List Int} {k : Nat} {b : Int} (ht : TapsOk ts) (hk : k < ts.length) (hl : us.length = ts.length) (he : ∀ j, j < k → at0 us j = at0 ts j) (hb : ¬ (1 ≤ b ∧ b ≤ 9999)) :
    (us.take k ++ [b] ++ us.drop (k + 1)).length = ts.length ∧ BadT (us.take k ++ [b] ++ us.drop (k + 1)) k "time" := by
  have len : (us.take k ++ [b] ++ us.drop (k + 1)).length = ts.length := by
    simp only [List.length_append, List.length_take, List.length_drop, List.length_cons, List.length_nil]
    omega
  have lt : ∀ j, j < k → at0 (us.take k ++ [b] ++ us.drop (k + 1)) j = at0 ts j := fun j hj => by
    rw [← he j hj]
    unfold at0
    rw [List.getD_eq_getElem?_getD, List.getD_eq_getElem?_getD, List.append_assoc, List.getElem?_append_left (by rw [List.length_take]; omega), List.getElem?_take]
    rw [if_pos hj]
  have at_ : at0 (us.take k ++ [b] ++ us.drop (k + 1)) k = b := by
    unfold at0
    have lk : (us.take k).length = k := by rw [List.length_take]; omega
    rw [List.getD_eq_getElem?_getD, List.append_assoc, List.getElem?_append_right (by rw [lk]; exact Nat.le_refl _), lk, Nat.sub_self]
    rfl
  refine ⟨len, .time k (by rw [len]; exact ⟨ht.1, ht.2.1, ht.2.2.1⟩) (by rw [len]; exact hk) (by rw [at_]; exact hb) fun j hj => ?_⟩
  rw [lt j hj]
  exact ht.2.2.2 _ (at0_mem (by omega))
theorem badT_snoc {ts : List Int} (ht : TapsOk ts) : BadT (ts ++ [0]) 0 "many" := .many (by
  have h := ht.2.2.1
  rw [List.length_append]
  simp only [List.length_cons, List.length_nil]
  omega)
/-- isinstance's table of the exception classes, at one -/
structure XT (K : PySem.W.Frag) (c1 c2 c3 c4 c5 c6 D : Addr) (w : Str) : Prop where
  k1 : PySem.W.kitOne K (.ref D) (.ref c1) = some (decide (w = "taps"))
  k2 : PySem.W.kitOne K (.ref D) (.ref c2) = some (decide (w = "reading"))
  k3 : PySem.W.kitOne K (.ref D) (.ref c3) = some (decide (w = "width"))
  k4 : PySem.W.kitOne K (.ref D) (.ref c4) = some (decide (w = "table"))
  k5 : PySem.W.kitOne K (.ref D) (.ref c5) = some (decide (w = "words"))
  k6 : PySem.W.kitOne K (.ref D) (.ref c6) = some (decide (w = "text"))
  kv : PySem.W.kitOne K (.ref D) (.type "ValueError") = some true
theorem repL_two {K : PySem.W.Frag} {cl : Str → Option Addr} {G : Hp} {vs : List V} {p q : PV} (h : RepL K cl G vs [p, q]) : ∃ v u, vs = [v, u] ∧ Rep K cl G v p ∧ Rep K cl G u q := by
  cases h with
  | cons a b =>
    cases b with
    | cons b c =>
      cases c
      exact ⟨_, _, rfl, a, b⟩
theorem repL_one {K : PySem.W.Frag} {cl : Str → Option Addr} {G : Hp} {vs : List V} {p : PV} (h : RepL K cl G vs [p]) : ∃ v, vs = [v] ∧ Rep K cl G v p := by
  cases h with
  | cons a b =>
    cases b
    exact ⟨_, rfl, a⟩
theorem qs_nv {cl : Str → Option Addr} {K : PySem.W.Frag} {X : Cx} {s : Stmt} {t : TS} (h : PS X s t) (hk : X.K = K := by rfl) : QS cl K X s t wNever := ⟨hk, h, fun _ _ _ h => h.elim⟩
section
variable {K : PySem.W.Frag} {cl : Str → Option Addr} {F G H : Hp} {σ : L2.St} {al : List Addr} {sl : Sl} {st : Sto}
/-- == of two lists of True and False -/
def wEqBL : W2 := fun x y st R => ∃ bs cs : List Bool, asV x st = some (.lst (bs.map PV.bl)) ∧ asV y st = some (.lst (cs.map PV.bl)) ∧ R (.v (.bl (decide (bs = cs)))) st
theorem repBL : ∀ {bs : List Bool} {vs : List V}, RepL K cl G vs (bs.map PV.bl) → DpAll K H vs (bs.map PyData.bool)
  | [], _, h => by cases h; exact .nil
  | b :: bs, _, h => by
    cases h with
    | cons a t =>
      cases a
      exact .cons (.bl b) (repBL t)
theorem asV_bl {x : W} {v : V} {bs : List Bool} (S : SOk K cl F G H σ al sl st) (r : RepW K cl al G v x) (h : asV x st = some (.lst (bs.map PV.bl))) : Dp K H v (.list (bs.map PyData.bool)) := by
  cases x with
  | v q =>
    cases h
    cases r with
    | lst a b => exact .lst (SqL.of ((S.gf.trans S.fh) _ _ a)) (repBL b)
  | l k =>
    have h' : (items (.l k) st).map PV.lst = some (.lst (bs.map PV.bl)) := h
    cases e : items (.l k) st with
    | none => rw [e] at h'; cases h'
    | some ps =>
      rw [e] at h'
      cases h'
      obtain ⟨a, vs, rfl, h1, l1⟩ := items_at S r e
      exact .lst (SqL.of h1) (repBL l1)
  | o u => cases h
  | ik c f k => cases h
  | im c fs => cases h
theorem eqvBL : ∀ bs cs : List Bool, PyData.eqvAll (bs.map PyData.bool) (cs.map PyData.bool) = decide (bs = cs)
  | [], [] => rfl
  | [], _ :: _ => rfl
  | _ :: _, [] => rfl
  | b :: bs, c :: cs => by
    simp only [List.map_cons, PyData.eqvAll, PyData.eqv, eqvBL bs cs, List.cons.injEq, Bool.decide_and]
    cases b <;> cases c <;> rfl
theorem layBL : ∀ bs : List Bool, PyData.canLayAll0 (bs.map PyData.bool) = true
  | [] => rfl
  | b :: bs => by simp [PyData.canLayAll0, PyData.canLay0, layBL bs]
theorem depBL (bs : List Bool) : (PyData.list (bs.map PyData.bool)).depth ≤ 1 := by
  simp only [PyData.depth]
  have : ∀ bs : List Bool, PyData.depthAll (bs.map PyData.bool) ≤ 0 := by
    intro bs
    induction bs with
    | nil => simp [PyData.depthAll]
    | cons b bs ih => simp only [List.map_cons, PyData.depthAll, PyData.depth]; omega
  have := this bs
  omega
theorem shapedBL (bs : List Bool) : SeqAt.shaped (.list (bs.map PyData.bool)) = true := by
  unfold SeqAt.shaped
  have h : (PyData.list (bs.map PyData.bool)).depth ≤ 64 := Nat.le_trans (depBL bs) (by decide)
  rw [decide_eq_true h, Bool.and_true]
  simp only [PyData.canLay0]
  exact layBL bs
theorem sr_eqBL : SR K cl (rEqAny K) wEqBL := by
  intro x y sl st R hw F G H σ al S v u rv ru Q q
  obtain ⟨bs, cs, e1, e2, hw⟩ := hw
  refine .inr ⟨_, _, asV_bl S rv e1, asV_bl S ru e2, shapedBL bs, shapedBL cs, ?_⟩
  have e : PyData.eqv (.list (bs.map PyData.bool)) (.list (cs.map PyData.bool)) = decide (bs = cs) := by
    simp only [PyData.eqv]
    exact eqvBL bs cs
  rw [e]
  exact q.at hw S (.bl _)
end
end VH

set_option Elab.async false
set_option linter.all false
set_option maxRecDepth 100000
set_option maxHeartbeats 2000000
/-! x = {} , a dict by texts of one's own. -/
namespace VL
open PySem L2 PySem.Spec PyProof.Rows
section
variable {K : PySem.W.Frag} {cl : Str → Option Addr}
def wDNewK (i : Nat) : WS := fun D sl st => D.nx (sl.set i (some (.l st.length))) (st ++ [.dK [] []])
theorem ss_dNewK {i : Nat} : SS K cl (tAsg tDNewK (gName i)) (wDNewK i) := by
  intro D' sl st hw F G H σ al S D d p hp
  obtain ⟨S2, g2⟩ := S.newCell (o := .dK []) (c := .dK [] []) hp ⟨S.fh.free hp, [], upd_same, rfl, .nil⟩
  refine d.nx _ _ _ _ _ _ _ hw g2 (S2.set (v := .ref p) ⟨p, ?_, rfl⟩)
  rw [List.getElem?_append_right (by rw [S.cnt]; omega), S.cnt, Nat.sub_self]
  rfl
theorem qs_dNewK {X : Cx} {x : Str} {pd p2 pos : PySem.Pos} (i : Nat) (hN : X.N.Nodup) (hi : X.N[i]? = some x := by rfl) (hx : Loc X.env.scope x := by first | exact Or.inl rfl | exact Or.inr rfl) (hs : swapsWith (.Dict [] [] pd) (some (.Name x p2)) pos.line X.env = pure false := by rfl) (hf : X.fn x = true ∨ X.env.scope.names.lookup x = some .local := by first | exact .inl rfl | exact .inr rfl | assumption) (hk : X.K = K := by rfl) :
    QS cl K X (.Assign [.Name x p2] (.Dict [] [] pd) pos) (tAsg tDNewK (gName i)) (wDNewK i) := ⟨hk, ps_set hN hi hx pe_dnewK hs hf, ss_dNewK⟩
end
end VL

set_option Elab.async false
set_option linter.all false
set_option maxRecDepth 100000
set_option maxHeartbeats 2000000
/-! What readings spell. -/
namespace VL
open PySem L2 PySem.Spec PyProof.Rows
/-- the letter of some marks -/
def nameOf : List Rw → List Nat → List Nat
  | [], _ => [63]
  | r :: rs, m => if r.2 = m then [r.1] else nameOf rs m
theorem q_of : Str.ofString "?" = tx [63] := by decide +kernel
theorem e_of : Str.ofString "" = tx [] := by decide +kernel
theorem dot_of : Str.ofString "." = tx [46] := by decide +kernel
theorem das_of : Str.ofString "-" = tx [45] := by decide +kernel
theorem getP_name (m : List Nat) : ∀ rs : List Rw, (getP (tx m) (mksOf rs) ((ltsOf rs).map PV.str)).getD (.str (tx [63])) = .str (tx (nameOf rs m))
  | [] => rfl
  | r :: rs => by
    show (if tx r.2 = tx m then some (PV.str (tx [r.1])) else getP (tx m) (mksOf rs) ((ltsOf rs).map PV.str)).getD (.str (tx [63])) = _
    unfold nameOf
    by_cases h : r.2 = m
    · rw [if_pos (by rw [h]), if_pos h]
      rfl
    · rw [if_neg (fun e => h (tx_inj e)), if_neg h]
      exact getP_name m rs
theorem nameOf_len (m : List Nat) : ∀ rs : List Rw, (nameOf rs m).length = 1
  | [] => rfl
  | r :: rs => by
    unfold nameOf
    split
    · rfl
    · exact nameOf_len m rs
abbrev SpS := List Nat × List Nat
def spStep (rs : List Rw) (xs : List Int) (s : SpS) (i : Nat) : SpS :=
  if i % 2 = 0 then (s.1, s.2 ++ [if at0 xs i = 3 then 45 else 46]) else if 1 < at0 xs i then (s.1 ++ nameOf rs s.2 ++ (if at0 xs i = 3 then [] else [32]), []) else s
def spSt (rs : List Rw) (xs : List Int) (n : Nat) : SpS := (List.range n).foldl (spStep rs xs) ([], [])
def spL (rs : List Rw) (xs : List Int) : List Nat := (spSt rs xs xs.length).1 ++ nameOf rs (spSt rs xs xs.length).2
theorem spSt_succ (rs : List Rw) (xs : List Int) (n : Nat) : spSt rs xs (n + 1) = spStep rs xs (spSt rs xs n) n := by
  unfold spSt
  rw [foldl_range_succ]
theorem spSt_len (rs : List Rw) (xs : List Int) : ∀ n, (spSt rs xs n).1.length ≤ 2 * n ∧ (spSt rs xs n).2.length ≤ n
  | 0 => ⟨Nat.le_refl _, Nat.le_refl _⟩
  | n + 1 => by
    have ih := spSt_len rs xs n
    rw [spSt_succ]
    unfold spStep
    split
    · refine ⟨Nat.le_trans ih.1 (by omega), ?_⟩
      rw [List.length_append]
      exact Nat.succ_le_succ ih.2
    · split
      · refine ⟨?_, Nat.zero_le _⟩
        rw [List.length_append, List.length_append, nameOf_len]
        split <;> simp <;> omega
      · exact ⟨Nat.le_trans ih.1 (by omega), Nat.le_trans ih.2 (by omega)⟩
def sp_spelled : VSp := fun ps R => ∃ rs ts xs, ps = [tabV rs, tapsP ts, ils xs] ∧ xs.length = ts.length ∧ xs.length ≤ 1000 ∧ Valid xs ∧ R (.str (tx (spL rs xs)))
def sp_lspelled : VSp := fun ps R => ∃ (rs : List Rw) (xs : List Int), ps = [.lst (rs.map rowV), ils xs] ∧ TabOk rs ∧ xs.length ≤ 1000 ∧ Valid xs ∧ R (.str (tx (spL rs xs)))
theorem kinds_even {xs : List Int} {i : Nat} (hv : Valid xs) (hi : i < xs.length) (h : i % 2 = 0) : at0 xs i = 1 ∨ at0 xs i = 3 := by
  have z := hv i hi
  rw [Nat.zero_add, kindsL, if_neg (by omega)] at z
  simpa using z
theorem kinds_odd {xs : List Int} {i : Nat} (hv : Valid xs) (hi : i < xs.length) (h : i % 2 = 1) : at0 xs i = 1 ∨ at0 xs i = 3 ∨ at0 xs i = 7 := by
  have z := hv i hi
  rw [Nat.zero_add, kindsL, if_pos h] at z
  simpa using z
theorem sps_even {rs : List Rw} {xs : List Int} {s : SpS} {i : Nat} (h : i % 2 = 0) : spStep rs xs s i = (s.1, s.2 ++ [if at0 xs i = 3 then 45 else 46]) := by unfold spStep; rw [if_pos h]
theorem sps_one {rs : List Rw} {xs : List Int} {s : SpS} {i : Nat} (h : i % 2 = 1) (h1 : ¬ 1 < at0 xs i) : spStep rs xs s i = s := by unfold spStep; rw [if_neg (by omega), if_neg h1]
theorem sps_more {rs : List Rw} {xs : List Int} {s : SpS} {i : Nat} (h : i % 2 = 1) (h1 : 1 < at0 xs i) : spStep rs xs s i = (s.1 ++ nameOf rs s.2 ++ (if at0 xs i = 3 then [] else [32]), []) := by unfold spStep; rw [if_neg (by omega), if_pos h1]
theorem blank_of : Str.ofString " " = tx [32] := by decide +kernel
end VL

set_option Elab.async false
set_option linter.all false
set_option maxRecDepth 100000
set_option maxHeartbeats 2000000
/-! Refused readings. -/
namespace VH
open PySem PySem.Spec PyProof.Rows L2 L2H HotX VL
def BadR (ts rs : List Int) : Prop := rs.length ≤ 1000 ∧ ts.length ≤ 1000 ∧ ¬ (rs.length = ts.length ∧ Valid rs)
def spE_need : VSpE := fun ps Rx => ∃ ts rs : List Int, ps = [tapsP ts, ils rs] ∧ BadR ts rs ∧ Rx "BadReading" [] []
def spE_spelled : VSpE := fun ps Rx => ∃ (tb : List Rw) (ts rs : List Int), ps = [tabV tb, tapsP ts, ils rs] ∧ BadR ts rs ∧ Rx "BadReading" [] []
end VH

set_option Elab.async false
set_option linter.all false
set_option maxRecDepth 100000
set_option maxHeartbeats 4000000
/-! An exception that leaves a comprehension: out of a call in its element. -/
namespace VX
open PySem PySem.Spec PyProof.Rows L2 L2H HotX VL VH
/-- in the air of a block: it flies already -/
def XF (Y : Cx) (E : XK) (u : Value) (s' : Shared) : Prop :=
  ∃ (a : Addr) (B : Heap) (sI : Shared) (pins : List (Addr × Obj)) (σ : L2.St) (H : Hp) (cls : Value) (d : Option Addr), u = .ref a ∧ Inv Y pins σ H sI ∧ (∀ b o, sI.heap.get? b = some o → b ∉ frs Y.stack → B.get? b = some o) ∧
    sI.heap.UpToSlots s'.heap ∧ HandSPX.FlyingZ B Y.stack a (L2N.Zn cls d) s'.heap ∧ H a = none ∧ s'.os = sI.os ∧ AllBare s'.gens ∧ E cls d H
theorem XF.call {Y : Cx} {pins : List (Addr × Obj)} {σ : L2.St} {H : Hp} {s s' : Shared} {E : XK} {u : Value} (I : Inv Y pins σ H s) (c : L2N.CX Y.prog Y.w Y.stack H s E u s') : XF Y E u s' := by
  obtain ⟨a, B, H', cls, d, rfl, fl, hok, ub, na, os, ag, hE⟩ := c
  obtain ⟨G, gin, gout⟩ := restrict s'.heap fun b => (B.get? b).isSome || decide (b ∈ frs Y.stack)
  have ofB : ∀ b o, B.get? b = some o → G.get? b = some o := fun b o e => (gin b (by simp [e])).trans (fl.1 b o e)
  have ofF : ∀ b, b ∈ frs Y.stack → G.get? b = s'.heap.get? b := fun b hb => gin b (by simp [hb])
  have back : ∀ b o, G.get? b = some o → s'.heap.get? b = some o ∧ (b ∉ frs Y.stack → B.get? b = some o) := fun b o e => by
    by_cases hb : b ∈ frs Y.stack
    · exact ⟨(ofF b hb).symm.trans e, fun n => (n hb).elim⟩
    · cases hB : B.get? b with
      | none =>
        rw [gout b (by simp [hB, hb])] at e
        cases e
      | some o' =>
        have z := ofB b o' hB
        rw [e] at z
        cases z
        exact ⟨fl.1 b o hB, fun _ => rfl⟩
  have un : Un (frs Y.stack) [] H H' s.heap G := ⟨fun b o e n hb _ => ofB b o (ub.keep b o e n hb), fun b o e n hb _ => (by
      obtain ⟨sl, q⟩ := ub.slot b o e hb
      exact ⟨sl, (ofF b hb).trans q⟩), fun b o e n _ => ub.free b o e n, fun b o e _ => (by
      by_cases hb : b ∈ frs Y.stack
      · obtain ⟨sl, q⟩ := ub.slot b o e hb
        exact ⟨_, (ofF b hb).trans q⟩
      · obtain ⟨o', q⟩ := ub.there b o e hb
        exact ⟨o', ofB b o' q⟩), ub.tups, ub.frzs, ub.tbls⟩
  exact ⟨a, B, { s with heap := G, gens := s'.gens, drawn := s'.drawn, toks := s'.toks }, pins, σ, H', cls, d, rfl, I.call (ch := []) un (hok.kept ofB) ag (fun _ z => nomatch z), fun b o e hb => (back b o e).2 hb,
    Heap.UpToSlots.of_keeps fun b o e => (back b o e).1, fl, na, os, ag, hE⟩
/-- a block that may let out -/
abbrev blkE (X : Cx) (E : XK) (s : Shared) (H : Hp) (scope : Scope) (cenv : Env) (fp : List Addr) : Cx := (X.blk s H scope cenv fp).wish (XF (X.blk s H scope cenv fp) E)
theorem passB {X : Cx} {E : XK} {s : Shared} {H : Hp} {scope : Scope} {cenv : Env} {fp : List Addr} (σ : L2.St) : PassesAt (L2N.CX X.prog X.w) (blkE X E s H scope cenv fp) σ E := fun _ _ _ _ _ I c => XF.call (Y := X.blk s H scope cenv fp) I.unwish c
/-- behind a block: as the library's, the block's own frame told -/
def postE (M : Model) (A : Around) (E : Value → Shared → Prop) (use : Option (Value → Sem Unit)) (Q : Value → Shared → Prop) (acc : Value) (cenv : Env) (r : Result) (s' : Shared) : Prop := match r, use with
  | .ok _, none => ∃ m, s'.heap.Ns cenv.locals m ∧ ∀ h', Heap.SameBut cenv.locals s'.heap h' → Q acc { s' with heap := h' }
  | .ok _, some u => wpAny M A (u acc) (fun _ s2 => ∃ m, s2.heap.Ns cenv.locals m ∧ ∀ h', Heap.SameBut cenv.locals s2.heap h' → Q .none { s2 with heap := h' }) E s'
  | .error x, _ => ∃ m, s'.heap.Ns cenv.locals m ∧ ∀ h', Heap.SameBut cenv.locals s'.heap h' → wpAny M A (PySem.passOn "comprehension.variables-let-go" x cenv : Sem Value) (fun _ _ => False) E { s' with heap := h' }
theorem comp_freeE {M : Model} {A : Around} {E : Value → Shared → Prop} {s : Shared} {env : Env} {e : Expr} {scope : Scope} {pos : Pos} {newAcc first : Sem Value} {g : Comprehension} {gs : List Comprehension} {cl : List (Str × Addr)} {use : Option (Value → Sem Unit)} {Q : Value → Shared → Prop}
    (hcl : clausesOf e = g :: gs) (hs : ∀ x, foldedSetIterable g.iter env x = pure x) (hclos : closureFor scope env = pure cl) (hkind : scope.kind = .function) (hnames : ∀ x ∈ scope.names, x.2 = .local → scope.names.lookup x.1 = some .local)
    (h : wpAny M A first (fun x s₁ => wpAny M A (pyIter x) (fun it s₂ => wpAny M A newAcc (fun acc s₃ => wpAny M A (newFunctionEnv scope env.globals cl [] env.qual none .none (some env)) (fun cenv s₄ =>
        codeAny M A (.compStart e 0 it acc { cenv with scope := relabel scope env }) (postE M A E use Q acc { cenv with scope := relabel scope env }) s₄) E s₃) E s₂) E s₁) E s) : wpAny M A (comprehension e scope env pos newAcc false first use) Q E s := by
  have err : ∀ (v : Value) (t : Shared), E v t → E v t := fun _ _ z => z
  unfold comprehension
  rw [hclos, hcl]
  refine wpAny_bind (wpAny_mono h (fun x s₁ h₁ => wpAny_bind (wpAny_standAt (wpAny_bind (wpAny_of_eq (hs x) (wpAny_bind (wpAny_holding (wpAny_mono h₁ (fun it s₂ h₂ => ?_) err))))))) err)
  refine wpAny_standIf (wpAny_bind (wpAny_mono h₂ (fun acc s₃ h₃ => wpAny_bind (wpAny_pure (wpAny_bind (wpAny_mono h₃ (fun cenv s₄ h₄ => ?_) err)))) err))
  dsimp only
  have kinds : ∀ x ∈ (scope.names.filter fun x => (x.2 == .local || x.2 == .cell) && x.1 != (".0" : Str)).reverse, x.2 = .local → Env.kindOf { cenv with scope := relabel scope env } x.1 = some .local := fun x hx hl =>
    lookup_relabel_local (hnames x (List.mem_filter.mp (List.mem_reverse.mp hx)).1 hl)
  refine wpAny_holding (wpAny_bind (wpAny_attempt (wpAny_holding (wpAny_run (codeAny_mono h₄ fun r s' hr => ?_)))))
  cases r with
  | ok f =>
    cases use with
    | none =>
      obtain ⟨m, hn, k⟩ := hr
      exact wpAny_bind (wpAny_holding (wpAny_comp_letGo (cenv := { cenv with scope := relabel scope env }) hkind _ s' m kinds hn fun h' _ _ sb => wpAny_pure (k h' sb)))
    | some u =>
      refine wpAny_bind (wpAny_rule (wpAny_bind (wpAny_holding (wpAny_mono hr (fun _ t kt => ?_) err))))
      obtain ⟨m, hn, k⟩ := kt
      refine wpAny_bind (wpAny_comp_letGo (cenv := { cenv with scope := relabel scope env }) hkind _ t m (fun x hx hl => ?_) hn fun h' _ _ sb => wpAny_pure (k h' sb))
      exact kinds x ((List.mem_append.mp hx).elim List.mem_of_mem_drop List.mem_of_mem_take) hl
  | error x =>
    obtain ⟨m, hn, k⟩ : ∃ m, s'.heap.Ns cenv.locals m ∧ ∀ h', Heap.SameBut cenv.locals s'.heap h' → wpAny M A (PySem.passOn "comprehension.variables-let-go" x { cenv with scope := relabel scope env } : Sem Value) (fun _ _ => False) E { s' with heap := h' } := by cases use <;> exact hr
    exact wpAny_bind (wpAny_holding (wpAny_comp_letGo (cenv := { cenv with scope := relabel scope env }) hkind _ s' m kinds hn fun h' _ _ sb => wpAny_mono (k h' sb) (fun _ _ z => z.elim) err))
theorem frames_base {h h' B B' : Heap} (hb : ∀ L, B.get? L = none → B'.get? L = none) (k : ∀ L o, B.get? L = none → h.get? L = some o → h'.get? L = some o) : ∀ {l : List Env}, h.FunFrames B l → h'.FunFrames B' l
  | [], _ => trivial
  | _ :: _, ⟨h1, ⟨L, o, e1, e2, e3, e4⟩, r⟩ => ⟨h1, ⟨L, o, e1, hb L e2, k L o e2 e3, e4⟩, frames_base hb k r⟩
theorem note_eq {x : Value} {env env' : Env} (h : env.frame = env'.frame) : noteFrame x env = noteFrame x env' := by
  unfold noteFrame PySem.frameOf
  rw [h]
section
variable {X : Cx} {pins : List (Addr × Obj)} {σ : L2.St} {H3 : Hp} {s3 : Shared} {E : XK}
/-- an exception of a block's turn, out to the def -/
theorem block_out {scope : Scope} {ce : Env} {fp : List Addr} {use : Option (Value → Sem Unit)} {Q : Value → Shared → Prop} {acc : Value} {u : Value} {s' : Shared} (tk : L2N.Takes X (fun cls d _ H => E cls d H)) (hs : X.stack = X.env :: X.outer) (hf : X.env.frame = some X.env.locals) (I3 : Inv X pins σ H3 s3)
    (cL : ce.locals = s3.heap.objs.size) (cF : ce.frame = X.env.frame) (f3 : ∀ b ∈ fp, FpOk X pins H3 b) (x : XF (X.blk s3 H3 scope ce fp) E u s') :
    notedBy (model X.prog X.w) X.A ce (fun e s'' => postE (model X.prog X.w) X.A X.xe use Q acc ce (.error e) s'') u s' := by
  obtain ⟨a, B, sI, pinsI, σI, H, cls, d, rfl, I6, nb, up, fl, na, os, ag, hE⟩ := x
  have I7 : Inv X pins σ H sI := I3.call' (ch := fp) I6.os I6.base I6.hok I6.bare fun b hb => ⟨(f3 b hb).2.2.2.1, (f3 b hb).2.1, (f3 b hb).2.2.2.2.1, (f3 b hb).2.2.2.2.2⟩
  have nC : H s3.heap.objs.size = none := by rw [← cL]; exact I6.free
  obtain ⟨m, hn, _⟩ := I6.loc
  have hn' : sI.heap.Ns s3.heap.objs.size m := by rw [← cL]; exact hn
  have hfr : X.A.frames = some (X.env :: X.outer) := by rw [I3.ok.frames, hs]
  have noC : s3.heap.objs.size ∉ frs X.stack := fun hm => (List.mem_cons.mp (I3.stkSub _ hm)).elim (fun z => Nat.lt_irrefl _ (by have := I3.lt; rw [← z] at this; exact this)) fun z => I3.nofs (Nat.le_refl _) z
  show wpAny _ X.A (noteFrame (.ref a) ce) _ _ s'
  rw [note_eq cF]
  have fl' : HandSPX.FlyingZ B (X.env :: X.outer) a (L2N.Zn cls d) s'.heap := by rw [← hs]; exact fl
  refine PXN.looks_onZ L2N.Zn.steady hfr hf fl' fun h1 hh1 up1 => ?_
  have hn1 : h1.Ns s3.heap.objs.size m := (up.trans up1).ns hn'
  suffices go : ∃ m, h1.Ns ce.locals m ∧ ∀ h', Heap.SameBut ce.locals h1 h' → wpAny (model X.prog X.w) X.A (PySem.passOn "comprehension.variables-let-go" (.ref a) ce : Sem Value) (fun _ _ => False) X.xe { s' with heap := h' } by cases use <;> exact go
  refine ⟨m, by rw [cL]; exact hn1, fun h2 sb => ?_⟩
  rw [cL] at sb
  obtain ⟨st1, n1, ff1, oe, vs, T, oT, ts, he, hz, hd, hv, nT, Te, hT, hdT, ht⟩ := hh1
  obtain ⟨oC, eC, dC⟩ : ∃ o, h1.get? s3.heap.objs.size = some o ∧ ∀ vs, o.data ≠ .fields vs := by
    obtain ⟨o, es, ep, e1, e2, _⟩ := hn1
    exact ⟨o, e1, fun vs z => by rw [e2] at z; cases z⟩
  have aC : a ≠ s3.heap.objs.size := fun z => by
    rw [z, eC] at he
    cases he
    exact dC _ hd
  have TC : T ≠ s3.heap.objs.size := fun z => by
    rw [z, eC] at hT
    cases hT
    exact dC _ hdT
  have bC : ∃ o, B.get? s3.heap.objs.size = some o := by
    obtain ⟨o, es, ep, e1, _⟩ := hn'
    exact ⟨o, nb _ _ e1 noC⟩
  obtain ⟨G, gin, gout⟩ := restrict sI.heap fun b => decide (b ≠ s3.heap.objs.size)
  obtain ⟨B2, bin, bout⟩ := restrict B fun b => decide (b ≠ s3.heap.objs.size)
  have b2 : ∀ b o, B2.get? b = some o → b ≠ s3.heap.objs.size ∧ B.get? b = some o := fun b o e => by
    by_cases hb : b = s3.heap.objs.size
    · rw [bout b (by simp [hb])] at e; cases e
    · exact ⟨hb, (bin b (by simp [hb])).symm.trans e⟩
  have g2 : ∀ b o, G.get? b = some o → b ≠ s3.heap.objs.size ∧ sI.heap.get? b = some o := fun b o e => by
    by_cases hb : b = s3.heap.objs.size
    · rw [gout b (by simp [hb])] at e; cases e
    · exact ⟨hb, (gin b (by simp [hb])).symm.trans e⟩
  have none2 : ∀ L, B.get? L = none → B2.get? L = none := fun L e => by
    cases h : B2.get? L with
    | none => rfl
    | some o => rw [(b2 L o h).2] at e; cases e
  unfold PySem.passOn
  refine wpAny_bind (wpAny_field ((sb.2 a aC).trans he) hd hv ?_)
  rw [if_neg (show ¬ ((Value.ref T == Value.none) = true) from by simp)]
  have stay : B2.StaysIn h2 := fun b o e => (sb.2 b (b2 b o e).1).trans (st1 b o (b2 b o e).2)
  have ff2 : h2.FunFrames B2 (X.env :: X.outer) := frames_base none2 (fun L o e1 e2 => by
    have : L ≠ s3.heap.objs.size := fun z => by
      obtain ⟨o', eo⟩ := bC
      rw [z, eo] at e1
      cases e1
    exact (sb.2 L this).trans e2) ff1
  have fin : wpAny (model X.prog X.w) X.A (setFlight (.ref a) ce.frame) (fun _ s4 => wpAny (model X.prog X.w) X.A (throw (.ref a) : Sem Value) (fun _ _ => False) X.xe s4) X.xe { s' with heap := h2 } := by
    rw [cF, hf]
    refine HandSPX.setFlight_anyZ (s := { s' with heap := h2 }) (fl := rawInt X.env.locals) stay ff2 ⟨oe, vs, T, oT, ts, (sb.2 a aC).trans he, hz, hd, hv, none2 T nT, Te, (sb.2 T TC).trans hT, hdT, ht⟩ fun h4 k1 k2 k3 k4 => wpAny_throw (tk _ _ ?_)
    obtain ⟨g0, g1, _, g3, g4, g5⟩ := I3.fpOk (Nat.le_refl _) nC
    refine ⟨a, B2, { sI with heap := G }, pins, σ, H, cls, d, rfl, I7.turned (t' := sI.toks) (fun b o hb e => (gin b (by simp [hb])).trans e) g0 g1 g3 g4 g5, fun b o e hb => ?_, fun b o e hnf => ?_, .inr (.inr ⟨k1, none2 a n1, by rw [hs]; exact k2, k3⟩), na, os, ag, hE⟩
    · obtain ⟨hc, e'⟩ := g2 b o e
      exact (bin b (by simp [hc])).trans (nb b o e' hb)
    · obtain ⟨hc, e'⟩ := g2 b o e
      obtain ⟨sl, q⟩ := (up.trans up1) b o e' hnf
      obtain ⟨sl2, q2⟩ := k4 b _ ((sb.2 b hc).trans q) hnf
      exact ⟨sl2, q2⟩
  first
    | exact wpAny_bind (wpAny_pure (wpAny_bind fin))
    | exact wpAny_bind fin
end
section
variable {X : Cx} {pins : List (Addr × Obj)} {σ : L2.St} {H : Hp} {s : Shared} {E : XK}
theorem lc_coreE {Q : VK} {pos' : Pos} {use : Option (Value → Sem Unit)} {Qf : Value → Shared → Prop} (I : Inv X pins σ H s) {elt tg iter : Expr} {ifs : List Expr} {scope : Scope} {own : List (Str × Nat)} {pos : Pos} {wi : TI} {g : TG} {tt : TT} {te : TE} (hc : X.calm = true) (tk : L2N.Takes X (fun cls d _ H => E cls d H)) (hst : X.stack = X.env :: X.outer) (hf : X.env.frame = some X.env.locals) (hN : X.N.Nodup) (hi : PI X tg iter wi) (ok : BlkOk X.N X.env.scope scope own)
    (hg : ∀ (s : Shared) (H : Hp) (C : Addr) (cl : List (Str × Addr)) (fp : List Addr), PG (X.blk s H scope (compEnvC scope cl C X.env) fp) tg g)
    (ht : ∀ (s : Shared) (H : Hp) (C : Addr) (cl : List (Str × Addr)) (fp : List Addr), PTs (X.blk s H scope (compEnvC scope cl C X.env) fp) ifs tt)
    (he : ∀ (s : Shared) (H : Hp) (C : Addr) (cl : List (Str × Addr)) (fp : List Addr), PE (blkE X E s H scope (compEnvC scope cl C X.env) fp) elt te) (hs : ∀ x, foldedSetIterable iter X.env x = pure x)
    (h : tLc wi g tt te (own.map (·.2)) σ H Q)
    (hRR : ∀ D ce s' m H', Inv X pins σ H' s' → Q (.ref D) H' → s'.heap.Ns ce.locals m → FpOk X pins H' ce.locals → postE (model X.prog X.w) X.A X.xe use Qf (.ref D) ce (.ok .next) s') :
    wpAny (model X.prog X.w) X.A (comprehension (.ListComp elt [⟨tg, iter, ifs, 0⟩] scope pos) scope X.env pos' (newList []) false (eval iter X.env) use) Qf X.xe s := by
  have hfree : ∀ y ∈ scope.names, y.2 = .free → ∃ c, X.env.cells.lookup y.1 = some c := fun y hy e => (ok.free y hy e).elim (fun k => I.ok.has _ (.inl k)) fun k => I.ok.has _ (.inr k)
  refine comp_freeE rfl hs (closure_ok hfree) ok.kind (fun y hy e => by rw [ok.uniq y hy, e]) (thn (hi.run pins s σ H _ I h) fun xv s1 hx => thn hx fun itv s2 h2 => ?_)
  obtain ⟨it, fp, tn, J, H2, rfl, I2, T, st2, f2, q⟩ := h2
  have hDn : H2 s2.heap.objs.size = none := I2.hok.fresh (Nat.le_refl _)
  obtain ⟨W, ⟨m0, w0⟩, turn⟩ := q _ hDn
  refine wpAny_newObj_type (newEnv_comp ?_) (by show 0 ≤ sizeLine; decide)
  -- the list's own place, the heap with it
  have lt2 : ∀ b ∈ fp, b < s2.heap.objs.size := fun b hb => let ⟨_, e, _⟩ := T.obj _ _ st2 b hb; Heap.lt_size e
  have I3 : Inv X pins σ (upd H2 s2.heap.objs.size (.lst [])) { s2 with heap := s2.heap.push { cls := .type "list", data := .seq ([] : List Value).toArray } } :=
    I2.laid (t' := s2.toks) (fun b o e => Heap.get?_push_of_some _ e) (Nat.le_refl _) ⟨Nat.zero_le _, [], 0, .nil, Heap.get?_push_size _ rfl⟩
  have st3 : tn 0 (s2.heap.push { cls := .type "list", data := .seq ([] : List Value).toArray }) := T.keep _ _ _ st2 fun b _ o e => Heap.get?_push_of_some _ e
  have f3 : ∀ b ∈ fp, FpOk X pins (upd H2 s2.heap.objs.size (.lst [])) b ∧ b < (s2.heap.push { cls := .type "list", data := .seq ([] : List Value).toArray }).objs.size := fun b hb =>
    ⟨⟨by rw [upd_ne (Nat.ne_of_lt (lt2 b hb))]; exact (f2 b hb).1, (f2 b hb).2⟩, by rw [Heap.size_push]; exact Nat.lt_succ_of_lt (lt2 b hb)⟩
  generalize hD : s2.heap.objs.size = D at hDn w0 turn I3 f3 ⊢
  generalize hs3 : ({ s2 with heap := s2.heap.push { cls := .type "list", data := .seq ([] : List Value).toArray } } : Shared) = s3 at I3
  have hh3 : s2.heap.push { cls := .type "list", data := .seq ([] : List Value).toArray } = s3.heap := by rw [← hs3]
  rw [hh3] at st3 f3
  have I4 := block_start I3 ok hN f3
  have pg := fun C cl => hg s3 (upd H2 D (.lst [])) C cl fp
  have pt := fun C cl => ht s3 (upd H2 D (.lst [])) C cl fp
  have pe := fun C cl => he s3 (upd H2 D (.lst [])) C cl fp
  show codeAny _ _ (.compStart (.ListComp elt [⟨tg, iter, ifs, 0⟩] scope pos) 0 (.ref it) (.ref D) (compEnvC scope (cellsFrom (s3.heap.objs.size + 1) scope.names (cloFrom X.env.cells scope.names [])) s3.heap.objs.size X.env))
    (postE (model X.prog X.w) X.A X.xe use Qf (.ref D) (compEnvC scope (cellsFrom (s3.heap.objs.size + 1) scope.names (cloFrom X.env.cells scope.names [])) s3.heap.objs.size X.env)) { s3 with heap := pushCells (s3.heap.push { cls := .type "dict", data := .dict #[] }) scope.names }
  generalize hce : compEnvC scope (cellsFrom (s3.heap.objs.size + 1) scope.names (cloFrom X.env.cells scope.names [])) s3.heap.objs.size X.env = ce at I4 ⊢
  have cL : ce.locals = s3.heap.objs.size := by rw [← hce]; rfl
  have cF : ce.frame = X.env.frame := by rw [← hce]; rfl
  have pg' : PG (X.blk s3 (upd H2 D (.lst [])) scope ce fp) tg g := by rw [← hce]; exact pg _ _
  have pt' : PTs (X.blk s3 (upd H2 D (.lst [])) scope ce fp) ifs tt := by rw [← hce]; exact pt _ _
  have pe' : PE (blkE X E s3 (upd H2 D (.lst [])) scope ce fp) elt te := by rw [← hce]; exact pe _ _
  clear pg pt pe
  have nfp : ∀ b ∈ fp, (upd H2 D (.lst [])) b = none := fun b hb => (f3 b hb).1.1
  generalize upd H2 D (.lst []) = H3 at I3 I4 pg' pt' pe' w0 nfp f3
  have st4 : tn 0 (pushCells (s3.heap.push { cls := .type "dict", data := .dict #[] }) scope.names) := T.keep _ _ _ st3 fun b _ o e => pushCells_keeps _ _ _ _ (Heap.get?_push_of_some _ e)
  -- the walk's objects within the block
  have stat : ∀ {σ' : L2.St} {H' : Hp} {s' : Shared}, Inv (X.blk s3 H3 scope ce fp) [] σ' H' s' → (∀ b ∈ fp, H' b = none) → ∀ b ∈ fp, FpOk (X.blk s3 H3 scope ce fp) [] H' b := fun {σ' H' s'} I' hn b hb =>
    ⟨hn b hb, (I'.ok.exf b hb).1, I'.ok.exfs b hb, .inl hb, fun x c e => (I'.ok.exf b hb).2 x c e, fun p hp => absurd (show p ∈ ([] : List (Addr × Obj)) ++ [] from hp) (by simp)⟩
  have loop : codeAny (model X.prog X.w) X.A (.compLoop (.ListComp elt [⟨tg, iter, ifs, 0⟩] scope pos) 0 (.ref it) (.ref D) ce) (postE (model X.prog X.w) X.A X.xe use Qf (.ref D) ce)
      { s3 with heap := pushCells (s3.heap.push { cls := .type "dict", data := .dict #[] }) scope.names } := by
    refine compLoop_any (fun n s' => ∃ i H', Inv (X.blk s3 H3 scope ce fp) [] (wipe σ (own.map (·.2))) H' s' ∧ tn i s'.heap ∧ (∀ b ∈ fp, H' b = none) ∧ W i n H') ?_ m0 ⟨0, H3, I4, st4, nfp, w0⟩
    rintro n s5 ⟨i, H5, I5, st5, n5, w5⟩
    rcases turn i n H5 w5 with ⟨stop, qq⟩ | ⟨go, Nx, hNx, step⟩
    · refine thnF (T.done (X.blk s3 H3 scope ce fp) rfl rfl rfl hc i [] s5 _ H5 (fun _ _ => False) I5 (stat I5 n5) st5 stop) fun r s6 ⟨hr, I6⟩ => ?_
      subst hr
      have I7 : Inv X pins σ H5 s6 := I3.call' (ch := fp) I6.os I6.base I6.hok I6.bare fun b hb => ⟨(f3 b hb).1.2.2.2.1, (f3 b hb).1.2.1, (f3 b hb).1.2.2.2.2.1, (f3 b hb).1.2.2.2.2.2⟩
      have nC : H5 s3.heap.objs.size = none := by rw [← cL]; exact I6.free
      obtain ⟨m, hn, _⟩ := I6.loc
      refine hRR D ce s6 m H5 I7 qq hn ?_
      rw [cL]
      exact I3.fpOk (Nat.le_refl _) nC
    · refine thnF (T.item (X.blk s3 H3 scope ce fp) rfl rfl rfl hc i [] s5 _ H5 (fun _ _ => False) I5 (stat I5 n5) st5 go) fun r s6 ⟨u, hr, h6⟩ => ?_
      subst hr
      refine thnF h6 fun _ s7 ⟨x, H7, I7, r7, y7, st7, n7⟩ => ?_
      refine thnF (pg'.run _ s7 _ H7 x u _ (I7.pinned (stat I7 n7) (T.obj _ _ st7)) r7 (step x H7 y7)) fun _ s8 ⟨σ8, H8, I8, hw8, q8⟩ => ?_
      refine thnF (pt'.run _ s8 σ8 H8 _ I8 q8) fun b s9 ⟨H9, I9, q9⟩ => ?_
      have next : ∀ {s' : Shared} {H' : Hp}, Inv (X.blk s3 H3 scope ce fp) ([] ++ pinsAt fp s7.heap) σ8 H' s' → Nx H' → ∃ m, m < n ∧ ∃ i H', Inv (X.blk s3 H3 scope ce fp) [] (wipe σ (own.map (·.2))) H' s' ∧ tn i s'.heap ∧ (∀ b ∈ fp, H' b = none) ∧ W i m H' := fun {s' H'} I' nx => by
        obtain ⟨m', hm, w'⟩ := hNx H' nx
        have kept : ∀ b ∈ fp, ∀ o, s7.heap.get? b = some o → s'.heap.get? b = some o ∧ H' b = none := fun b hb o e =>
          let z := I'.pin (b, o) (List.mem_append_right _ (List.mem_append_right _ (mem_pinsAt hb e)))
          ⟨z.1, z.2.1⟩
        refine ⟨m', hm, i + 1, H', (I'.unpinned (pins := [])).weak (by rw [← hw8, wipe_length]) (fun j v e => by rw [← hw8] at e; exact (wipe_some e).1), T.keep _ _ _ st7 fun b hb o e => (kept b hb o e).1, fun b hb => ?_, w'⟩
        obtain ⟨o, e, _⟩ := T.obj _ _ st7 b hb
        exact (kept b hb o e).2
      cases b with
      | false =>
        simp only [Bool.false_eq_true, if_false] at q9 ⊢
        exact next I9 q9
      | true =>
        simp only [if_true] at q9 ⊢
        refine wpAny_mono (pe'.run _ s9 σ8 H9 _ (I9.wish _) q9) (fun z s10 ⟨yv, H10, I10, r10, acc, hD10, hz10, nx⟩ => ?_) fun u s10 hx => block_out tk hst hf I3 cL cF (fun b hb => (f3 b hb).1) hx
        exact app_ok (X := X.blk s3 H3 scope ce fp) I10.unwish hD10 hz10 r10 fun s11 I11 => next I11 nx
  exact codeAny_compStart_list loop (T.self X.A 0 _ _ _ st4 loop)
/-- [..] whose element may raise -/
theorem pe_lcE {elt tg iter : Expr} {ifs : List Expr} {scope : Scope} {own : List (Str × Nat)} {pos : Pos} {wi : TI} {g : TG} {tt : TT} {te : TE} (hc : X.calm = true) (tk : L2N.Takes X (fun cls d _ H => E cls d H)) (hst : X.stack = X.env :: X.outer) (hf : X.env.frame = some X.env.locals) (hN : X.N.Nodup) (hi : PI X tg iter wi) (ok : BlkOk X.N X.env.scope scope own)
    (hg : ∀ (s : Shared) (H : Hp) (C : Addr) (cl : List (Str × Addr)) (fp : List Addr), PG (X.blk s H scope (compEnvC scope cl C X.env) fp) tg g)
    (ht : ∀ (s : Shared) (H : Hp) (C : Addr) (cl : List (Str × Addr)) (fp : List Addr), PTs (X.blk s H scope (compEnvC scope cl C X.env) fp) ifs tt)
    (he : ∀ (s : Shared) (H : Hp) (C : Addr) (cl : List (Str × Addr)) (fp : List Addr), PE (blkE X E s H scope (compEnvC scope cl C X.env) fp) elt te) (hs : ∀ x, foldedSetIterable iter X.env x = pure x := by intro _; rfl) :
    PE X (.ListComp elt [⟨tg, iter, ifs, 0⟩] scope pos) (tLc wi g tt te (own.map (·.2))) := by
  refine ⟨fun pins s σ H Q I h => ?_⟩
  rw [eval_ListComp]
  refine lc_coreE (use := Option.none) I hc tk hst hf hN hi ok hg ht he hs h fun D ce s' m H' I' q hn f => ⟨m, hn, fun h2 sb => ?_⟩
  exact ⟨.ref D, H', I'.turned (t' := s'.toks) (fun b o hb e => (sb.2 b hb).trans e) f.1 f.2.1 f.2.2.2.1 f.2.2.2.2.1 f.2.2.2.2.2, rfl, q⟩
/-- x = [..] on one line -/
theorem ps_setLcE {i : Nat} {y : Str} {py spos : Pos} {elt tg iter : Expr} {ifs : List Expr} {scope : Scope} {own : List (Str × Nat)} {pos : Pos} {wi : TI} {g : TG} {tt : TT} {te : TE} (hc : X.calm = true) (tk : L2N.Takes X (fun cls d _ H => E cls d H)) (hst : X.stack = X.env :: X.outer) (hf : X.env.frame = some X.env.locals) (hN : X.N.Nodup) (hi : PI X tg iter wi) (ok : BlkOk X.N X.env.scope scope own)
    (hg : ∀ (s : Shared) (H : Hp) (C : Addr) (cl : List (Str × Addr)) (fp : List Addr), PG (X.blk s H scope (compEnvC scope cl C X.env) fp) tg g)
    (ht : ∀ (s : Shared) (H : Hp) (C : Addr) (cl : List (Str × Addr)) (fp : List Addr), PTs (X.blk s H scope (compEnvC scope cl C X.env) fp) ifs tt)
    (he : ∀ (s : Shared) (H : Hp) (C : Addr) (cl : List (Str × Addr)) (fp : List Addr), PE (blkE X E s H scope (compEnvC scope cl C X.env) fp) elt te) (hy : X.N[i]? = some y) (hyl : X.env.scope.names.lookup y = some .local) (hsw : swapsWith (.ListComp elt [⟨tg, iter, ifs, 0⟩] scope pos) (some (.Name y py)) spos.line X.env = pure true) (hs : ∀ x, foldedSetIterable iter X.env x = pure x := by intro _; rfl) :
    PS X (.Assign [.Name y py] (.ListComp elt [⟨tg, iter, ifs, 0⟩] scope pos) spos) (tAsg (tLc wi g tt te (own.map (·.2))) (gName i)) := by
  refine ⟨fun pins s σ H D I h => ?_⟩
  rw [exec_Assign_Name_used _ _ _ _ hsw]
  refine wpAny_bind (wpAny_standAt (wpAny_bind ?_))
  have h : tLc wi g tt te (own.map (·.2)) σ H (fun x H1 => gName i x σ H1 D.nx) := h
  refine wpAny_bind (thn (lc_coreE (pos' := firstIterPos [⟨tg, iter, ifs, 0⟩] pos) (use := some (assign (.Name y py) X.env)) (Qf := fun _ s' => SP X pins D .next s') I hc tk hst hf hN hi ok hg ht he hs h fun L ce s' m H' I' q hn f => ?_) fun _ s' hq => wpAny_pure (wpAny_pure hq))
  show wpAny _ _ (assign (.Name y py) X.env (.ref L)) _ _ _
  refine wpAny_assign_Name (store_ok2 (v := V.ref L) I' hN hy (.inl hyl) rfl (fun s2 I2 ⟨a, sb, ha⟩ => ?_) (.inr hyl))
  have ne : ce.locals ≠ a := by
    rcases ha with z | z
    · rw [z]; exact f.2.1
    · exact fun e => f.2.2.2.2.1 y a z e.symm
  exact ⟨m, hn.sameBut sb ne, fun h3 sb3 => ⟨_, H', I2.turned (t' := s2.toks) (fun b o hb e => (sb3.2 b hb).trans e) f.1 f.2.1 f.2.2.2.1 f.2.2.2.2.1 f.2.2.2.2.2, q⟩⟩
end
end VX

set_option Elab.async false
set_option linter.all false
set_option maxRecDepth 100000
set_option maxHeartbeats 4000000
/-! By values: calls that return or raise, comprehensions that raise, a try in a def without cells. -/
namespace VX
open PySem PySem.Spec PyProof.Rows L2 L2H HotX VL VH
section
variable {X : Cx} {k j : Nat} {f C : Addr} {fd fd2 : FuncData} {ps ps2 : List Str} {sp1 sp2 : Sp} {E : XK} {x : Str} {p pos : Pos} {e : Expr} {es : List Expr} {t : TA}
def tCallOr (sp1 sp2 : Sp) (E : XK) (t : TA) : TE := fun σ H Q => t σ H fun vs H1 => sp1 vs H1 Q E0 ∨ sp2 vs H1 Q E
theorem pe_callOr (F1 : FnOk X.prog X.w X.K X.mg X.base CX0 k f fd ps sp1) (F2 : FnOk X.prog X.w X.K X.mg X.base (L2N.CX X.prog X.w) j f fd2 ps2 sp2) (hr1 : Room k X.A) (hr2 : Room j X.A) (hg : Gl X x) (hm : X.mg x = some (.ref f)) (hk : PySem.W.keepIn X.K (.ref f) = true)
    (hb1 : Binds X.K fd ps []) (hb2 : Binds X.K fd2 ps2 []) (hx : ∀ σ, PassesAt (L2N.CX X.prog X.w) X σ E) (ha : PA X (e :: es) t) (hdb : (x == ("__debug__" : Str)) = false := by decide) (he : starEach (e :: es) X.env = (false, eval e X.env) :: starEach es X.env := by rfl)
    (hpl : (backTo pos (starEach es X.env)).any (·.1) = false := by rfl) : PE X (.Call (.Name x p) (e :: es) [] pos) (tCallOr sp1 sp2 E t) := by
  refine ⟨fun pins s σ H Q I h => wpAny_Call_Name_kw (ld_glob I hg hm ?_ hdb)⟩
  refine PySem.W.callWith_K (h₀ := X.base) I.ok.mod.kin hk (thn (ha.run pos pins s σ H _ I h) fun us s1 ⟨vs, H1, I1, r, q⟩ => ⟨I1.kIn, ?_⟩) he hpl
  rcases q with q | q
  · exact run_fn F1 hr1 hb1 .nil pass0 I1 r (by rw [List.append_nil]; exact q)
  · exact run_fnS (E := fun _ => E) F2 hr2 hb2 (hx σ) I1 r q
def tMakeOr (C : Addr) (sp1 sp2 : Sp) (E : XK) (t : TA) : TE := fun σ H Q => t σ H fun vs H1 => (∀ x dx, H1 x = none → H1 dx = none → dx ≠ x → sp1 (.ref x :: vs) (upd (upd H1 dx (.own x)) x (.ins C dx [])) (fun v H2 => v = .non ∧ Q (.ref x) H2) E0) ∨
  ∀ x dx, H1 x = none → H1 dx = none → dx ≠ x → sp2 (.ref x :: vs) (upd (upd H1 dx (.own x)) x (.ins C dx [])) (fun v H2 => v = .non ∧ Q (.ref x) H2) E
theorem pe_makeOr (M1 : Mk X.K C f) {f2 : Addr} (M2 : Mk X.K C f2) (F1 : FnOk X.prog X.w X.K X.mg X.base CX0 k f fd ps sp1) (F2 : FnOk X.prog X.w X.K X.mg X.base (L2N.CX X.prog X.w) j f2 fd2 ps2 sp2) (hr1 : Room (k + 1) X.A) (hr2 : Room (j + 1) X.A) (hg : Gl X x) (hm : X.mg x = some (.ref C))
    (hb1 : Binds X.K fd ps []) (hb2 : Binds X.K fd2 ps2 []) (hx : ∀ σ, PassesAt (L2N.CX X.prog X.w) X σ E) (ha : PA X (e :: es) t) (hdb : (x == ("__debug__" : Str)) = false := by decide) (he : starEach (e :: es) X.env = (false, eval e X.env) :: starEach es X.env := by rfl)
    (hpl : (backTo pos (starEach es X.env)).any (·.1) = false := by rfl) : PE X (.Call (.Name x p) (e :: es) [] pos) (tMakeOr C sp1 sp2 E t) := by
  refine ⟨fun pins s σ H Q I h => wpAny_Call_Name_kw (ld_glob I hg hm ?_ hdb)⟩
  refine PySem.W.callWith_K (h₀ := X.base) I.ok.mod.kin M1.kp (thn (ha.run pos pins s σ H _ I h) fun us s1 ⟨vs, H1, I1, r, q⟩ => ⟨I1.kIn, ?_⟩) he hpl
  rcases q with q | q
  · exact run_make M1 F1 hr1 hb1 .nil pass0 I1 r (by intro y dy h1 h2 h3; rw [List.append_nil]; exact q y dy h1 h2 h3)
  · exact run_makeS (E := fun _ => E) M2 F2 hr2 hb2 (hx σ) I1 r q
end
section
variable {K : PySem.W.Frag} {cl : Str → Option Addr} {E : XK}
def wCallOr (K : PySem.W.Frag) (cl : Str → Option Addr) (E : XK) (vsp1 : VSp) (vsp2 : VSpE) (wa : WA) : WE := fun sl st R => wa sl st fun xs st1 => match vals xs st1 with
  | some (ps, st2) => (vsp1 ps fun p => R (.v p) st2) ∨ ∃ (k : Nat) (B : Hp), st2[k]? = some (Cell.pin B) ∧ vsp2 ps fun c ns qs => XW K cl E B c ns qs
  | none => False
theorem se_callOr {vsp1 : VSp} {vsp2 : VSpE} {ta : TA} {wa : WA} (h : SA K cl ta wa) : SE K cl (tCallOr (toSp K cl vsp1) (toSpE K cl vsp2) E ta) (wCallOr K cl E vsp1 vsp2 wa) := by
  intro sl st R hw F G H σ al S Q q
  refine h sl st _ hw F G H σ al S _ fun vs xs st1 F1 G1 H1 h1 g1 S1 rs => ?_
  dsimp only at h1
  split at h1
  · rename_i ps st2 e
    obtain ⟨F2, G2, S2, g2, l⟩ := vals_ok S1 rs e
    rcases h1 with h1 | ⟨k, B, hk, hv⟩
    · refine .inl ⟨G2, ps, _, S2.gf.trans S2.fh, l, h1, fun v p G' H' r sH sG gh new rv => ?_⟩
      obtain ⟨F3, S3, g3⟩ := S2.called sH sG gh new
      exact q v (.v p) st2 F3 G' H' r ((g1.trans g2).trans g3) S3 rv
    · obtain ⟨sB, a, o, ha⟩ := S2.pinned hk
      exact .inr ⟨G2, ps, _, S2.gf.trans S2.fh, l, ⟨a, o, ha⟩, hv, fun c ns qs hx => hx.mono sB⟩
  · exact h1.elim
theorem se_makeOr {C : Addr} {vsp1 : VSp} {vsp2 : VSpE} {ta : TA} {wa : WA} (h : SA K cl ta wa) : SE K cl (tMakeOr C (toSpI K cl C vsp1) (toSpIE K cl C vsp2) E ta) (wCallOr K cl E vsp1 vsp2 wa) := by
  intro sl st R hw F G H σ al S Q q
  refine h sl st _ hw F G H σ al S _ fun vs xs st1 F1 G1 H1 h1 g1 S1 rs => ?_
  dsimp only at h1
  split at h1
  · rename_i ps st2 e
    obtain ⟨F2, G2, S2, g2, l⟩ := vals_ok S1 rs e
    rcases h1 with h1 | ⟨k, B, hk, hv⟩
    · refine .inl fun x dx hx hdx ne => ⟨x, dx, vs, H1, G2, ps, _, rfl, hx, hdx, ne, rfl, S2.gf.trans S2.fh, l, h1, fun p G' H' r sH sG gh new rv => ⟨rfl, ?_⟩⟩
      obtain ⟨F3, S3, g3⟩ := S2.called sH sG gh new
      exact q (.ref x) (.v p) st2 F3 G' H' r ((g1.trans g2).trans g3) S3 rv
    · obtain ⟨sB, _⟩ := S2.pinned hk
      exact .inr fun x dx hx hdx ne => ⟨x, dx, vs, H1, G2, ps, _, rfl, hx, hdx, ne, rfl, S2.gf.trans S2.fh, l, hv, fun c ns qs hx => hx.mono sB⟩
  · exact h1.elim
end
section
variable {cl : Str → Option Addr} {K : PySem.W.Frag} {X : Cx} {pos p2 : Pos} {e : Expr} {es : List Expr} {A : TA} {WA' : WA} {x : Str} {E : XK} {vsp1 : VSp} {vsp2 : VSpE} {k j : Nat}
theorem q_callOr (hx : ∀ σ, PassesAt (L2N.CX X.prog X.w) X σ E) (F1 : Fn X.prog X.w K X.mg X.base x k (toSp K cl vsp1)) (F2 : FnE X.prog X.w K X.mg X.base x j (toSpE K cl vsp2)) (hr1 : Room k X.A) (hr2 : Room j X.A) (h : QA cl K X (e :: es) A WA') (hg : Gl X x := by rfl) (hdb : (x == ("__debug__" : Str)) = false := by decide)
    (he : starEach (e :: es) X.env = (false, eval e X.env) :: starEach es X.env := by rfl) (hpl : (backTo pos (starEach es X.env)).any (·.1) = false := by rfl) : QE cl K X (.Call (.Name x p2) (e :: es) [] pos) (tCallOr (toSp K cl vsp1) (toSpE K cl vsp2) E A) (wCallOr K cl E vsp1 vsp2 WA') := by
  obtain rfl := h.k
  obtain ⟨f, fd, ps, G1, hm, hk, hb⟩ := F1.ex
  obtain ⟨f2, fd2, ps2, G2, hm2, hk2, hb2⟩ := F2.ex
  have ef : f = f2 := by
    rw [hm] at hm2
    exact Value.ref.inj (Option.some.inj hm2)
  subst ef
  exact ⟨rfl, pe_callOr G1 G2 hr1 hr2 hg hm hk hb hb2 hx h.pe hdb he hpl, se_callOr h.se⟩
theorem q_makeOr {C : Addr} (hx : ∀ σ, PassesAt (L2N.CX X.prog X.w) X σ E) (F1 : Mkc X.prog X.w K X.mg X.base x C k (toSpI K cl C vsp1)) (F2 : MkE X.prog X.w K X.mg X.base x C j (toSpIE K cl C vsp2)) (hr1 : Room (k + 1) X.A) (hr2 : Room (j + 1) X.A) (h : QA cl K X (e :: es) A WA') (hg : Gl X x := by rfl) (hdb : (x == ("__debug__" : Str)) = false := by decide)
    (he : starEach (e :: es) X.env = (false, eval e X.env) :: starEach es X.env := by rfl) (hpl : (backTo pos (starEach es X.env)).any (·.1) = false := by rfl) : QE cl K X (.Call (.Name x p2) (e :: es) [] pos) (tMakeOr C (toSpI K cl C vsp1) (toSpIE K cl C vsp2) E A) (wCallOr K cl E vsp1 vsp2 WA') := by
  obtain rfl := h.k
  obtain ⟨f, fd, ps, G1, hM, hm, hb⟩ := F1.ex
  obtain ⟨f2, fd2, ps2, G2, hM2, hm2, hb2⟩ := F2.ex
  exact ⟨rfl, pe_makeOr hM hM2 G1 G2 hr1 hr2 hg hm hb hb2 hx h.pe hdb he hpl, se_makeOr h.se⟩
variable {elt tg iter : Expr} {ifs : List Expr} {scope : Scope} {own : List (Str × Nat)} {wi : TI} {g : TG} {ts : List Nat} {tt : TT} {wwi : WI} {wg : WG} {wt : WT} {py : Pos} {y : Str} {te : TE} {w : WE}
/-- x = [..] on one line, whose element may raise -/
theorem qn_lcLE (i : Nat) (hc : X.calm = true) (tk : L2N.Takes X (fun cls d _ H => E cls d H)) (hst : X.stack = X.env :: X.outer) (hf : X.env.frame = some X.env.locals) (hN : X.N.Nodup) (hi : QI cl K X tg iter wi wwi) (ok : BlkOk X.N X.env.scope scope own)
    (hg : ∀ (s : Shared) (H : Hp) (C : Addr) (cl' : List (Str × Addr)) (fp : List Addr), QG cl K (X.blk s H scope (compEnvC scope cl' C X.env) fp) tg g ts wg) (ht : ∀ (s : Shared) (H : Hp) (C : Addr) (cl' : List (Str × Addr)) (fp : List Addr), QPs cl K (X.blk s H scope (compEnvC scope cl' C X.env) fp) ifs tt wt)
    (he : ∀ (s : Shared) (H : Hp) (C : Addr) (cl' : List (Str × Addr)) (fp : List Addr), QE cl K (blkE X E s H scope (compEnvC scope cl' C X.env) fp) elt te w) (hy : X.N[i]? = some y := by rfl) (hyl : X.env.scope.names.lookup y = some .local := by rfl)
    (hsw : swapsWith (.ListComp elt [⟨tg, iter, ifs, 0⟩] scope p2) (some (.Name y py)) pos.line X.env = pure true := by exact sw_true rfl rfl rfl (by decide +kernel)) (hv : ∀ t ∈ ts, t ∈ own.map (·.2) := by decide) (hs : ∀ x, foldedSetIterable iter X.env x = pure x := by intro _; rfl) :
    QS cl K X (.Assign [.Name y py] (.ListComp elt [⟨tg, iter, ifs, 0⟩] scope p2) pos) (tAsg (tLc wi g tt te (own.map (·.2))) (gName i)) (wAsg (wOfN (wLc wwi wg wt w (own.map (·.2)))) (wName i)) := by
  obtain rfl := hi.k
  exact ⟨rfl, ps_setLcE hc tk hst hf hN hi.pe ok (fun s H C cl' fp => (hg s H C cl' fp).pe) (fun s H C cl' fp => (ht s H C cl' fp).pe) (fun s H C cl' fp => (he s H C cl' fp).pe) hy hyl hsw hs,
    ss_asg (se_ofN (sen_lc hi.se (hg X.s_0 X.H_0 0 [] []).se (ht X.s_0 X.H_0 0 [] []).se (he X.s_0 X.H_0 0 [] []).se hv)) sg_name⟩
end
/-! ### the handled exception's field, whatever its class -/
section
variable {K : PySem.W.Frag} {cl : Str → Option Addr}
def XfOk (K : PySem.W.Frag) (C : Addr) (f : Str) : Prop := XfC K C ∧ PySem.W.findIn K (.ref C) f = some none
def tXfA (K : PySem.W.Frag) (a : Addr) (cls : Value) (d : Option Addr) (f : Str) (te : TE) : TE := fun σ H Q => ∃ C, XfOk K C f ∧ tXf a cls d C f te σ H Q
def wXgA (K : PySem.W.Frag) (cl : Str → Option Addr) (a : Addr) (cls : Value) (d : Option Addr) (f : Str) (w : WE) : WE := fun sl st R => ∃ C, XfOk K C f ∧ wXg K cl a cls C d f w sl st R
variable {X : Cx} {pos : Pos} {e : Expr} {te : TE} {w : WE} {n : Str} {a : Addr} {oe : Obj} {cls : Value} {d : Option Addr} {pn : List (Addr × Obj)}
theorem q_xgA (hz : L2N.Zn cls d oe) (hf : ∃ vs, oe.data = .fields vs) (he : QE cl K (X.suite a ((a, oe) :: pn)) e te w) (hb : attributeBase e n X.env (eval e X.env) = eval e X.env := by rfl) :
    QE cl K (X.suite a ((a, oe) :: pn)) (.Attribute e n pos) (tXfA K a cls d n te) (wXgA K cl a cls d n w) := by
  obtain rfl : X.K = K := he.k
  refine ⟨rfl, ⟨fun pins s σ H Q I ⟨C, ⟨T, hno⟩, h⟩ => (pe_xf T hno hz.zc hf he.pe hb).run pins s σ H Q I h⟩, ?_⟩
  rintro sl st R ⟨C, ok, hw⟩ F G H σ al S Q q
  exact ⟨C, ok, se_xg he.se sl st R hw F G H σ al S Q q⟩
end
/-! ### a try in a def without cells: its heap has something in it -/
section
variable {K : PySem.W.Frag} {cl : Str → Option Addr}
def Some1 (sl : Sl) (st : Sto) : Prop := 0 < st.length ∨ ∃ (i : Nat) (ps : List PV), sl[i]? = some (some (.v (.lst ps)))
theorem some1_at {F G H : Hp} {σ : L2.St} {al : List Addr} {sl : Sl} {st : Sto} (S : SOk K cl F G H σ al sl st) (h : Some1 sl st) : ∃ a o, H a = some o := by
  rcases h with h | ⟨i, ps, h⟩
  · have hal : 0 < al.length := by rw [S.cnt]; exact h
    obtain ⟨o, ho⟩ := S.live 0 al[0] (by simp [hal])
    exact ⟨_, o, ho⟩
  · obtain ⟨v, _, r⟩ := S.slots i _ h
    cases r with
    | @lst a vs _ e l => exact ⟨a, _, S.fh _ _ (S.gf _ _ e)⟩
def wTryG (K : PySem.W.Frag) (cl : Str → Option Addr) (c : Value) (i : Nat) (ws : Addr → Value → Option Addr → WS) (vsp : VSpE) (wa : WA) : WS := fun D sl st => wa sl st fun xs st1 => match vals xs st1 with
  | some (ps, st2) => Some1 sl st2 ∧ vsp ps fun x ns qs => CaughtW K cl c i ws D sl st2 x ns qs
  | none => False
theorem ss_tryG {c : Value} {i : Nat} {ts : Addr → Value → Option Addr → TS} {ws : Addr → Value → Option Addr → WS} {Wout : WX} {vsp : VSpE} {ta : TA} {wa : WA} (hs : ∀ a cls d, SS K cl (ts a cls d) (ws a cls d)) (ha : SA K cl ta wa) :
    SS K cl (tTryF K c i ts Wout (toSpE K cl vsp) ta) (wTryG K cl c i ws vsp wa) := by
  intro D' sl st hw F G H σ al S D dk
  refine ha sl st _ hw F G H σ al S _ fun vs xs st1 F1 G1 H1 h1 g1 S1 rs => ?_
  dsimp only at h1
  split at h1
  · rename_i ps st2 e
    obtain ⟨F2, G2, S2, g2, l⟩ := vals_ok S1 rs e
    exact ⟨G2, ps, _, S2.gf.trans S2.fh, l, some1_at S2 h1.1, h1.2, fun cn ns qs hx2 => caught hs S2 (dk.gr (g1.trans g2)) hx2⟩
  · exact h1.elim
variable {X : Cx} {x y n : Str} {c : Value} {i k : Nat} {suite : List Stmt} {b₀ : Stmt} {np p2 p3 pos pos' p5 : Pos} {vsp : VSpE} {e : Expr} {es : List Expr} {A : TA} {WA' : WA} {ts : Addr → Value → Option Addr → TS} {ws : Addr → Value → Option Addr → WS}
theorem qs_tryG (F : FnE X.prog X.w X.K X.mg X.base y k (toSpE K cl vsp)) (hr : Room k X.A) (hs : X.stack = X.env :: X.outer) (hf : X.env.frame = some X.env.locals) (hN : X.N.Nodup) (hc : Names X x c)
    (ha : ∀ (pn : List (Addr × Obj)) (xe : Value → Shared → Prop), QA cl K (X.tr pn xe) (e :: es) A WA')
    (hsu : ∀ (a : Addr) (oe : Obj) (cls : Value) (d : Option Addr) (pn : List (Addr × Obj)), L2N.Zn cls d oe → (∃ vs, oe.data = .fields vs) → QSs cl K (X.suite a ((a, oe) :: pn)) (b₀ :: suite) (ts a cls d) (ws a cls d))
    (hi : X.N[i]? = some n := by rfl) (hln : X.env.kindOf n = some .local := by rfl) (hg : Gl X y := by rfl) (hdb : (y == ("__debug__" : Str)) = false := by decide)
    (he : starEach (e :: es) X.env = (false, eval e X.env) :: starEach es X.env := by rfl) (hpl : (backTo p3 (starEach es X.env)).any (·.1) = false := by rfl) (hsw : swapsWith (.Call (.Name y p2) (e :: es) [] p3) none p5.line X.env = pure false := by rfl) (hk : X.K = K := by rfl) :
    QS cl K X (.Try [.Expr (.Call (.Name y p2) (e :: es) [] p3) p5] [.ExceptHandler (some (.Name x np)) (some n) (b₀ :: suite) pos'] [] [] pos) (tTryF K c i ts W0 (toSpE K cl vsp) A) (wTryG K cl c i ws vsp WA') := by
  have old := qs_tryF' (pos := pos) (pos' := pos') (np := np) F hr hs hf hN hc ha hsu hi hln hg hdb he hpl hsw hk
  exact ⟨old.k, old.pe, ss_tryG (fun a cls d => (hsu a (oeD cls d) cls d [] (oeD_zn cls d) (oeD_hf cls d)).se) (ha [] X.xe).se⟩
end
end VX

set_option Elab.async false
set_option linter.all false
set_option maxRecDepth 100000
set_option maxHeartbeats 4000000
/-! k02: what is no reading, what is no width. -/
namespace VH
open PySem PySem.Spec PyProof.Rows L2 L2H HotX VL
def NoneW : List Fr := [(1, 1), (-1, 2), (2, 4), (0, 2), (3, 2), (0, 0), (1, -2), (5, 5)]
def spE_nw : VSpE := fun ps Rx => ∃ w : Fr, ps = [fr w] ∧ w ∈ NoneW ∧ Rx "BadWidth" [] []
def spE_least : VSpE := fun ps Rx => ∃ ts rs : List Int, ps = [tapsP ts, ils rs] ∧ BadR ts rs ∧ Rx "BadReading" [] []
def spE_allow : VSpE := fun ps Rx => ∃ (ts rs : List Int) (p : PV), ps = [tapsP ts, ils rs, p] ∧ ((BadR ts rs ∧ Rx "BadReading" [] []) ∨ (rs.length = ts.length ∧ rs.length ≤ 1000 ∧ Valid rs ∧ ∃ w : Fr, p = fr w ∧ w ∈ NoneW ∧ Rx "BadWidth" [] []))
def spE_rdgs : VSpE := fun ps Rx => ∃ (p : PV) (w : Fr), ps = [p, fr w] ∧ w ∈ NoneW ∧ Rx "BadWidth" [] []
theorem mk24 : mkF 2 4 = (1, 2) := by decide +kernel
theorem mk02 : mkF 0 2 = (0, 1) := by decide +kernel
/-- a reading with a number too few, too many, or another one -/
theorem badR_drop {ts rs : List Int} (hl : rs.length = ts.length) (h1 : 1 ≤ ts.length) (h2 : ts.length ≤ 25) : BadR ts (rs.drop 1) :=
  ⟨by rw [List.length_drop]; omega, by omega, fun ⟨h, _⟩ => by rw [List.length_drop] at h; omega⟩
theorem badR_more {ts rs : List Int} (hl : rs.length = ts.length) (h2 : ts.length ≤ 25) : BadR ts (rs ++ [1]) :=
  ⟨by rw [List.length_append]; simp; omega, by omega, fun ⟨h, _⟩ => by rw [List.length_append] at h; simp at h; omega⟩
theorem badR_odd {ts rs : List Int} (hl : rs.length = ts.length) (h2 : ts.length ≤ 25) {a : Nat} (ha : a < rs.length) {o : Int} (ho : o ∉ kindsL a) : BadR ts (rs.take a ++ [o] ++ rs.drop (a + 1)) := by
  refine ⟨by simp only [List.length_append, List.length_take, List.length_drop, List.length_cons, List.length_nil]; omega, by omega, fun ⟨_, hv⟩ => ho ?_⟩
  have := hv a (by simp only [List.length_append, List.length_take, List.length_drop, List.length_cons, List.length_nil]; omega)
  rw [Nat.zero_add] at this
  have e : at0 (rs.take a ++ [o] ++ rs.drop (a + 1)) a = o := by
    unfold at0
    rw [List.getD_eq_getElem?_getD, List.append_assoc, List.getElem?_append_right (by rw [List.length_take]; omega), List.length_take, Nat.min_eq_left (by omega), Nat.sub_self]
    rfl
  rwa [e] at this
theorem odd_no {a : Nat} {k : Nat} {o : Int} (h : [(0 : Int), 2, 5, 7 - 14 * ((a : Int).fmod 2), -1, 9][k]? = some o) : o ∉ kindsL a := by
  unfold kindsL
  rcases Nat.mod_two_eq_zero_or_one a with e | e
  · rw [fmod2, e] at h
    rw [if_neg (by omega)]
    match k, h with
    | 0, h => cases h; decide
    | 1, h => cases h; decide
    | 2, h => cases h; decide
    | 3, h => cases h; decide
    | 4, h => cases h; decide
    | 5, h => cases h; decide
    | k + 6, h => simp at h
  · rw [fmod2, e] at h
    rw [if_pos e]
    match k, h with
    | 0, h => cases h; decide
    | 1, h => cases h; decide
    | 2, h => cases h; decide
    | 3, h => cases h; decide
    | 4, h => cases h; decide
    | 5, h => cases h; decide
    | k + 6, h => simp at h
end VH

set_option Elab.async false
set_option linter.all false
set_option maxRecDepth 100000
set_option maxHeartbeats 4000000
/-! Lambdas that last: made, and known from then on. -/
namespace LM
open PySem PySem.Spec PyProof.Rows L2 LamX VL
theorem lamO_ne {f : Addr} {L : Lf} (ps : Array Value) : LamO f L ≠ .tbl ps := fun z => by
  unfold LamO at z
  cases z
theorem lamO_at {P : Program} {w : World} {H : Hp} {h : Heap} {f : Addr} {L : Lf} (hok : HOk P w H h) (e : H f = some (LamO f L)) : ∃ pm ctv : Value, h.get? f = some (PySem.W.kla_obj "<lambda>" L.qual L.params L.body L.scope L.cl pm L.c ctv) := (hok f _ e).1
section
variable {X : Cx} {pins : List (Addr × Obj)} {σ : L2.St} {H : Hp} {s : Shared}
theorem inv_lam {L : Lf} {o : Obj} {t' : Nat} {pm ctv : Value} (I : Inv X pins σ H s) (ho : o = PySem.W.kla_obj "<lambda>" L.qual L.params L.body L.scope L.cl pm L.c ctv) :
    Inv X pins σ (upd H s.heap.objs.size (LamO s.heap.objs.size L)) { s with heap := s.heap.push o, toks := t' } := by
  subst ho
  refine I.laid (a := s.heap.objs.size) (fun b u e => Heap.get?_push_of_some _ e) (Nat.le_refl _) ?_
  have e := Heap.get?_push_size s.heap (o := PySem.W.kla_obj "<lambda>" L.qual L.params L.body L.scope L.cl pm L.c ctv) rfl
  exact ⟨⟨pm, ctv, e⟩, ⟨_, e⟩, fun h1 h2 ⟨p, t, z⟩ st => ⟨p, t, st _ z⟩⟩
/-- the lambda is made: a table of one's own at P, the rest is kept -/
theorem lam_make3 {c P : Addr} {params : Arguments} {body : Expr} {scope : Scope} {pos : Pos} {E : Value → Shared → Prop} {Q : Value → Shared → Prop} (I : Inv X pins σ H s) (TB : TabB X.base X.mg c P) (hcode : X.env.code = .ref c)
    {ps : Array Value} (hP : H P = some (.tbl ps)) (ht : TriplesOk ps.toList) (ha : ∀ (pos : Pos) (cv : Value), codeAmong pos ps.toList = some cv → ∃ c, cv = .ref c ∧ H c = some (CodeO c (X.env.qual ++ "<lambda>"))) (hdef : defaultsOf params X.env = ([], [])) (hfree : ∀ y ∈ scope.names, y.2 = .free → ∃ c, X.env.cells.lookup y.1 = some c)
    (h : ∀ (f c' : Addr) (H1 : Hp) (s' : Shared) (qs : Array Value), Inv X pins σ H1 s' → (∀ b o, b ≠ P → H b = some o → H1 b = some o) → (∀ b o, H1 b = some o → b ≠ P → H b = some o ∨ H b = none) →
      H1 P = some (.tbl qs) → TriplesOk qs.toList → (∀ (pos : Pos) (cv : Value), codeAmong pos qs.toList = some cv → ∃ c2, cv = .ref c2 ∧ ((∃ pos, codeAmong pos ps.toList = some cv) ∨ c2 = c')) →
      H f = none → H1 f = some (LamO f ⟨X.env.qual ++ "<lambda>", params, body, scope, cloFrom X.env.cells scope.names [], c'⟩) → H1 c' = some (CodeO c' (X.env.qual ++ "<lambda>")) → (H c' = none ∨ ∃ pos, codeAmong pos ps.toList = some (.ref c')) → (∀ b, b ≠ P → b ≠ f → b ≠ c' → H1 b = H b) → f ≠ c' → Q (.ref f) s') :
    wpAny (model X.prog X.w) X.A (eval (.Lambda params body scope pos) X.env) Q E s := by
  refine PySem.W.kla_eval hdef ?_
  have bP : s.heap.BuiltinsAt X.mg P := TB.bm.keeps I.bk
  have hP' : s.heap.get? P = some { cls := .none, data := .fields ps } := I.hok P _ hP
  cases hc : codeAmong pos ps.toList with
  | none =>
    refine PySem.W.kla_makeFunction (mg := X.mg) (c := c) (P := P) (ps := ps) (closure_ok hfree) I.ok.glob (I.mod.glob.keeps I.bk) hcode (TB.code.keeps I.bk) hP' ht hc TB.gP bP fun c' ctv h' tk hx hge hlt hrec htb => ?_
    obtain ⟨c2, oc, vs, t, e2, hoc, hd, hv⟩ := hrec
    cases e2
    have hsz : s.heap.objs.size ≤ h'.objs.size := Nat.le_trans hge (Nat.le_of_lt hlt)
    have nC : H c' = none := I.hok.fresh hge
    have I1 := inv_table (t' := tk) (more := #[rawInt pos.line, rawInt pos.col, .ref c']) (h' := h') I hP (fun b o hb e => hx b o hb e) htb hge ⟨oc, vs, t, hoc, hd, hv⟩
    have nF := I1.hok.fresh (Nat.le_refl _)
    have I2 := inv_lam (L := ⟨X.env.qual ++ "<lambda>", params, body, scope, cloFrom X.env.cells scope.names [], c'⟩) (t' := tk) (pm := (X.mg "__name__").getD .none) (ctv := ctv) I1 rfl
    have nPc : P ≠ c' := ne_of_none hP nC
    have hF : H h'.objs.size = none := I.hok.fresh hsz
    have nPf : P ≠ h'.objs.size := ne_of_none hP hF
    have nfc : h'.objs.size ≠ c' := Nat.ne_of_gt hlt
    have eL : (ps ++ #[rawInt pos.line, rawInt pos.col, .ref c']).toList = ps.toList ++ [rawInt pos.line, rawInt pos.col, .ref c'] := by simp
    have at_ : ∀ b, b ≠ P → b ≠ h'.objs.size → b ≠ c' → upd (upd (upd H P (.tbl (ps ++ #[rawInt pos.line, rawInt pos.col, .ref c']))) c' (CodeO c' (X.env.qual ++ "<lambda>"))) h'.objs.size (LamO h'.objs.size ⟨X.env.qual ++ "<lambda>", params, body, scope, cloFrom X.env.cells scope.names [], c'⟩) b = H b := fun b h1 h2 h3 => by rw [upd_ne h2, upd_ne h3, upd_ne h1]
    refine h h'.objs.size c' _ _ (ps ++ #[rawInt pos.line, rawInt pos.col, .ref c']) I2 (fun b o hb e => ?_) (fun b o e hb => ?_) ?_ (by rw [eL]; exact PySem.TriplesOk_snoc _ _ _ _ ht) (fun p' cv hcv => ?_) hF upd_same ?_ (.inl nC) at_ nfc
    · rw [at_ b hb (ne_of_none e hF) (ne_of_none e nC)]
      exact e
    · by_cases h1 : b = h'.objs.size
      · exact .inr (h1 ▸ hF)
      · by_cases h2 : b = c'
        · exact .inr (h2 ▸ nC)
        · rw [at_ b hb h1 h2] at e
          exact .inl e
    · exact (upd_ne nPf).trans ((upd_ne nPc).trans upd_same)
    · rw [eL] at hcv
      rcases among_app _ ht hcv with z | z
      · obtain ⟨c0, e1, e2⟩ := ha p' cv z
        exact ⟨c0, e1, .inl ⟨_, z⟩⟩
      · exact ⟨c', z, .inr rfl⟩
    · exact (upd_ne nfc.symm).trans upd_same
  | some cv =>
    obtain ⟨c', e, hco⟩ := ha pos cv hc
    subst e
    refine PySem.W.kla_makeFunctionHit (mg := X.mg) (c := c) (P := P) (ps := ps) (closure_ok hfree) I.ok.glob (I.mod.glob.keeps I.bk) hcode (TB.code.keeps I.bk) hP' ht hc bP fun ctv h' tk hx hsz => ?_
    have I1 : Inv X pins σ H { s with heap := h', toks := tk } := I.kept hx
    have nF : H h'.objs.size = none := I1.hok.fresh (Nat.le_refl _)
    have I2 := inv_lam (L := ⟨X.env.qual ++ "<lambda>", params, body, scope, cloFrom X.env.cells scope.names [], c'⟩) (t' := tk) (pm := (X.mg "__name__").getD .none) (ctv := ctv) I1 rfl
    refine h h'.objs.size c' _ _ ps I2 (fun b o hb e => (upd_ne (ne_of_none e nF)).trans e) (fun b o e hb => ?_) ((upd_ne (ne_of_none hP nF)).trans hP) ht (fun p' cv hcv => ?_) nF upd_same ((upd_ne (ne_of_none hco nF)).trans hco) (.inr ⟨_, hc⟩) (fun b _ h2 _ => upd_ne h2) (ne_of_none hco nF).symm
    · by_cases h1 : b = h'.objs.size
      · exact .inr (h1 ▸ nF)
      · rw [upd_ne h1] at e
        exact .inl e
    · obtain ⟨c0, e1, e2⟩ := ha p' cv hcv
      exact ⟨c0, e1, .inl ⟨_, hcv⟩⟩
/-- what the making of a lambda makes of the heap -/
structure Made (P : Addr) (q : Str) (L : Addr → Lf) (H H1 : Hp) (ps qs : Array Value) (f c' : Addr) : Prop where
  keep : ∀ b o, b ≠ P → H b = some o → H1 b = some o
  tbl : H1 P = some (.tbl qs)
  ok : TriplesOk qs.toList
  am : ∀ (pos : Pos) (cv : Value), codeAmong pos qs.toList = some cv → ∃ c2, cv = .ref c2 ∧ ((∃ pos, codeAmong pos ps.toList = some cv) ∨ c2 = c')
  nf : H f = none
  lam : H1 f = some (LamO f (L c'))
  code : H1 c' = some (CodeO c' q)
  c : H c' = none ∨ ∃ pos, codeAmong pos ps.toList = some (.ref c')
  ne : f ≠ c'
def tLamE (P : Addr) (q : Str) (L : Addr → Lf) : TE := fun _ H Q => ∃ ps : Array Value, H P = some (.tbl ps) ∧ TriplesOk ps.toList ∧ (∀ (pos : Pos) (cv : Value), codeAmong pos ps.toList = some cv → ∃ c, cv = .ref c ∧ H c = some (CodeO c q)) ∧
  ∀ (f c' : Addr) (H1 : Hp) (qs : Array Value), Made P q L H H1 ps qs f c' → Q (.ref f) H1
theorem pe_lam {c P : Addr} {params : Arguments} {body : Expr} {scope : Scope} {pos : Pos} (TB : TabB X.base X.mg c P) (hcode : X.env.code = .ref c) (L : LamS X.env.scope scope) (hdef : defaultsOf params X.env = ([], []) := by rfl) :
    PE X (.Lambda params body scope pos) (tLamE P (X.env.qual ++ "<lambda>") fun c' => ⟨X.env.qual ++ "<lambda>", params, body, scope, cloFrom X.env.cells scope.names [], c'⟩) := by
  refine ⟨fun pins s σ H Q I h => ?_⟩
  obtain ⟨ps, hP, ht, ha, h⟩ := h
  exact lam_make3 I TB hcode hP ht ha hdef (L.has I.ok) fun f c' H1 s' qs I1 k1 _ t1 o1 a1 nf lf cf cn _ ne => ⟨.ref f, H1, I1, rfl, h f c' H1 qs ⟨k1, t1, o1, a1, nf, lf, cf, cn, ne⟩⟩
end
end LM

set_option Elab.async false
set_option linter.all false
set_option maxRecDepth 100000
set_option maxHeartbeats 4000000
/-! A lambda that lasts, called in a def that its maker calls. -/
namespace LM
open PySem PySem.Spec PyProof.Rows L2 LamX VL
/-- the lambda's context, with the exceptions of a kind of one's choice -/
def lamC (CX : CXT) (X : Cx) (A : Around) (outer : List Env) (s : Shared) (H : Hp) (E : XK) (scope : Scope) (f c' : Addr) : Cx :=
  { lamCx X A outer s H E scope f c' with xe := fun e s' => wpAny (model X.prog X.w) (A.deeper (lamEnv X scope s.heap.objs.size f c')) (leaving (lamEnv X scope s.heap.objs.size f c') e) (fun _ s'' => CX outer H s E e s'') (fun e' s'' => CX outer H s E e' s'') s' }
theorem inv_lamC {CX : CXT} {X : Cx} {A : Around} {outer : List Env} {s s1 : Shared} {H HZ : Hp} {E : XK} {scope : Scope} {f c' : Addr} {pins : List (Addr × Obj)} {σ : L2.St} (J : Inv (lamCx X A outer s H E scope f c') pins σ HZ s1) : Inv (lamC CX X A outer s H E scope f c') pins σ HZ s1 :=
  ⟨{ J.ok with }, J.os, J.bare, J.base, J.loc, J.cell, J.free, J.freeC, J.pin, J.hok, J.len⟩
theorem takesLam {X : Cx} {A : Around} {outer : List Env} {s : Shared} {H : Hp} {E : XK} {scope : Scope} {f c' : Addr} : L2N.Takes (lamC (L2N.CX X.prog X.w) X A outer s H E scope f c') (fun cls d _ H => E cls d H) := L2N.takes_of rfl rfl rfl rfl
section
variable {X : Cx} {pins : List (Addr × Obj)} {σ : L2.St} {H HZ : Hp} {s s1 : Shared}
/-- the lambda's start, the maker's cells known to stand -/
theorem lam_start3 {A : Around} {outer : List Env} {E : XK} {scope : Scope} {f c' : Addr} {h₁ : Heap} {tk : Nat} (I : Inv X pins σ H s) (L : LamS X.env.scope scope) (e0 : Env0 X.prog X.w X.K X.mg X.base A outer s1 HZ) (hd : A.handled = none)
    (cellK : ∀ {y : Str} {c : Addr} {v : Option Value}, X.env.cells.lookup y = some c → H c = none → s.heap.IsCell c v → h₁.IsCell c v) (cellF : ∀ {y : Str} {c : Addr} {v : Option Value}, X.env.cells.lookup y = some c → H c = none → s.heap.IsCell c v → HZ c = none)
    (hns : h₁.Ns s1.heap.objs.size fun y => ([] : List (Str × Value)).reverse.lookup y) (kp : ∀ b o, s1.heap.get? b = some o → h₁.get? b = some o) :
    Inv (lamCx X A outer s1 HZ E scope f c') [] σ HZ { s1 with heap := h₁, toks := tk } := by
  have hfree := L.has I.ok
  have cm : ∀ {y c}, (cloFrom X.env.cells scope.names []).lookup y = some c → X.env.cells.lookup y = some c := fun {y c} e => by
    rcases cloFrom_mem (PySem.mem_of_lookup e) with hm | ⟨h1, h2⟩
    · cases hm
    · obtain ⟨c1, hc⟩ := hfree _ h1 rfl
      have hc : X.env.cells.lookup y = some c1 := hc
      have e2 : c = c1 := by
        rw [h2, hc] <;> rfl
      rw [e2]
      exact hc
  have look : ∀ {y}, scope.names.lookup y = some .free → ∃ c, (cloFrom X.env.cells scope.names []).lookup y = some c := fun {y} hl => by
    have hy : (y, NameKind.free) ∈ scope.names := PySem.mem_of_lookup hl
    exact mem_lookup (cloFrom_has (cells := X.env.cells) (acc := []) hy)
  have noA : ∀ b : Addr, b ∉ (lamCx X A outer s1 HZ E scope f c').ex := fun b z => absurd (show b ∈ ([] : List Addr) from z) (by simp)
  refine ⟨⟨e0.mod, L.kind, rfl, rfl, Nat.le_refl _, fun y z c e1 e2 => I.ok.inj y z c (cm e1) (cm e2), fun y hy => ?_, fun y c z _ => ?_, fun _ => hd, Around.frames_deeper e0.frames, .inr ⟨rfl, rfl⟩, fun b z => absurd z (noA b), e0.bs, e0.bsz, fun b _ _ => noA b,
      fun b z => absurd z (noA b), e0.funs, e0.frf⟩,
    rfl, e0.bare, Un.kept kp, ⟨_, hns, fun i y v e1 e2 e3 => ?_⟩, fun y c e => ?_, e0.hok.fresh (Nat.le_refl _), fun y c e => ?_, fun q hq => absurd (show q ∈ ([] : List (Addr × Obj)) ++ [] from hq) (by simp), e0.hok.kept kp, I.len⟩
  · have hy : scope.names.lookup y = some .cell ∨ scope.names.lookup y = some .free := hy
    rcases hy with hy | hy
    · exact absurd rfl (L.own _ (PySem.mem_of_lookup hy)).2
    · exact look hy
  · have z : false = true := z
    cases z
  · have e3 : Vis scope y := e3
    rcases e3 with k | k | k
    · exact absurd rfl (L.own _ (PySem.mem_of_lookup k)).1
    · exact absurd rfl (L.own _ (PySem.mem_of_lookup k)).2
    · obtain ⟨m, hn, hl⟩ := I.loc
      have hvis : Vis X.env.scope y := (L.free _ (PySem.mem_of_lookup k) rfl).elim (fun k => .inr (.inl k)) (fun k => .inr (.inr k))
      obtain ⟨w', r, q⟩ := hl i y v e1 e2 hvis
      obtain ⟨c2, h2⟩ := look k
      refine ⟨w', r, .inr ⟨.inr k, c2, h2, ?_⟩⟩
      have c1 := cm h2
      rcases q with ⟨k', _⟩ | ⟨_, c3, e', z⟩
      · have k' : X.env.scope.names.lookup y = some .local := k'
        rcases L.free _ (PySem.mem_of_lookup k) rfl with k2 | k2 <;> rw [show X.env.scope.names.lookup y = _ from k2] at k' <;> cases k'
      · rw [c1] at e'
        cases e'
        exact cellK c1 (I.freeC y _ c1) z
  · obtain ⟨w', z⟩ := I.cell y c (cm e)
    exact ⟨w', cellK (cm e) (I.freeC y c (cm e)) z⟩
  · obtain ⟨v, z⟩ := I.cell y c (cm e)
    exact cellF (cm e) (I.freeC y c (cm e)) z
/-- x(), in the def that got the lambda, which stands at f -/
theorem pe_act3 {CXg : CXT} {Eg : XK} {Ng : List Str} {qg : Str} {sg : Scope} {g f c' : Addr} {cdg : Value} {params : Arguments} {body : Expr} {scope : Scope} {k i : Nat} {a : Str} {pn : List (Addr × Obj)} {xe : Value → Shared → Prop} {Ef : L2.St → XK} {tb : XK → TE} {p1 p2 : Pos}
    (I : Inv X pins σ H s) (L : LamS X.env.scope scope)
    (hbind : ∀ (pm ctv : Value), bindArgs (PySem.W.kla_fn "<lambda>" (X.env.qual ++ "<lambda>") params body scope (cloFrom X.env.cells scope.names []) pm (.ref c') ctv) ⟨[], []⟩ = pure [])
    (hx : ∀ σZ : L2.St, PassesAt (L2N.CX X.prog X.w) ((cxOf CXg X.prog X.w X.K X.mg X.base Ng qg sg g cdg X.A X.stack s H Eg).tr pn xe) σZ (Ef σZ)) (hr : Room (k + 1) (X.A.deeper (envOfC qg sg s.heap.objs.size g cdg)))
    (hbody : ∀ (E : XK) (A : Around) (outer : List Env) (s : Shared) (H : Hp), Room k (A.deeper (lamEnv X scope s.heap.objs.size f c')) → PE (lamC (L2N.CX X.prog X.w) X A outer s H E scope f c') body (tb E))
    (hN : Ng[i]? = some a) (hv : Vis sg a) (hd : (a == ("__debug__" : Str)) = false := by decide) (hcd : (a == ("__classdict__" : Str)) = false := by decide) :
    PE ((cxOf CXg X.prog X.w X.K X.mg X.base Ng qg sg g cdg X.A X.stack s H Eg).tr pn xe) (.Call (.Name a p1) [] [] p2)
      (fun σZ HZ Q => σZ[i]? = some (some (.ref f)) ∧ HZ f = some (LamO f ⟨X.env.qual ++ "<lambda>", params, body, scope, cloFrom X.env.cells scope.names [], c'⟩) ∧ HZ c' = some (CodeO c' (X.env.qual ++ "<lambda>")) ∧ tb (Ef σZ) σ HZ Q) := by
  refine ⟨fun pinsZ sZ σZ HZ Q IZ h => ?_⟩
  obtain ⟨hs, hf, hc, ht⟩ := h
  refine wpAny_Call_Name_kw (thn ((pe_var (pos := p1) (i := i) hN hv hd hcd).run pinsZ sZ σZ HZ (fun v H1 => v = .ref f ∧ H1 = HZ) IZ ⟨.ref f, hs, rfl, rfl⟩) fun u s1 ⟨v, H1, I1, r1, q1⟩ => ?_)
  obtain ⟨ev, eH⟩ := q1
  subst ev
  rw [eH] at I1
  obtain rfl : u = Value.ref f := r1
  obtain ⟨pm, ctv, of1⟩ := lamO_at I1.hok hf
  refine PySem.W.callWith_F0 ⟨_, _, _, _, of1⟩ ?_
  have un : Un (frs X.stack) [] H HZ s.heap s1.heap := I1.base
  obtain ⟨⟨oc, vs, t, hoc, hdc, hvc⟩, _, _⟩ := I1.hok c' _ hc
  have rc : codeAny (model X.prog X.w) (X.A.deeper (envOfC qg sg s.heap.objs.size g cdg)) (.call (.ref f) ⟨[], []⟩) (CR (L2N.CX X.prog X.w) (envOfC qg sg s.heap.objs.size g cdg :: X.stack) X.prog X.w HZ s1 Q (Ef σZ)) s1 := by
    refine PySem.W.kla_callFunE hr.depth of1 rfl L.co L.gen rfl ⟨c', oc, vs, t, rfl, hoc, hdc, hvc⟩ ?_
    rw [hbind]
    refine wpAny_pure (wpAny_newFunctionEnv (fun y hy => (L.own y hy).2) (fun y hy => absurd hy (by simp)) (fun h₁ hns hsb => ⟨I1.nolimit.fresh _ hsb, ?_⟩) L.kind)
    show codeAny _ _ (.expr body (lamEnv X scope s1.heap.objs.size f c')) _ _
    have kp : ∀ b o, s1.heap.get? b = some o → h₁.get? b = some o := fun b o e => hsb.extBut b o (Nat.ne_of_lt (Heap.lt_size e)) (Heap.get?_push_of_some _ e)
    have J0 : Inv (lamCx X (X.A.deeper (envOfC qg sg s.heap.objs.size g cdg)) (envOfC qg sg s.heap.objs.size g cdg :: X.stack) s1 HZ (Ef σZ) scope f c') [] σ HZ { s1 with heap := h₁, toks := s1.toks + ([] : List (Str × Value)).length } :=
      lam_start2 I L I1.env0 hr.hd un hns kp
    have J := inv_lamC (CX := L2N.CX X.prog X.w) J0
    refine PySem.W.kla_codeExpr (wpAny_mono ((hbody _ _ _ s1 HZ (hr.deeper _)).run [] _ _ HZ Q J ht) (fun v s' hq => ?_) fun e s' hq => hq)
    obtain ⟨w', H', J', rv, q⟩ := hq
    exact ⟨w', H', J'.os, J'.bare, J'.base, J'.hok, rv, q⟩
  refine wpAny_call (codeAny_mono rc fun r s' hq => ?_)
  cases r with
  | error e => exact hx σZ pinsZ HZ s1 e s' I1 hq
  | ok fl =>
    cases fl with
    | ret u => exact I1.after hq
    | next => exact False.elim hq
    | brk => exact False.elim hq
    | cont => exact False.elim hq
/-- the same, the def called at a later state, from the same frames -/
theorem pe_act4 {CXg : CXT} {Eg : XK} {Ng : List Str} {qg : Str} {sg : Scope} {g f c' : Addr} {cdg : Value} {params : Arguments} {body : Expr} {scope : Scope} {k i : Nat} {a : Str} {pn : List (Addr × Obj)} {xe : Value → Shared → Prop} {s0 : Shared} {H0 : Hp} {Ef : L2.St → XK} {tb : XK → TE} {p1 p2 : Pos}
    (I : Inv X pins σ H0 s0) (cK : ∀ {y : Str} {c : Addr} {v : Option Value}, X.env.cells.lookup y = some c → H0 c = none → s0.heap.IsCell c v → s.heap.IsCell c v ∧ H c = none) (L : LamS X.env.scope scope)
    (hbind : ∀ (pm ctv : Value), bindArgs (PySem.W.kla_fn "<lambda>" (X.env.qual ++ "<lambda>") params body scope (cloFrom X.env.cells scope.names []) pm (.ref c') ctv) ⟨[], []⟩ = pure [])
    (hx : ∀ σZ : L2.St, PassesAt (L2N.CX X.prog X.w) ((cxOf CXg X.prog X.w X.K X.mg X.base Ng qg sg g cdg X.A X.stack s H Eg).tr pn xe) σZ (Ef σZ)) (hr : Room (k + 1) (X.A.deeper (envOfC qg sg s.heap.objs.size g cdg)))
    (hbody : ∀ (E : XK) (A : Around) (outer : List Env) (s : Shared) (H : Hp), Room k (A.deeper (lamEnv X scope s.heap.objs.size f c')) → PE (lamC (L2N.CX X.prog X.w) X A outer s H E scope f c') body (tb E))
    (hN : Ng[i]? = some a) (hv : Vis sg a) (hd : (a == ("__debug__" : Str)) = false := by decide) (hcd : (a == ("__classdict__" : Str)) = false := by decide) :
    PE ((cxOf CXg X.prog X.w X.K X.mg X.base Ng qg sg g cdg X.A X.stack s H Eg).tr pn xe) (.Call (.Name a p1) [] [] p2)
      (fun σZ HZ Q => σZ[i]? = some (some (.ref f)) ∧ HZ f = some (LamO f ⟨X.env.qual ++ "<lambda>", params, body, scope, cloFrom X.env.cells scope.names [], c'⟩) ∧ HZ c' = some (CodeO c' (X.env.qual ++ "<lambda>")) ∧ tb (Ef σZ) σ HZ Q) := by
  refine ⟨fun pinsZ sZ σZ HZ Q IZ h => ?_⟩
  obtain ⟨hs, hf, hc, ht⟩ := h
  refine wpAny_Call_Name_kw (thn ((pe_var (pos := p1) (i := i) hN hv hd hcd).run pinsZ sZ σZ HZ (fun v H1 => v = .ref f ∧ H1 = HZ) IZ ⟨.ref f, hs, rfl, rfl⟩) fun u s1 ⟨v, H1, I1, r1, q1⟩ => ?_)
  obtain ⟨ev, eH⟩ := q1
  subst ev
  rw [eH] at I1
  obtain rfl : u = Value.ref f := r1
  obtain ⟨pm, ctv, of1⟩ := lamO_at I1.hok hf
  refine PySem.W.callWith_F0 ⟨_, _, _, _, of1⟩ ?_
  have un : Un (frs X.stack) [] H HZ s.heap s1.heap := I1.base
  obtain ⟨⟨oc, vs, t, hoc, hdc, hvc⟩, _, _⟩ := I1.hok c' _ hc
  have rc : codeAny (model X.prog X.w) (X.A.deeper (envOfC qg sg s.heap.objs.size g cdg)) (.call (.ref f) ⟨[], []⟩) (CR (L2N.CX X.prog X.w) (envOfC qg sg s.heap.objs.size g cdg :: X.stack) X.prog X.w HZ s1 Q (Ef σZ)) s1 := by
    refine PySem.W.kla_callFunE hr.depth of1 rfl L.co L.gen rfl ⟨c', oc, vs, t, rfl, hoc, hdc, hvc⟩ ?_
    rw [hbind]
    refine wpAny_pure (wpAny_newFunctionEnv (fun y hy => (L.own y hy).2) (fun y hy => absurd hy (by simp)) (fun h₁ hns hsb => ⟨I1.nolimit.fresh _ hsb, ?_⟩) L.kind)
    show codeAny _ _ (.expr body (lamEnv X scope s1.heap.objs.size f c')) _ _
    have kp : ∀ b o, s1.heap.get? b = some o → h₁.get? b = some o := fun b o e => hsb.extBut b o (Nat.ne_of_lt (Heap.lt_size e)) (Heap.get?_push_of_some _ e)
    have J0 : Inv (lamCx X (X.A.deeper (envOfC qg sg s.heap.objs.size g cdg)) (envOfC qg sg s.heap.objs.size g cdg :: X.stack) s1 HZ (Ef σZ) scope f c') [] σ HZ { s1 with heap := h₁, toks := s1.toks + ([] : List (Str × Value)).length } :=
      lam_start3 I L I1.env0 hr.hd (fun {y c v} e n z => by
        obtain ⟨⟨o, ho, hdo⟩, n2⟩ := cK e n z
        obtain ⟨sl, q⟩ := un.any ho n2 (by simp)
        exact ⟨_, kp _ _ q, hdo⟩) (fun {y c v} e n z => by
        obtain ⟨⟨o, ho, hdo⟩, n2⟩ := cK e n z
        exact un.free c o ho n2 (by simp)) hns kp
    have J := inv_lamC (CX := L2N.CX X.prog X.w) J0
    refine PySem.W.kla_codeExpr (wpAny_mono ((hbody _ _ _ s1 HZ (hr.deeper _)).run [] _ _ HZ Q J ht) (fun v s' hq => ?_) fun e s' hq => hq)
    obtain ⟨w', H', J', rv, q⟩ := hq
    exact ⟨w', H', J'.os, J'.bare, J'.base, J'.hok, rv, q⟩
  refine wpAny_call (codeAny_mono rc fun r s' hq => ?_)
  cases r with
  | error e => exact hx σZ pinsZ HZ s1 e s' I1 hq
  | ok fl =>
    cases fl with
    | ret u => exact I1.after hq
    | next => exact False.elim hq
    | brk => exact False.elim hq
    | cont => exact False.elim hq
end
end LM

set_option Elab.async false
set_option linter.all false
set_option maxRecDepth 100000
set_option maxHeartbeats 4000000
/-! A comprehension whose tests know the state of the def around it. -/
namespace LM
open PySem PySem.Spec PyProof.Rows L2 LamX VL
section
variable {X : Cx} {pins : List (Addr × Obj)} {σ : L2.St} {H : Hp} {s : Shared}
/-- a comprehension; its tests know the maker's state -/
theorem pe_lcL {elt tg iter : Expr} {ifs : List Expr} {scope : Scope} {own : List (Str × Nat)} {pos : Pos} {wi : TI} {g : TG} {tt : L2.St → TT} {te : TE} (hc : X.calm = true) (hN : X.N.Nodup) (hi : PI X tg iter wi) (ok : BlkOk X.N X.env.scope scope own)
    (hg : ∀ (s : Shared) (H : Hp) (C : Addr) (cl : List (Str × Addr)) (fp : List Addr), PG (X.blk s H scope (compEnvC scope cl C X.env) fp) tg g)
    (ht : ∀ (pins : List (Addr × Obj)) (σ : L2.St) (s : Shared) (H : Hp) (C : Addr) (cl : List (Str × Addr)) (fp : List Addr), Inv X pins σ H s → (∀ b ∈ fp, FpOk X pins H b) → PTs (X.blk s H scope (compEnvC scope cl C X.env) fp) ifs (tt σ))
    (he : ∀ (s : Shared) (H : Hp) (C : Addr) (cl : List (Str × Addr)) (fp : List Addr), PE (X.blk s H scope (compEnvC scope cl C X.env) fp) elt te) (hs : ∀ x, foldedSetIterable iter X.env x = pure x := by intro _; rfl) :
    PE X (.ListComp elt [⟨tg, iter, ifs, 0⟩] scope pos) (fun σ H Q => tLc wi g (tt σ) te (own.map (·.2)) σ H Q) := by
  refine ⟨fun pins s σ H Q I h => ?_⟩
  rw [eval_ListComp]
  have hfree : ∀ y ∈ scope.names, y.2 = .free → ∃ c, X.env.cells.lookup y.1 = some c := fun y hy e => (ok.free y hy e).elim (fun k => I.ok.has _ (.inl k)) fun k => I.ok.has _ (.inr k)
  refine wpAny_comprehension_free (use := Option.none) rfl hs (closure_ok hfree) ok.kind (fun y hy e => by rw [ok.uniq y hy, e]) (thn (hi.run pins s σ H _ I h) fun xv s1 hx => thn hx fun itv s2 h2 => ?_)
  obtain ⟨it, fp, tn, J, H2, rfl, I2, T, st2, f2, q⟩ := h2
  have hDn : H2 s2.heap.objs.size = none := I2.hok.fresh (Nat.le_refl _)
  obtain ⟨W, ⟨m0, w0⟩, turn⟩ := q _ hDn
  refine wpAny_newObj_type (newEnv_comp ?_) (by show 0 ≤ sizeLine; decide)
  -- the list's own place, the heap with it
  have lt2 : ∀ b ∈ fp, b < s2.heap.objs.size := fun b hb => let ⟨_, e, _⟩ := T.obj _ _ st2 b hb; Heap.lt_size e
  have I3 : Inv X pins σ (upd H2 s2.heap.objs.size (.lst [])) { s2 with heap := s2.heap.push { cls := .type "list", data := .seq ([] : List Value).toArray } } :=
    I2.laid (t' := s2.toks) (fun b o e => Heap.get?_push_of_some _ e) (Nat.le_refl _) ⟨Nat.zero_le _, [], 0, .nil, Heap.get?_push_size _ rfl⟩
  have st3 : tn 0 (s2.heap.push { cls := .type "list", data := .seq ([] : List Value).toArray }) := T.keep _ _ _ st2 fun b _ o e => Heap.get?_push_of_some _ e
  have f3 : ∀ b ∈ fp, FpOk X pins (upd H2 s2.heap.objs.size (.lst [])) b ∧ b < (s2.heap.push { cls := .type "list", data := .seq ([] : List Value).toArray }).objs.size := fun b hb =>
    ⟨⟨by rw [upd_ne (Nat.ne_of_lt (lt2 b hb))]; exact (f2 b hb).1, (f2 b hb).2⟩, by rw [Heap.size_push]; exact Nat.lt_succ_of_lt (lt2 b hb)⟩
  generalize hD : s2.heap.objs.size = D at hDn w0 turn I3 f3 ⊢
  generalize hs3 : ({ s2 with heap := s2.heap.push { cls := .type "list", data := .seq ([] : List Value).toArray } } : Shared) = s3 at I3
  have hh3 : s2.heap.push { cls := .type "list", data := .seq ([] : List Value).toArray } = s3.heap := by rw [← hs3]
  rw [hh3] at st3 f3
  have I4 := block_start I3 ok hN f3
  have pg := fun C cl => hg s3 (upd H2 D (.lst [])) C cl fp
  have pt := fun C cl => ht pins σ s3 (upd H2 D (.lst [])) C cl fp I3 fun b hb => (f3 b hb).1
  have pe := fun C cl => he s3 (upd H2 D (.lst [])) C cl fp
  show codeAny _ _ (.compStart (.ListComp elt [⟨tg, iter, ifs, 0⟩] scope pos) 0 (.ref it) (.ref D) (compEnvC scope (cellsFrom (s3.heap.objs.size + 1) scope.names (cloFrom X.env.cells scope.names [])) s3.heap.objs.size X.env))
    (compPost (model X.prog X.w) X.A X.xe Option.none (EP X pins σ Q) (.ref D) s3.heap.objs.size) { s3 with heap := pushCells (s3.heap.push { cls := .type "dict", data := .dict #[] }) scope.names }
  generalize hce : compEnvC scope (cellsFrom (s3.heap.objs.size + 1) scope.names (cloFrom X.env.cells scope.names [])) s3.heap.objs.size X.env = ce at I4 ⊢
  have cL : ce.locals = s3.heap.objs.size := by rw [← hce]; rfl
  have pg' : PG (X.blk s3 (upd H2 D (.lst [])) scope ce fp) tg g := by rw [← hce]; exact pg _ _
  have pt' : PTs (X.blk s3 (upd H2 D (.lst [])) scope ce fp) ifs (tt σ) := by rw [← hce]; exact pt _ _
  have pe' : PE (X.blk s3 (upd H2 D (.lst [])) scope ce fp) elt te := by rw [← hce]; exact pe _ _
  clear pg pt pe
  have nfp : ∀ b ∈ fp, (upd H2 D (.lst [])) b = none := fun b hb => (f3 b hb).1.1
  generalize upd H2 D (.lst []) = H3 at I3 I4 pg' pt' pe' w0 nfp f3
  have st4 : tn 0 (pushCells (s3.heap.push { cls := .type "dict", data := .dict #[] }) scope.names) := T.keep _ _ _ st3 fun b _ o e => pushCells_keeps _ _ _ _ (Heap.get?_push_of_some _ e)
  -- the walk's objects within the block
  have stat : ∀ {σ' : L2.St} {H' : Hp} {s' : Shared}, Inv (X.blk s3 H3 scope ce fp) [] σ' H' s' → (∀ b ∈ fp, H' b = none) → ∀ b ∈ fp, FpOk (X.blk s3 H3 scope ce fp) [] H' b := fun {σ' H' s'} I' hn b hb =>
    ⟨hn b hb, (I'.ok.exf b hb).1, I'.ok.exfs b hb, .inl hb, fun x c e => (I'.ok.exf b hb).2 x c e, fun p hp => absurd (show p ∈ ([] : List (Addr × Obj)) ++ [] from hp) (by simp)⟩
  have loop : codeAny (model X.prog X.w) X.A (.compLoop (.ListComp elt [⟨tg, iter, ifs, 0⟩] scope pos) 0 (.ref it) (.ref D) ce) (compPost (model X.prog X.w) X.A X.xe Option.none (EP X pins σ Q) (.ref D) s3.heap.objs.size)
      { s3 with heap := pushCells (s3.heap.push { cls := .type "dict", data := .dict #[] }) scope.names } := by
    refine compLoop_any (fun n s' => ∃ i H', Inv (X.blk s3 H3 scope ce fp) [] (wipe σ (own.map (·.2))) H' s' ∧ tn i s'.heap ∧ (∀ b ∈ fp, H' b = none) ∧ W i n H') ?_ m0 ⟨0, H3, I4, st4, nfp, w0⟩
    rintro n s5 ⟨i, H5, I5, st5, n5, w5⟩
    rcases turn i n H5 w5 with ⟨stop, qq⟩ | ⟨go, Nx, hNx, step⟩
    · refine thnF (T.done (X.blk s3 H3 scope ce fp) rfl rfl rfl hc i [] s5 _ H5 (fun _ _ => False) I5 (stat I5 n5) st5 stop) fun r s6 ⟨hr, I6⟩ => ?_
      subst hr
      have I7 : Inv X pins σ H5 s6 := I3.call' (ch := fp) I6.os I6.base I6.hok I6.bare fun b hb => ⟨(f3 b hb).1.2.2.2.1, (f3 b hb).1.2.1, (f3 b hb).1.2.2.2.2.1, (f3 b hb).1.2.2.2.2.2⟩
      have nC : H5 s3.heap.objs.size = none := by rw [← cL]; exact I6.free
      obtain ⟨m, hn, _⟩ := I6.loc
      have hn' : s6.heap.Ns s3.heap.objs.size m := by rw [← cL]; exact hn
      obtain ⟨g0, g1, g2, g3, g4, g5⟩ := I3.fpOk (Nat.le_refl _) nC
      exact ⟨m, hn', fun h'' sb => ⟨.ref D, H5, I7.turned (t' := s6.toks) (fun b o hb e => (sb.2 b hb).trans e) g0 g1 g3 g4 g5, rfl, qq⟩⟩
    · refine thnF (T.item (X.blk s3 H3 scope ce fp) rfl rfl rfl hc i [] s5 _ H5 (fun _ _ => False) I5 (stat I5 n5) st5 go) fun r s6 ⟨u, hr, h6⟩ => ?_
      subst hr
      refine thnF h6 fun _ s7 ⟨x, H7, I7, r7, y7, st7, n7⟩ => ?_
      refine thnF (pg'.run _ s7 _ H7 x u _ (I7.pinned (stat I7 n7) (T.obj _ _ st7)) r7 (step x H7 y7)) fun _ s8 ⟨σ8, H8, I8, hw8, q8⟩ => ?_
      refine thnF (pt'.run _ s8 σ8 H8 _ I8 q8) fun b s9 ⟨H9, I9, q9⟩ => ?_
      have next : ∀ {s' : Shared} {H' : Hp}, Inv (X.blk s3 H3 scope ce fp) ([] ++ pinsAt fp s7.heap) σ8 H' s' → Nx H' → ∃ m, m < n ∧ ∃ i H', Inv (X.blk s3 H3 scope ce fp) [] (wipe σ (own.map (·.2))) H' s' ∧ tn i s'.heap ∧ (∀ b ∈ fp, H' b = none) ∧ W i m H' := fun {s' H'} I' nx => by
        obtain ⟨m', hm, w'⟩ := hNx H' nx
        have kept : ∀ b ∈ fp, ∀ o, s7.heap.get? b = some o → s'.heap.get? b = some o ∧ H' b = none := fun b hb o e =>
          let z := I'.pin (b, o) (List.mem_append_right _ (List.mem_append_right _ (mem_pinsAt hb e)))
          ⟨z.1, z.2.1⟩
        refine ⟨m', hm, i + 1, H', (I'.unpinned (pins := [])).weak (by rw [← hw8, wipe_length]) (fun j v e => by rw [← hw8] at e; exact (wipe_some e).1), T.keep _ _ _ st7 fun b hb o e => (kept b hb o e).1, fun b hb => ?_, w'⟩
        obtain ⟨o, e, _⟩ := T.obj _ _ st7 b hb
        exact (kept b hb o e).2
      cases b with
      | false =>
        simp only [Bool.false_eq_true, if_false] at q9 ⊢
        exact next I9 q9
      | true =>
        simp only [if_true] at q9 ⊢
        refine thnF (pe'.run _ s9 σ8 H9 _ I9 q9) fun z s10 ⟨yv, H10, I10, r10, acc, hD10, hz10, nx⟩ => ?_
        exact app_ok (X := X.blk s3 H3 scope ce fp) I10 hD10 hz10 r10 fun s11 I11 => next I11 nx
  exact codeAny_compStart_list loop (T.self X.A 0 _ _ _ st4 loop)
end
end LM

set_option Elab.async false
set_option linter.all false
set_option maxRecDepth 100000
set_option maxHeartbeats 4000000
/-! lambda: .. by values. -/
namespace LM
open PySem PySem.Spec PyProof.Rows L2 LamX VL
section
variable {K : PySem.W.Frag} {cl : Str → Option Addr} {F G H H1 : Hp} {σ : L2.St} {al : List Addr} {sl : Sl} {st : Sto} {P f c' : Addr} {q : Str} {L : Addr → Lf} {ps qs : Array Value} {k : Nat}
theorem SOk.made (S : SOk K cl F G H σ al sl st) {ls : List (Addr × Lf)} (hk : st[k]? = some (.tab P q ls)) (hl : ∀ x ∈ ls, G x.1 = some (LamO x.1 x.2) ∧ G x.2.c = some (CodeO x.2.c q)) (hLc : ∀ c, (L c).c = c) (hP : al[k]? = some P) (hps : H P = some (.tbl ps)) (fP : F P = none) (ha : ∀ (pos : Pos) (cv : Value), codeAmong pos ps.toList = some cv → ∃ c, cv = .ref c ∧ G c = some (CodeO c q)) (M : Made P q L H H1 ps qs f c') :
    ∃ F1 G1, SOk K cl F1 G1 H1 σ al sl (st.set k (.tab P q (ls ++ [(f, L c')]))) ∧ Gr F G al st F1 G1 al (st.set k (.tab P q (ls ++ [(f, L c')]))) ∧ G1 f = some (LamO f (L c')) ∧ G1 c' = some (CodeO c' q) := by
  have gh := S.gf.trans S.fh
  have gc : H c' = none ∨ G c' = some (CodeO c' q) := M.c.imp_right fun ⟨pos, e⟩ => by
    obtain ⟨c2, e1, e2⟩ := ha pos _ e
    cases e1
    exact e2
  have nPf : P ≠ f := ne_of_none hps M.nf
  have nPc : P ≠ c' := fun z => by
    rcases gc with e | e
    · rw [← z, hps] at e; cases e
    · have := gh _ _ e
      rw [← z, hps] at this
      exact codeO_ne ps (Option.some.inj this).symm
  have Ff : F f = none := S.fh.free M.nf
  have Gf : G f = none := gh.free M.nf
  have nfc := M.ne
  have up : ∀ (A : Hp), A f = none → (A c' = none ∨ A c' = some (CodeO c' q)) → Same A (upd (upd A c' (CodeO c' q)) f (LamO f (L c'))) := fun A h1 h2 b o e => by
    rw [upd_ne (ne_of_none e h1)]
    by_cases hb : b = c'
    · subst hb
      rcases h2 with z | z
      · rw [e] at z; cases z
      · rw [upd_same, ← z, e]
    · rw [upd_ne hb]; exact e
  have Gc : G c' = none ∨ G c' = some (CodeO c' q) := gc.imp_left fun e => gh.free e
  have Fc : F c' = none ∨ F c' = some (CodeO c' q) := gc.imp (fun e => S.fh.free e) fun e => S.gf _ _ e
  have sG := up G Gf Gc
  have sF := up F Ff Fc
  have g_f : (upd (upd G c' (CodeO c' q)) f (LamO f (L c'))) f = some (LamO f (L c')) := upd_same
  have g_c : (upd (upd G c' (CodeO c' q)) f (LamO f (L c'))) c' = some (CodeO c' q) := (upd_ne nfc.symm).trans upd_same
  have fP1 : (upd (upd F c' (CodeO c' q)) f (LamO f (L c'))) P = none := by rw [upd_ne nPf, upd_ne nPc]; exact fP
  refine ⟨upd (upd F c' (CodeO c' q)) f (LamO f (L c')), upd (upd G c' (CodeO c' q)) f (LamO f (L c')), ⟨same_upd (same_upd S.gf), fun b u e => ?_, fun i x h => ?_, S.len, fun j d h => ?_, S.nd, fun j b h => ?_, by rw [List.length_set]; exact S.cnt⟩, ⟨sF, sG, fun b u e => ?_, fun _ _ h => h, fun j h => ?_⟩, g_f, g_c⟩
  · by_cases h1 : b = f
    · subst h1; rw [upd_same] at e; rw [M.lam]; exact e
    · rw [upd_ne h1] at e
      by_cases h2 : b = c'
      · subst h2; rw [upd_same] at e; rw [M.code]; exact e
      · rw [upd_ne h2] at e
        exact M.keep b u (fun z => by rw [z, fP] at e; cases e) (S.fh _ _ e)
  · obtain ⟨v, h1, h2⟩ := S.slots i x h
    exact ⟨v, h1, h2.mono sG⟩
  · by_cases hj : j = k
    · subst hj
      rw [List.getElem?_set_self (List.getElem?_eq_some_iff.mp hk).1] at h
      cases h
      refine ⟨P, hP, fP1, rfl, fun x hx => ?_, qs, M.tbl, M.ok, fun pos cv hc => ?_⟩
      · rcases List.mem_append.mp hx with hx | hx
        · exact ⟨sG _ _ (hl x hx).1, sG _ _ (hl x hx).2⟩
        · rw [List.mem_singleton.mp hx]
          exact ⟨g_f, by rw [hLc]; exact g_c⟩
      obtain ⟨c2, e1, e2⟩ := M.am pos cv hc
      rcases e2 with ⟨p2, e2⟩ | e2
      · obtain ⟨c3, z1, z2⟩ := ha p2 cv e2
        exact ⟨c3, z1, sG _ _ z2⟩
      · subst e2
        exact ⟨c2, e1, g_c⟩
    · rw [List.getElem?_set_ne (Ne.symm hj)] at h
      obtain ⟨a, h1, h2⟩ := S.cells j d h
      refine ⟨a, h1, ?_⟩
      obtain ⟨o, ho⟩ := S.live j a h1
      have aP : a ≠ P := fun z => hj (S.nd j k P (z ▸ h1) hP)
      have af : a ≠ f := fun z => by rw [z, M.nf] at ho; cases ho
      have ac : H c' = none → a ≠ c' := fun n z => by rw [z, n] at ho; cases ho
      refine h2.mono sF sG (fun _ u e => M.keep a u aP e) (fun e => ?_) (fun _ e => ?_) fun hd => ?_
      · rw [upd_ne af]
        by_cases hc : a = c'
        · subst hc
          rcases gc with z | z
          · exact (ac z rfl).elim
          · rw [S.gf _ _ z] at e; cases e
        · rw [upd_ne hc]; exact e
      · rw [upd_ne af]
        by_cases hc : a = c'
        · subst hc
          rcases gc with z | z
          · exact (ac z rfl).elim
          · rw [z] at e; cases e
        · rw [upd_ne hc]; exact e
      · subst hd
        obtain ⟨_, ds, e, dd⟩ := h2
        exact ⟨ds, M.keep a _ aP e, dd⟩
  · obtain ⟨o, ho⟩ := S.live j b h
    by_cases hb : b = P
    · exact ⟨_, hb ▸ M.tbl⟩
    · exact ⟨o, M.keep b o hb ho⟩
  · by_cases h1 : b = f
    · exact .inr (.inl (h1 ▸ Ff))
    · rw [upd_ne h1] at e
      by_cases h2 : b = c'
      · subst h2
        rw [upd_same] at e
        rcases gc with z | z
        · exact .inr (.inl (S.fh.free z))
        · exact .inl (z.trans e)
      · rw [upd_ne h2] at e
        exact .inl e
  · by_cases hj : j = k
    · rw [hj, hk] at h; cases h
    · rw [List.getElem?_set_ne (Ne.symm hj)]; exact h
/-- lambda: .., by values: a thing known by its place; the table's cell tells what it is -/
def wLam (k : Nat) (P : Addr) (q : Str) (L : Addr → Lf) : WE := fun sl st R => ∃ ls, st[k]? = some (.tab P q ls) ∧ ∀ (f c' : Addr), R (.v (.opq f)) (st.set k (.tab P q (ls ++ [(f, L c')])))
theorem se_lam (hLc : ∀ c, (L c).c = c) : SE K cl (tLamE P q L) (wLam k P q L) := by
  intro sl st R hw F G H σ al S Q d
  obtain ⟨ls, hk, hR⟩ := hw
  obtain ⟨a, ha, fP, rfl, hl, ps, hps, ht, hc⟩ := S.cells k _ hk
  refine ⟨ps, hps, ht, fun pos cv e => (hc pos cv e).imp fun c z => ⟨z.1, S.fh _ _ (S.gf _ _ z.2)⟩, fun f c' H1 qs M => ?_⟩
  obtain ⟨F1, G1, S1, g1, lf, cf⟩ := SOk.made S hk hl hLc ha hps fP hc M
  exact d _ _ _ _ _ _ (hR f c') g1 S1 (.opq f)
theorem q_lam {X : Cx} {c P : Addr} {params : Arguments} {body : Expr} {scope : Scope} {pos : Pos} (k : Nat) (TB : TabB X.base X.mg c P) (hcode : X.env.code = .ref c) (L : LamS X.env.scope scope) (hdef : defaultsOf params X.env = ([], []) := by rfl) (hk : X.K = K := by rfl) :
    QE cl K X (.Lambda params body scope pos) (tLamE P (X.env.qual ++ "<lambda>") fun c' => ⟨X.env.qual ++ "<lambda>", params, body, scope, cloFrom X.env.cells scope.names [], c'⟩) (wLam k P (X.env.qual ++ "<lambda>") fun c' => ⟨X.env.qual ++ "<lambda>", params, body, scope, cloFrom X.env.cells scope.names [], c'⟩) :=
  ⟨hk, pe_lam TB hcode L hdef, se_lam fun _ => rfl⟩
end
end LM

set_option Elab.async false
set_option linter.all false
set_option maxRecDepth 100000
set_option maxHeartbeats 4000000
/-! try: x() except E as e: ..; x is a lambda that the def got, its call raises. -/
namespace LM
open PySem PySem.Spec PyProof.Rows L2 LamX VL VH VX
/-- what a call x() of the lambda at f is, in the def that got it -/
def ActP (X : Cx) (y : Str) (j : Nat) (f c' : Addr) (lo : HO) (q : Str) (tl : XK → Hp → VK → Prop) : Prop :=
  ∀ (pn : List (Addr × Obj)) (xe : Value → Shared → Prop) (Ef : L2.St → XK) (p1 p2 : Pos), (∀ σZ : L2.St, PassesAt (L2N.CX X.prog X.w) (X.tr pn xe) σZ (Ef σZ)) →
    PE (X.tr pn xe) (.Call (.Name y p1) [] [] p2) (fun σZ HZ Q => σZ[j]? = some (some (.ref f)) ∧ HZ f = some lo ∧ HZ c' = some (CodeO c' q) ∧ tl (Ef σZ) HZ Q)
def tTryL (K : PySem.W.Frag) (c : Value) (i j : Nat) (ts : Addr → Value → Option Addr → TS) (Wout : WX) (f c' : Addr) (lo : HO) (q : Str) (tl : XK → Hp → VK → Prop) : TS := fun D σ H =>
  tDrop (fun σZ HZ Q => σZ[j]? = some (some (.ref f)) ∧ HZ f = some lo ∧ HZ c' = some (CodeO c' q) ∧ tl (fun cls d H => wAs K c i ts Wout D cls d σZ H) HZ Q) D σ H
def wTryL (K : PySem.W.Frag) (cl : Str → Option Addr) (c : Value) (i j : Nat) (ws : Addr → Value → Option Addr → WS) (f c' : Addr) (lo : HO) (q : Str) (PB : Hp → Prop) (cn : Str) (ns : List Str) (qs : List PV) : WS := fun D sl st =>
  sl[j]? = some (some (.o (.ref f))) ∧ (∃ (k : Nat) (B : Hp), st[k]? = some (Cell.pin B) ∧ B f = some lo ∧ B c' = some (CodeO c' q) ∧ PB B) ∧ CaughtW K cl c i ws D sl st cn ns qs
section
variable {K : PySem.W.Frag} {cl : Str → Option Addr} {X : Cx} {x y n : Str} {c : Value} {i j : Nat} {suite : List Stmt} {b₀ : Stmt} {np p2 p3 pos pos' p5 : Pos} {ts : Addr → Value → Option Addr → TS} {ws : Addr → Value → Option Addr → WS}
  {f c' : Addr} {lo : HO} {q : Str} {tl : XK → Hp → VK → Prop} {PB : Hp → Prop} {cn : Str} {ns : List Str} {qs : List PV}
theorem ss_tryL (hs : ∀ a cls d, SS K cl (ts a cls d) (ws a cls d)) (ht : ∀ (B : Hp) (E : XK) (HZ : Hp) (Q : VK), PB B → Same B HZ → XW K cl E HZ cn ns qs → tl E HZ Q) :
    SS K cl (tTryL K c i j ts W0 f c' lo q tl) (wTryL K cl c i j ws f c' lo q PB cn ns qs) := by
  intro D' sl st hw F G H σ al S D dk
  obtain ⟨h1, ⟨k, B, hk, e1, e2, hB⟩, hc⟩ := hw
  obtain ⟨sB, _⟩ := S.pinned hk
  obtain ⟨v, hv, rv⟩ := S.slots j _ h1
  obtain rfl : v = .ref f := rv
  exact ⟨hv, sB _ _ e1, sB _ _ e2, ht B _ H _ hB sB (caught hs S dk hc)⟩
theorem qs_tryL (act : ActP X y j f c' lo q tl) (ht : ∀ (B : Hp) (E : XK) (HZ : Hp) (Q : VK), PB B → Same B HZ → XW K cl E HZ cn ns qs → tl E HZ Q) (hs : X.stack = X.env :: X.outer) (hf : X.env.frame = some X.env.locals) (hN : X.N.Nodup) (hc : Names X x c)
    (hsu : ∀ (a : Addr) (oe : Obj) (cls : Value) (d : Option Addr) (pn : List (Addr × Obj)), L2N.Zn cls d oe → (∃ vs, oe.data = .fields vs) → QSs cl K (X.suite a ((a, oe) :: pn)) (b₀ :: suite) (ts a cls d) (ws a cls d))
    (hi : X.N[i]? = some n := by rfl) (hln : X.env.kindOf n = some .local := by rfl) (hsw : swapsWith (.Call (.Name y p2) [] [] p3) none p5.line X.env = pure false := by rfl) (hk : X.K = K := by rfl) :
    QS cl K X (.Try [.Expr (.Call (.Name y p2) [] [] p3) p5] [.ExceptHandler (some (.Name x np)) (some n) (b₀ :: suite) pos'] [] [] pos) (tTryL K c i j ts W0 f c' lo q tl) (wTryL K cl c i j ws f c' lo q PB cn ns qs) := by
  subst hk
  refine ⟨rfl, ?_, ss_tryL (fun a cls d => (hsu a (oeD cls d) cls d [] (oeD_zn cls d) (oeD_hf cls d)).se) ht⟩
  refine L2N.ps_try_as (tb := fun W => tDrop (fun σZ HZ Q => σZ[j]? = some (some (.ref f)) ∧ HZ f = some lo ∧ HZ c' = some (CodeO c' q) ∧ tl (fun cls d H => W cls d σZ H) HZ Q)) hs hf hN hi hln hc takes0 (fun W pn xe tk _ => ?_) (fun a oe cls d pn z hv => (hsu a oe cls d pn z hv).pe)
  exact pss_one (ps_expr (act pn xe (fun σ cls d H => W cls d σ H) p2 p3 fun σ => L2N.passAt tk σ) hsw)
end
end LM

set_option Elab.async false
set_option linter.all false
set_option maxRecDepth 100000
set_option maxHeartbeats 4000000
/-! A def that gets a lambda, called in its maker or in a comprehension there. -/
namespace LM
open PySem PySem.Spec PyProof.Rows L2 LamX VL VH VX
/-- the maker X stands: its cells are as they were -/
def MakerOk (X : Cx) (σ : L2.St) (H : Hp) (s : Shared) : Prop := ∃ (pins : List (Addr × Obj)) (s0 : Shared) (H0 : Hp), Inv X pins σ H0 s0 ∧ ∀ {y : Str} {c : Addr} {v : Option Value}, X.env.cells.lookup y = some c → H0 c = none → s0.heap.IsCell c v → s.heap.IsCell c v ∧ H c = none
theorem MakerOk.self {X : Cx} {σ : L2.St} {H : Hp} {s : Shared} {pins : List (Addr × Obj)} (I : Inv X pins σ H s) : MakerOk X σ H s := ⟨pins, s, H, I, fun _ n z => ⟨z, n⟩⟩
theorem MakerOk.blk {X : Cx} {σ σ1 : L2.St} {H0 H : Hp} {s0 s : Shared} {scope : Scope} {ce : Env} {fp : List Addr} {pins pins1 : List (Addr × Obj)} (I : Inv X pins σ H0 s0) (hf : ∀ b ∈ fp, FpOk X pins H0 b) (J : Inv (X.blk s0 H0 scope ce fp) pins1 σ1 H s) : MakerOk X σ H s :=
  ⟨pins, s0, H0, I, fun {y c v} e n ⟨o, ho, hd⟩ => by
    have un := J.base
    have nf : c ∉ fp := fun z => (hf c z).2.2.2.2.1 y c e rfl
    obtain ⟨sl, q⟩ := un.any ho n nf
    exact ⟨⟨_, q, hd⟩, un.free c o ho n nf⟩⟩
section
variable {X : Cx} {σ : L2.St} {H : Hp} {s : Shared}
/-- the def's body, run at the very state -/
theorem fn_lam {x qual : Str} {st : Stmt} {g f c' : Addr} {fd : FuncData} {N ps : List Str} {k : Nat} {y : Str} {us : List Value} {vs : List V} {Q : VK} {params : Arguments} {body : Expr} {scope : Scope} {tb : XK → TE}
    (F : Fun X.K x qual st g fd) (S : FnScope N ps (defScope st)) (M : MakerOk X σ H s) (L : LamS X.env.scope scope)
    (hbind : ∀ (pm ctv : Value), bindArgs (PySem.W.kla_fn "<lambda>" (X.env.qual ++ "<lambda>") params body scope (cloFrom X.env.cells scope.names []) pm (.ref c') ctv) ⟨[], []⟩ = pure [])
    (hr : Room (k + 2) X.A) (hbody : ∀ (E : XK) (A : Around) (outer : List Env) (s : Shared) (H : Hp), Room k (A.deeper (lamEnv X scope s.heap.objs.size f c')) → PE (lamC (L2N.CX X.prog X.w) X A outer s H E scope f c') body (tb E))
    (hy : N[0]? = some y) (hv : Vis (defScope st) y) (hd : (y == ("__debug__" : Str)) = false) (hcd : (y == ("__classdict__" : Str)) = false)
    (e0 : Env0 X.prog X.w X.K X.mg X.base X.A X.stack s H) (b : BindsTo s fd ⟨us, []⟩ (ps.zip us)) (r : Vals vs us) (hl : vs.length = ps.length)
    (hdef : ∀ cdv : Value, Room (k + 1) (X.A.deeper (envOfC qual (defScope st) s.heap.objs.size g cdv)) →
      ActP (cxOf CX0 X.prog X.w X.K X.mg X.base N qual (defScope st) g cdv X.A X.stack s H E0).nox y 0 f c' (LamO f ⟨X.env.qual ++ "<lambda>", params, body, scope, cloFrom X.env.cells scope.names [], c'⟩) (X.env.qual ++ "<lambda>") (fun E => tb E σ) →
      ∃ t, PSs (cxOf CX0 X.prog X.w X.K X.mg X.base N qual (defScope st) g cdv X.A X.stack s H E0).nox (defBody st) t ∧ t { nx := fun _ H' => Q .non H', rt := Q } (L2.start N vs) H) :
    codeAny (model X.prog X.w) X.A (.call (.ref g) ⟨us, []⟩) (CR CX0 X.stack X.prog X.w H s Q E0) s := by
  obtain ⟨oc, od, kV, doc, pm, an, cdv, ct, osl, rfl, lk, hc⟩ := F.ex
  obtain ⟨pins, s0, H0, I, cK⟩ := M
  refine run_ofS lk hc S hr e0 b r hl fun hr' => ?_
  obtain ⟨t, ht, hq⟩ := hdef cdv hr' (fun pn xe Ef p1 p2 hx => pe_act4 (CXg := CX0) (Eg := E0) I cK L hbind hx hr' hbody hy hv hd hcd)
  exact ⟨t, ht.nox, hq⟩
end
end LM

set_option Elab.async false
set_option linter.all false
set_option maxRecDepth 100000
set_option maxHeartbeats 4000000
/-! The call of a def that gets a lambda: in the maker, and in a comprehension there. -/
namespace LM
open PySem PySem.Spec PyProof.Rows L2 LamX VL VH VX
section
variable {X : Cx} {g : Addr} {fd : FuncData} {ps : List Str} {x : Str} {q pos : Pos} {e : Expr} {es : List Expr} {t : TA}
/-- what the def does at a state at which the maker stands -/
def RunL (X : Cx) (g : Addr) (fd : FuncData) (ps : List Str) (σ : L2.St) (sp : List V → Hp → VK → Prop) : Prop :=
  (∀ vs H Q, sp vs H Q → vs.length = ps.length) ∧ ∀ (s : Shared) (H : Hp) (us : List Value) (vs : List V) (Q : VK), MakerOk X σ H s → Env0 X.prog X.w X.K X.mg X.base X.A X.stack s H → BindsTo s fd ⟨us, []⟩ (ps.zip us) → Vals vs us → sp vs H Q →
    codeAny (model X.prog X.w) X.A (.call (.ref g) ⟨us, []⟩) (CR CX0 X.stack X.prog X.w H s Q E0) s
theorem pe_callLB {scope : Scope} {ce : Env} {fp : List Addr} {pins0 : List (Addr × Obj)} {σ0 : L2.St} {s0 : Shared} {H0 : Hp} {sp : List V → Hp → VK → Prop} (I0 : Inv X pins0 σ0 H0 s0) (hfp : ∀ b ∈ fp, FpOk X pins0 H0 b) (F : RunL X g fd ps σ0 sp) (hg : Gl (X.blk s0 H0 scope ce fp) x) (hm : X.mg x = some (.ref g)) (hk : PySem.W.keepIn X.K (.ref g) = true) (hb : Binds X.K fd ps [])
    (ha : PA (X.blk s0 H0 scope ce fp) (e :: es) t) (hdb : (x == ("__debug__" : Str)) = false := by decide) (he : starEach (e :: es) (X.blk s0 H0 scope ce fp).env = (false, eval e (X.blk s0 H0 scope ce fp).env) :: starEach es (X.blk s0 H0 scope ce fp).env := by rfl) (hpl : (backTo pos (starEach es (X.blk s0 H0 scope ce fp).env)).any (·.1) = false := by rfl) :
    PE (X.blk s0 H0 scope ce fp) (.Call (.Name x q) (e :: es) [] pos) (tCall (fun vs H Q _ => sp vs H Q) [] E0 t) := by
  refine ⟨fun pins s σ H Q I h => ?_⟩
  refine wpAny_Call_Name_kw (ld_glob I hg hm ?_ hdb)
  refine PySem.W.callWith_K (h₀ := X.base) I.ok.mod.kin hk (thn (ha.run pos pins s σ H _ I h) fun us s1 ⟨vs, H1, I1, r, w⟩ => ⟨I1.kIn, ?_⟩) he hpl
  have w : sp vs H1 Q := by have z : sp (vs ++ []) H1 Q := w; rw [List.append_nil] at z; exact z
  have hl : us.length = ps.length := by rw [← r.length]; exact F.1 _ _ _ w
  have b := hb s1 us I1.kIn (by rw [List.append_nil]; exact hl)
  rw [List.append_nil] at b
  refine wpAny_call (codeAny_mono (F.2 s1 H1 us vs Q (MakerOk.blk I0 hfp I1) I1.env0 b r w) fun r s' hq => ?_)
  cases r with
  | error e => exact pass0 _ _ _ _ _ _ I1 hq
  | ok fl =>
    cases fl with
    | ret u => exact I1.after hq
    | next => exact hq.elim
    | brk => exact hq.elim
    | cont => exact hq.elim
theorem pe_callLX {sp : L2.St → List V → Hp → VK → Prop} (F : ∀ σ, RunL X g fd ps σ (sp σ)) (hg : Gl X x) (hm : X.mg x = some (.ref g)) (hk : PySem.W.keepIn X.K (.ref g) = true) (hb : Binds X.K fd ps [])
    (ha : PA X (e :: es) t) (hdb : (x == ("__debug__" : Str)) = false := by decide) (he : starEach (e :: es) X.env = (false, eval e X.env) :: starEach es X.env := by rfl) (hpl : (backTo pos (starEach es X.env)).any (·.1) = false := by rfl) :
    PE X (.Call (.Name x q) (e :: es) [] pos) (fun σ H Q => tCall (fun vs H Q _ => sp σ vs H Q) [] E0 t σ H Q) := by
  refine ⟨fun pins s σ H Q I h => ?_⟩
  refine wpAny_Call_Name_kw (ld_glob I hg hm ?_ hdb)
  refine PySem.W.callWith_K (h₀ := X.base) I.ok.mod.kin hk (thn (ha.run pos pins s σ H _ I h) fun us s1 ⟨vs, H1, I1, r, w⟩ => ⟨I1.kIn, ?_⟩) he hpl
  have w : sp σ vs H1 Q := by have z : sp σ (vs ++ []) H1 Q := w; rw [List.append_nil] at z; exact z
  have hl : us.length = ps.length := by rw [← r.length]; exact (F σ).1 _ _ _ w
  have b := hb s1 us I1.kIn (by rw [List.append_nil]; exact hl)
  rw [List.append_nil] at b
  refine wpAny_call (codeAny_mono ((F σ).2 s1 H1 us vs Q (MakerOk.self I1) I1.env0 b r w) fun r s' hq => ?_)
  cases r with
  | error e => exact pass0 _ _ _ _ _ _ I1 hq
  | ok fl =>
    cases fl with
    | ret u => exact I1.after hq
    | next => exact hq.elim
    | brk => exact hq.elim
    | cont => exact hq.elim
end
end LM

set_option Elab.async false
set_option linter.all false
set_option maxRecDepth 100000
set_option maxHeartbeats 4000000
/-! Lambdas that last, by values, with the dice: what a lambda's body does, what a def that gets it does. -/
namespace LM
open PySem PySem.Spec PyProof.Rows L2 LamX VL VH VX
open Classical in
/-- the heap but for one place -/
noncomputable def noD (H : Hp) (d : Addr) : Hp := fun b => if b = d then none else H b
theorem noD_at {H : Hp} {d : Addr} : noD H d d = none := if_pos rfl
theorem noD_ne {H : Hp} {d b : Addr} (h : b ≠ d) : noD H d b = H b := if_neg h
theorem noD_same {H : Hp} {d : Addr} : Same (noD H d) H := fun b u e => by
  by_cases hb : b = d
  · subst hb; rw [noD_at] at e; cases e
  · rw [noD_ne hb] at e; exact e
theorem same_noD {F H : Hp} {d : Addr} (s : Same F H) (f : F d = none) : Same F (noD H d) := fun b u e => by
  rw [noD_ne (ne_of_none e f)]
  exact s _ _ e
theorem noD_mono {H H' : Hp} {d : Addr} (s : Same (noD H d) H') : Same (noD H d) (noD H' d) := same_noD s noD_at
/-- what is wished of an exception, the dice may have been thrown -/
def XWD (K : PySem.W.Frag) (cl : Str → Option Addr) (E : XK) (F : Hp) (d : Addr) (c : Str) (ns : List Str) (ps : List PV) : Prop :=
  ∀ (C : Addr) (dd : Option Addr) (H' : Hp), cl c = some C → Same F H' → DiceAt H' d → XRep K cl F H' dd ns ps → E (.ref C) dd H'
abbrev WR := (Str → List Str → List PV → Prop) → Sl → Sto → Prop
/-- it ends in an exception, by values -/
def RaisesW (K : PySem.W.Frag) (cl : Str → Option Addr) (tb : XK → TE) (wr : WR) : Prop := ∀ sl st Rx, wr Rx sl st → ∀ (E : XK) F G H σ al, SOk K cl F G H σ al sl st → ∀ Q : VK,
  (∀ F' G' H' st' c ns qs, Rx c ns qs → Gr F G al st F' G' al st' → SOk K cl F' G' H' σ al sl st' → XW K cl E H' c ns qs) → tb E σ H Q
def wRz (vsp : VSpE) (wa : WA) : WR := fun Rx sl st => wa sl st fun xs st1 => match vals xs st1 with
  | some (ps, st2) => 0 < st2.length ∧ vsp ps Rx
  | none => False
section
variable {K : PySem.W.Frag} {cl : Str → Option Addr}
theorem rz_call {vsp : VSpE} {ta : TA} {wa : WA} (h : SA K cl ta wa) : RaisesW K cl (fun E => tCallS (toSpE K cl vsp) (fun _ => E) ta) (wRz vsp wa) := by
  intro sl st Rx hw E F G H σ al S Q hx
  refine h sl st _ hw F G H σ al S _ fun vs xs st1 F1 G1 H1 h1 g1 S1 rs => ?_
  dsimp only at h1
  split at h1
  · rename_i ps st2 e
    obtain ⟨F2, G2, S2, g2, l⟩ := vals_ok S1 rs e
    have hal : 0 < al.length := by rw [S2.cnt]; exact h1.1
    obtain ⟨o, ho⟩ := S2.live 0 al[0] (by simp [hal])
    exact ⟨G2, ps, Rx, S2.gf.trans S2.fh, l, ⟨_, o, ho⟩, h1.2, fun c ns qs hr => hx _ _ _ _ c ns qs hr (g1.trans g2) S2⟩
  · exact h1.elim
theorem rz_make {C : Addr} {vsp : VSpE} {ta : TA} {wa : WA} (h : SA K cl ta wa) : RaisesW K cl (fun E => tMakeS C (toSpIE K cl C vsp) (fun _ => E) ta) (wRz vsp wa) := by
  intro sl st Rx hw E F G H σ al S Q hx
  refine h sl st _ hw F G H σ al S _ fun vs xs st1 F1 G1 H1 h1 g1 S1 rs => ?_
  dsimp only at h1
  split at h1
  · rename_i ps st2 e
    obtain ⟨F2, G2, S2, g2, l⟩ := vals_ok S1 rs e
    exact fun x dx hx1 hdx ne => ⟨x, dx, vs, H1, G2, ps, Rx, rfl, hx1, hdx, ne, rfl, S2.gf.trans S2.fh, l, h1.2, fun c ns qs hr => hx _ _ _ _ c ns qs hr (g1.trans g2) S2⟩
  · exact h1.elim
end
/-- what is known of a lambda from its text -/
structure LamF (X : Cx) (cl : Str → Option Addr) (k : Nat) (f : Addr) (L : Lf) (wr : WR) : Prop where
  qual : L.qual = X.env.qual ++ "<lambda>"
  clo : L.cl = cloFrom X.env.cells L.scope.names []
  ls : LamS X.env.scope L.scope
  bind : ∀ (pm ctv : Value), bindArgs (PySem.W.kla_fn "<lambda>" L.qual L.params L.body L.scope L.cl pm (.ref L.c) ctv) ⟨[], []⟩ = pure []
  body : ∃ tb : XK → TE, (∀ (E : XK) (A : Around) (outer : List Env) (s : Shared) (H : Hp), Room k (A.deeper (lamEnv X L.scope s.heap.objs.size f L.c)) → PE (lamC (L2N.CX X.prog X.w) X A outer s H E L.scope f L.c) L.body (tb E)) ∧ RaisesW X.K cl tb wr
/-- the lambda at f raises cn with the fields ns = qs, told at the maker's slots; the dice at d may be thrown -/
def LzD (X : Cx) (cl : Str → Option Addr) (k : Nat) (σ : L2.St) (f : Addr) (F : Hp) (d : Addr) (cn : Str) (ns : List Str) (qs : List PV) : Prop :=
  ∃ (L : Lf) (tb : XK → TE), L.qual = X.env.qual ++ "<lambda>" ∧ L.cl = cloFrom X.env.cells L.scope.names [] ∧ LamS X.env.scope L.scope ∧
    (∀ (pm ctv : Value), bindArgs (PySem.W.kla_fn "<lambda>" L.qual L.params L.body L.scope L.cl pm (.ref L.c) ctv) ⟨[], []⟩ = pure []) ∧
    (∀ (E : XK) (A : Around) (outer : List Env) (s : Shared) (H : Hp), Room k (A.deeper (lamEnv X L.scope s.heap.objs.size f L.c)) → PE (lamC (L2N.CX X.prog X.w) X A outer s H E L.scope f L.c) L.body (tb E)) ∧
    F f = some (LamO f L) ∧ F L.c = some (CodeO L.c L.qual) ∧
    ∀ (E : XK) (HZ : Hp) (Q : VK), Same F HZ → DiceAt HZ d → XWD X.K cl E F d cn ns qs → tb E σ HZ Q
/-- the slots that a lambda's body sees: the trees, and the dice at kd -/
def slotD (kd : Nat) : Option W → Option W
  | some (.v p) => some (.v p)
  | some (.l k) => if k = kd then some (.l 0) else none
  | _ => none
def sld (kd : Nat) (sl : Sl) : Sl := sl.map (slotD kd)
theorem XRep.less {K : PySem.W.Frag} {cl : Str → Option Addr} {H0 H1 H : Hp} {dd : Option Addr} {ns : List Str} {ps : List PV} (s : Same H0 H1) (h : XRep K cl H1 H dd ns ps) : XRep K cl H0 H dd ns ps := by
  rcases h with h | ⟨a, vs, f, h⟩
  · exact .inl h
  · exact .inr ⟨a, vs, s.free f, h⟩
section
variable {K : PySem.W.Frag} {cl : Str → Option Addr} {F G H HZ : Hp} {σ : L2.St} {al : List Addr} {sl : Sl} {st : Sto}
theorem one_at {d b : Addr} {j : Nat} (h : [d][j]? = some b) : j = 0 ∧ b = d := by
  cases j with
  | zero => exact ⟨rfl, by simpa using h.symm⟩
  | succ j => simp at h
theorem sld_ok {d : Addr} {kd : Nat} (S : SOk K cl F G H σ al sl st) (hk : st[kd]? = some .dice) (hd : al[kd]? = some d) (s : Same (noD H d) HZ) (dice : DiceAt HZ d) : SOk K cl (noD HZ d) (noD HZ d) HZ σ [d] (sld kd sl) [Cell.dice] := by
  obtain ⟨d', hd', fd, _⟩ := S.cells kd _ hk
  rw [hd] at hd'
  cases hd'
  have gd : G d = none := S.gf.free fd
  have sG : Same G (noD HZ d) := (same_noD (S.gf.trans S.fh) gd).trans (noD_mono s)
  refine ⟨Same.refl _, noD_same, fun i x h => ?_, by unfold sld; rw [List.length_map]; exact S.len, fun j c h => ?_, fun j i b h1 h2 => by rw [(one_at h1).1, (one_at h2).1], fun j b h => ?_, rfl⟩
  · unfold sld at h
    rw [List.getElem?_map] at h
    cases e : sl[i]? with
    | none => rw [e] at h; cases h
    | some y =>
      rw [e] at h
      have hs : slotD kd y = some x := Option.some.inj h
      clear h
      unfold slotD at hs
      split at hs
      · rename_i p
        cases hs
        obtain ⟨v, h1, h2⟩ := S.slots i _ e
        exact ⟨v, h1, Rep.mono sG p v h2⟩
      · rename_i k
        split at hs
        · rename_i ek
          cases hs
          subst ek
          obtain ⟨v, h1, a, h2, rfl⟩ := S.slots i _ e
          rw [hd] at h2
          cases h2
          exact ⟨_, h1, _, rfl, rfl⟩
        · cases hs
      · cases hs
  · cases j with
    | zero =>
      have h' : some Cell.dice = some c := h
      cases h'
      exact ⟨d, rfl, noD_at, dice⟩
    | succ j => simp at h
  · rw [(one_at h).2]
    obtain ⟨ds, e, _⟩ := dice
    exact ⟨_, e⟩
theorem diceOf {F0 G0 F' G' H' : Hp} {d : Addr} {sl' : Sl} {st' : Sto} (g : Gr F0 G0 [d] [Cell.dice] F' G' [d] st') (S' : SOk K cl F' G' H' σ [d] sl' st') : F' d = none ∧ DiceAt H' d := by
  obtain ⟨a, h1, h2⟩ := S'.cells 0 _ (g.dice 0 rfl)
  have h1 : some d = some a := h1
  cases h1
  exact h2
/-- from the text of a lambda to what it does -/
theorem LzD.of {X : Cx} {k kd : Nat} {f d : Addr} {L : Lf} {wr : WR} {cn : Str} {ns : List Str} {qs : List PV} (M : LamF X cl k f L wr) (S : SOk X.K cl F G H σ al sl st) (hk : st[kd]? = some .dice) (hd : al[kd]? = some d) (hf : G f = some (LamO f L)) (hc : G L.c = some (CodeO L.c L.qual))
    (hw : wr (fun c n q => c = cn ∧ n = ns ∧ q = qs) (sld kd sl) [Cell.dice]) : LzD X cl k σ f (noD H d) d cn ns qs := by
  obtain ⟨tb, h1, h2⟩ := M.body
  have hfd : F d = none := by
    obtain ⟨d', hd', fd, _⟩ := S.cells kd _ hk
    rw [hd] at hd'
    cases hd'
    exact fd
  have sG : Same G (noD H d) := same_noD (S.gf.trans S.fh) (S.gf.free hfd)
  refine ⟨L, tb, M.qual, M.clo, M.ls, M.bind, h1, sG _ _ hf, sG _ _ hc, fun E HZ Q s dice hx => ?_⟩
  refine h2 _ _ _ hw E _ _ HZ σ [d] (sld_ok S hk hd s dice) Q fun F' G' H' st' c ns' qs' hr g S' => ?_
  obtain ⟨rfl, rfl, rfl⟩ := hr
  obtain ⟨_, d'⟩ := diceOf g S'
  have s1 : Same (noD H d) H' := ((noD_mono s).trans g.ff).trans S'.fh
  intro C dd H2 hC s2 xr
  refine hx C dd H2 hC (s1.trans s2) ?_ (XRep.less s1 xr)
  obtain ⟨ds, e, dk⟩ := d'
  exact ⟨ds, s2 _ _ e, dk⟩
end
/-- the promise of a def that gets the lambda first -/
def spLD (X : Cx) (cl : Str → Option Addr) (k : Nat) (vsp : Str → List Str → List PV → VSp) (σ : L2.St) : List V → Hp → VK → Prop := fun vs H Q =>
  ∃ (F : Hp) (d f : Addr) (us : List V) (ps : List PV) (cn : Str) (ns : List Str) (qs : List PV) (R : PV → Prop), vs = .ref f :: us ∧ Same F H ∧ F d = none ∧ DiceAt H d ∧ LzD X cl k σ f F d cn ns qs ∧ RepL X.K cl F us ps ∧ vsp cn ns qs ps R ∧
    ∀ b H', R (.bl b) → Same F H' → DiceAt H' d → Q (.bl b) H'
/-- try: x() except E as e: .. at a def's start -/
structure QTL (cl : Str → Option Addr) (K : PySem.W.Frag) (X : Cx) (f c' : Addr) (lo : HO) (q : Str) (tl : XK → Hp → VK → Prop) (body : List Stmt) (c : Value) (i : Nat) (ts : Addr → Value → Option Addr → TS) (ws : Addr → Value → Option Addr → WS) : Prop where
  pe : ∃ t2, PSs X body (tSeq (tTryL K c i 0 ts W0 f c' lo q tl) t2)
  se : ∀ a cls d, SS K cl (ts a cls d) (ws a cls d)
section
variable {K : PySem.W.Frag} {cl : Str → Option Addr} {X : Cx} {x y n : Str} {c : Value} {i : Nat} {suite rest : List Stmt} {b₀ : Stmt} {np p2 p3 pos pos' p5 : Pos} {ts : Addr → Value → Option Addr → TS} {ws : Addr → Value → Option Addr → WS}
  {f c' : Addr} {lo : HO} {q : Str} {tl : XK → Hp → VK → Prop} {t2 : TS} {w2 : WS}
theorem qtl_try (act : ActP X y 0 f c' lo q tl) (hs : X.stack = X.env :: X.outer) (hf : X.env.frame = some X.env.locals) (hN : X.N.Nodup) (hc : Names X x c)
    (hsu : ∀ (a : Addr) (oe : Obj) (cls : Value) (d : Option Addr) (pn : List (Addr × Obj)), L2N.Zn cls d oe → (∃ vs, oe.data = .fields vs) → QSs cl K (X.suite a ((a, oe) :: pn)) (b₀ :: suite) (ts a cls d) (ws a cls d))
    (hr : QSs cl K X rest t2 w2)
    (hi : X.N[i]? = some n := by rfl) (hln : X.env.kindOf n = some .local := by rfl) (hsw : swapsWith (.Call (.Name y p2) [] [] p3) none p5.line X.env = pure false := by rfl) (hk : X.K = K := by rfl) :
    QTL cl K X f c' lo q tl (.Try [.Expr (.Call (.Name y p2) [] [] p3) p5] [.ExceptHandler (some (.Name x np)) (some n) (b₀ :: suite) pos'] [] [] pos :: rest) c i ts ws := by
  subst hk
  refine ⟨⟨t2, pss_cons ?_ hr.pe⟩, fun a cls d => (hsu a (oeD cls d) cls d [] (oeD_zn cls d) (oeD_hf cls d)).se⟩
  refine L2N.ps_try_as (tb := fun W => tDrop (fun σZ HZ Q => σZ[0]? = some (some (.ref f)) ∧ HZ f = some lo ∧ HZ c' = some (CodeO c' q) ∧ tl (fun cls d H => W cls d σZ H) HZ Q)) hs hf hN hi hln hc takes0 (fun W pn xe tk _ => ?_) (fun a oe cls d pn z hv => (hsu a oe cls d pn z hv).pe)
  exact pss_one (ps_expr (act pn xe (fun σ cls d H => W cls d σ H) p2 p3 fun σ => L2N.passAt tk σ) hsw)
end
section
variable {X : Cx} {cl : Str → Option Addr}
/-- the state of a def that got a lambda: F pinned at the lambda's place, the dice -/
theorem lamSt {F H : Hp} {d f : Addr} {lo : HO} {N : List Str} {us : List V} {zs : List PV} (s : Same F H) (fd : F d = none) (dice : DiceAt H d) (hf : F f = some lo) (r : RepL X.K cl F us zs) (hN : us.length + 1 ≤ N.length) :
    SOk X.K cl F F H (L2.start N (V.ref f :: us)) [f, d] (some (.o (.ref f)) :: startS (N.length - 1) zs) [Cell.pin F, .dice] := by
  have two : ∀ (j : Nat) (b : Addr), [f, d][j]? = some b → (j = 0 ∧ b = f) ∨ (j = 1 ∧ b = d) := fun j b h => by
    match j, h with
    | 0, h => exact .inl ⟨rfl, by simpa using h.symm⟩
    | 1, h => exact .inr ⟨rfl, by simpa using h.symm⟩
    | j + 2, h => simp at h
  have nfd : f ≠ d := ne_of_none hf fd
  refine ⟨Same.refl _, s, fun i y e => ?_, ?_, fun j c h => ?_, fun j i b h1 h2 => ?_, fun j b h => ?_, rfl⟩
  · cases i with
    | zero =>
      have h' : some (some (W.o (.ref f))) = some (some y) := e
      cases h'
      exact ⟨.ref f, rfl, rfl⟩
    | succ i =>
      obtain ⟨v, hv, rv⟩ := slots_start (al := [f, d]) (i := i) r e
      refine ⟨v, ?_, rv⟩
      have e : N.length - (us.length + 1) = N.length - 1 - us.length := by omega
      show (us.map some ++ List.replicate (N.length - (us.length + 1)) none)[i]? = _
      rw [e]
      exact hv
  · unfold L2.start startS
    have := r.len
    simp only [List.length_append, List.length_map, List.length_cons, List.length_replicate, r.len]
    omega
  · match j, h with
    | 0, h =>
      have h' : some (Cell.pin F) = some c := h
      cases h'
      exact ⟨f, rfl, ⟨lo, hf⟩, Same.refl _⟩
    | 1, h =>
      have h' : some Cell.dice = some c := h
      cases h'
      exact ⟨d, rfl, fd, dice⟩
    | j + 2, h => simp at h
  · rcases two j b h1 with ⟨rfl, rfl⟩ | ⟨rfl, rfl⟩
    · rcases two i _ h2 with ⟨rfl, _⟩ | ⟨_, e⟩
      · rfl
      · exact (nfd e).elim
    · rcases two i _ h2 with ⟨_, e⟩ | ⟨rfl, _⟩
      · exact (nfd e.symm).elim
      · rfl
  · rcases two j b h with ⟨_, rfl⟩ | ⟨_, rfl⟩
    · exact ⟨_, s _ _ hf⟩
    · obtain ⟨ds, e, _⟩ := dice
      exact ⟨_, e⟩
theorem RunLD.of {x qual : Str} {st : Stmt} {g : Addr} {fd : FuncData} {N ps : List Str} {k : Nat} {y : Str} {σ : L2.St} {vsp : Str → List Str → List PV → VSp} (F : Fun X.K x qual st g fd) (S : FnScope N ps (defScope st)) (hN : ps.length ≤ N.length) (ln : ∀ cn ns qs zs R, vsp cn ns qs zs R → zs.length + 1 = ps.length) (hr : Room (k + 2) X.A)
    (hy : N[0]? = some y) (hv : Vis (defScope st) y) (hd : (y == ("__debug__" : Str)) = false) (hcd : (y == ("__classdict__" : Str)) = false)
    (body : ∀ (cdv : Value) (s : Shared) (H : Hp) (f c' : Addr) (lo : HO) (q : Str) (tl : XK → Hp → VK → Prop), Room (k + 1) (X.A.deeper (envOfC qual (defScope st) s.heap.objs.size g cdv)) →
      ActP (cxOf CX0 X.prog X.w X.K X.mg X.base N qual (defScope st) g cdv X.A X.stack s H E0).nox y 0 f c' lo q tl →
      ∃ c i ts ws, QTL cl X.K (cxOf CX0 X.prog X.w X.K X.mg X.base N qual (defScope st) g cdv X.A X.stack s H E0).nox f c' lo q tl (defBody st) c i ts ws ∧
        ∀ cn ns qs zs R F0, vsp cn ns qs zs R → CaughtW X.K cl c i ws { nx := fun _ _ => False, rt := fun p _ => ∃ b, p = .bl b ∧ R p } (some (.o (.ref f)) :: startS (N.length - 1) zs) [Cell.pin F0, .dice] cn ns qs) :
    RunL X g fd ps σ (spLD X cl k vsp σ) := by
  have len : ∀ vs H Q, spLD X cl k vsp σ vs H Q → vs.length = ps.length := fun vs H Q h => by
    obtain ⟨F0, d, f, us, zs, cn, ns, qs, R, rfl, _, _, _, _, r, hv, _⟩ := h
    rw [List.length_cons, r.len, ln _ _ _ _ _ hv]
  refine ⟨len, fun s H us vs Q M e0 b r h => ?_⟩
  have hl := len vs H Q h
  obtain ⟨F0, d, f, us', zs, cn, ns, qs, R, rfl, sF, fd0, dice, L, rz, hvs, hQ⟩ := h
  obtain ⟨⟨q, params, bd, scope, cls, c'⟩, tb, h1, h2, h3, h4, h5, h6, h7, h8⟩ := L
  dsimp only at h1 h2 h3 h4 h5 h6 h7
  subst h1 h2
  have hNl : us'.length + 1 ≤ N.length := by rw [← List.length_cons (a := V.ref f), hl]; exact hN
  refine fn_lam (k := k) (y := y) (tb := tb) (f := f) (c' := c') F S M h3 h4 hr h5 hy hv hd hcd e0 b r hl fun cdv hr' act => ?_
  obtain ⟨c, i, ts, ws, ⟨⟨t2, pe⟩, hss⟩, hcw⟩ := body cdv s H f c' _ _ _ hr' act
  refine ⟨_, pe, rfl, sF _ _ h6, sF _ _ h7, ?_⟩
  refine h8 _ H _ sF dice fun C dd H' hC sH dice' xr => ?_
  -- the raised state without the exception's dict
  obtain ⟨H0, s0, sF0, dice0, xr0⟩ : ∃ H0 : Hp, Same H0 H' ∧ Same F0 H0 ∧ DiceAt H0 d ∧ XRep X.K cl H0 H' dd ns qs := by
    rcases xr with ⟨rfl, rfl, rfl⟩ | ⟨a, vs, fa, rfl, ha, hl2, hr2⟩
    · exact ⟨H', Same.refl _, sH, dice', .inl ⟨rfl, rfl, rfl⟩⟩
    · refine ⟨noD H' a, noD_same, same_noD sH fa, ?_, .inr ⟨a, vs, noD_at, rfl, ha, hl2, hr2⟩⟩
      obtain ⟨ds, e, dk⟩ := dice'
      refine ⟨ds, ?_, dk⟩
      rw [noD_ne, e]
      intro z
      rw [z, ha] at e
      cases e
  have S0 := lamSt (X := X) (cl := cl) (N := N) sF0 fd0 dice0 h6 rz hNl
  refine caught (K := X.K) (cl := cl) (Wout := W0) hss S0 ?_ (hcw cn ns qs zs R F0 hvs) C dd H' hC s0 xr0
  refine ⟨fun _ _ _ _ _ _ _ h => h.elim, fun _ _ _ _ _ _ _ h => h.elim, fun _ _ _ _ _ _ _ h => h.elim, ?_⟩
  rintro v p σ' sl' st' F' G' H'' al' ⟨b, rfl, hR⟩ g S' rv
  cases rv
  refine hQ b H'' hR (g.ff.trans S'.fh) ?_
  obtain ⟨a, e1, _, e2⟩ := S'.cells 1 _ (g.dice 1 rfl)
  have e3 := g.pre 1 d rfl
  rw [e1] at e3
  cases e3
  exact e2
end
end LM

set_option Elab.async false
set_option linter.all false
set_option maxRecDepth 100000
set_option maxHeartbeats 4000000
/-! The rules: lambda: .., the call of a def that gets one, a comprehension that asks each. -/
namespace LM
open PySem PySem.Spec PyProof.Rows L2 LamX VL VH VX
/-- lambda: .., by values: a thing known by its place; the table's cell tells what it is -/
def wLamF (X : Cx) (cl : Str → Option Addr) (kk k : Nat) (P : Addr) (q : Str) (L : Addr → Lf) (wr : WR) : WE := fun sl st R => ∃ ls, st[k]? = some (.tab P q ls) ∧ ∀ (f c' : Addr), LamF X cl kk f (L c') wr → R (.v (.opq f)) (st.set k (.tab P q (ls ++ [(f, L c')])))
/-- what a lambda's text is -/
structure LamQ (cl : Str → Option Addr) (K : PySem.W.Frag) (X : Cx) (kk : Nat) (params : Arguments) (body : Expr) (scope : Scope) (wr : WR) : Prop where
  k : X.K = K
  ls : LamS X.env.scope scope
  bind : ∀ (c' : Addr) (pm ctv : Value), bindArgs (PySem.W.kla_fn "<lambda>" (X.env.qual ++ "<lambda>") params body scope (cloFrom X.env.cells scope.names []) pm (.ref c') ctv) ⟨[], []⟩ = pure []
  body : ∀ f c' : Addr, ∃ tb : XK → TE, (∀ (E : XK) (A : Around) (outer : List Env) (s : Shared) (H : Hp), Room kk (A.deeper (lamEnv X scope s.heap.objs.size f c')) → PE (lamC (L2N.CX X.prog X.w) X A outer s H E scope f c') body (tb E)) ∧ RaisesW X.K cl tb wr
section
variable {cl : Str → Option Addr} {K : PySem.W.Frag} {X : Cx}
theorem q_lamF {c P : Addr} {params : Arguments} {body : Expr} {scope : Scope} {pos : Pos} {kk : Nat} {wr : WR} (k : Nat) (TB : TabB X.base X.mg c P) (hcode : X.env.code = .ref c) (h : LamQ cl K X kk params body scope wr) (hdef : defaultsOf params X.env = ([], []) := by rfl) :
    QE cl K X (.Lambda params body scope pos) (tLamE P (X.env.qual ++ "<lambda>") fun c' => ⟨X.env.qual ++ "<lambda>", params, body, scope, cloFrom X.env.cells scope.names [], c'⟩) (wLamF X cl kk k P (X.env.qual ++ "<lambda>") (fun c' => ⟨X.env.qual ++ "<lambda>", params, body, scope, cloFrom X.env.cells scope.names [], c'⟩) wr) := by
  refine ⟨h.k, pe_lam TB hcode h.ls hdef, ?_⟩
  intro sl st R hw
  obtain ⟨ls, hk, hR⟩ := hw
  exact se_lam (L := fun c' => ⟨X.env.qual ++ "<lambda>", params, body, scope, cloFrom X.env.cells scope.names [], c'⟩) (fun _ => rfl) sl st R ⟨ls, hk, fun f c' => hR f c' ⟨rfl, rfl, h.ls, h.bind c', h.body f c'⟩⟩
variable {x : Str} {e : Expr} {es : List Expr} {p2 pos : Pos} {params : Arguments} {scope : Scope} {A' : TA} {WA' : WA} {kk j : Nat}
/-- lambda: f(..), the call raises -/
theorem lamq_call {vsp : VSpE} (F : FnE X.prog X.w X.K X.mg X.base x j (toSpE X.K cl vsp)) (hj : j ≤ kk) (hr0 : Room (kk + 1) X.A) (ls : LamS X.env.scope scope)
    (h : ∀ (E : XK) (A : Around) (outer : List Env) (s : Shared) (H : Hp) (f c' : Addr), Room kk (lamC (L2N.CX X.prog X.w) X A outer s H E scope f c').A → QA cl X.K (lamC (L2N.CX X.prog X.w) X A outer s H E scope f c') (e :: es) A' WA')
    (hg : ∀ (E : XK) (A : Around) (outer : List Env) (s : Shared) (H : Hp) (f c' : Addr), Gl (lamC (L2N.CX X.prog X.w) X A outer s H E scope f c') x := by intros; rfl)
    (bind : ∀ (c' : Addr) (pm ctv : Value), bindArgs (PySem.W.kla_fn "<lambda>" (X.env.qual ++ "<lambda>") params (.Call (.Name x p2) (e :: es) [] pos) scope (cloFrom X.env.cells scope.names []) pm (.ref c') ctv) ⟨[], []⟩ = pure [] := by intros; rfl) (hdb : (x == ("__debug__" : Str)) = false := by decide)
    (he : ∀ env, starEach (e :: es) env = (false, eval e env) :: starEach es env := by intro _; rfl) (hpl : ∀ env, (backTo pos (starEach es env)).any (·.1) = false := by intro _; rfl) (hk : X.K = K := by rfl) : LamQ cl K X kk params (.Call (.Name x p2) (e :: es) [] pos) scope (wRz vsp WA') := by
  obtain ⟨g, fd, ps, F1, hm, hkp, hb⟩ := F.ex
  refine ⟨hk, ls, bind, fun f c' => ⟨fun E => tCallS (toSpE X.K cl vsp) (fun _ => E) A', fun E A outer s H hr => ?_, rz_call (h E0 X.A [] X.s_0 X.H_0 f c' (hr0.deeper _)).se⟩⟩
  exact pe_callS (X := lamC (L2N.CX X.prog X.w) X A outer s H E scope f c') F1 (hr.mono hj) (hg E A outer s H f c') hm hkp hb (fun σ => L2N.passAt takesLam σ) (h E A outer s H f c' hr).pe hdb (he _) (hpl _)
/-- lambda: C(..), the call raises -/
theorem lamq_make {C : Addr} {vsp : VSpE} (F : MkE X.prog X.w X.K X.mg X.base x C j (toSpIE X.K cl C vsp)) (hj : j + 1 ≤ kk) (hr0 : Room (kk + 1) X.A) (ls : LamS X.env.scope scope)
    (h : ∀ (E : XK) (A : Around) (outer : List Env) (s : Shared) (H : Hp) (f c' : Addr), Room kk (lamC (L2N.CX X.prog X.w) X A outer s H E scope f c').A → QA cl X.K (lamC (L2N.CX X.prog X.w) X A outer s H E scope f c') (e :: es) A' WA')
    (hg : ∀ (E : XK) (A : Around) (outer : List Env) (s : Shared) (H : Hp) (f c' : Addr), Gl (lamC (L2N.CX X.prog X.w) X A outer s H E scope f c') x := by intros; rfl)
    (bind : ∀ (c' : Addr) (pm ctv : Value), bindArgs (PySem.W.kla_fn "<lambda>" (X.env.qual ++ "<lambda>") params (.Call (.Name x p2) (e :: es) [] pos) scope (cloFrom X.env.cells scope.names []) pm (.ref c') ctv) ⟨[], []⟩ = pure [] := by intros; rfl) (hdb : (x == ("__debug__" : Str)) = false := by decide)
    (he : ∀ env, starEach (e :: es) env = (false, eval e env) :: starEach es env := by intro _; rfl) (hpl : ∀ env, (backTo pos (starEach es env)).any (·.1) = false := by intro _; rfl) (hk : X.K = K := by rfl) : LamQ cl K X kk params (.Call (.Name x p2) (e :: es) [] pos) scope (wRz vsp WA') := by
  obtain ⟨g, fd, ps, F1, hM, hm, hb⟩ := F.ex
  refine ⟨hk, ls, bind, fun f c' => ⟨fun E => tMakeS C (toSpIE X.K cl C vsp) (fun _ => E) A', fun E A outer s H hr => ?_, rz_make (h E0 X.A [] X.s_0 X.H_0 f c' (hr0.deeper _)).se⟩⟩
  exact pe_makeS (X := lamC (L2N.CX X.prog X.w) X A outer s H E scope f c') hM F1 (hr.mono hj) (hg E A outer s H f c') hm hb (fun σ => L2N.passAt takesLam σ) (h E A outer s H f c' hr).pe hdb (he _) (hpl _)
end
/-! ### the call of a def that gets a lambda -/
/-- a def of the text that gets a lambda of the maker X -/
structure FnLX (X : Cx) (cl : Str → Option Addr) (x : Str) (k : Nat) (vsp : Str → List Str → List PV → VSp) : Prop where
  ex : ∃ (g : Addr) (fd : FuncData) (ps : List Str), (∀ σ, RunL X g fd ps σ (spLD X cl k vsp σ)) ∧ X.mg x = some (.ref g) ∧ PySem.W.keepIn X.K (.ref g) = true ∧ Binds X.K fd ps []
def wCallLD (X : Cx) (cl : Str → Option Addr) (k : Nat) (vsp : Str → List Str → List PV → VSp) (sl0 : Sl) (wa : WA) : WE := fun sl st R => wa sl st fun xs st1 => match vals xs st1 with
  | some (.opq f :: zs, st2) => ∃ (j kd : Nat) (P : Addr) (ls : List (Addr × Lf)) (L : Lf) (wr : WR) (cn : Str) (ns : List Str) (qs : List PV), st2[j]? = some (.tab P (X.env.qual ++ "<lambda>") ls) ∧ (f, L) ∈ ls ∧ st2[kd]? = some .dice ∧ LamF X cl k f L wr ∧
      wr (fun c n q => c = cn ∧ n = ns ∧ q = qs) (sld kd sl0) [Cell.dice] ∧ vsp cn ns qs zs fun p => ∃ b, p = .bl b ∧ R (.v p) st2
  | _ => False
section
variable {X : Cx} {cl : Str → Option Addr} {k : Nat} {vsp : Str → List Str → List PV → VSp} {ta : TA} {wa : WA}
theorem se_callLDR (ha : SA X.K cl ta wa) {F0 G0 H0 : Hp} {σ0 : L2.St} {al0 : List Addr} {sl0 : Sl} {st0 : Sto} (S0 : SOk X.K cl F0 G0 H0 σ0 al0 sl0 st0) :
    ∀ sl st R, wCallLD X cl k vsp sl0 wa sl st R → ∀ F G H σ al, Gr F0 G0 al0 st0 F G al st → SOk X.K cl F G H σ al sl st → ∀ Q : VK, QOk X.K cl F G σ al sl st R Q → tCall (fun vs H Q _ => spLD X cl k vsp σ0 vs H Q) [] E0 ta σ H Q := by
  intro sl st R hw F G H σ al g0 S Q q
  refine ha sl st _ hw F G H σ al S _ fun vs xs st1 F1 G1 H1 h1 g1 S1 rs => ?_
  dsimp only at h1
  split at h1
  · rename_i f zs st2 e
    obtain ⟨F2, G2, S2, g2, l⟩ := vals_ok S1 rs e
    obtain ⟨j, kd, P, ls, L, wr, cn, ns, qs, hj, hL, hkd, M, hwr, hv⟩ := h1
    have S2' := S0.back S2 ((g0.trans g1).trans g2)
    obtain ⟨d, hd, fd, dice⟩ := S2.cells kd _ hkd
    obtain ⟨aP, haP, fP, eP, hls, _⟩ := S2.cells j _ hj
    obtain ⟨hf, hc⟩ := hls (f, L) hL
    have D := LzD.of M S2' hkd hd hf (by rw [M.qual]; exact hc) hwr
    cases l with
    | cons r l =>
      cases r
      show spLD X cl k vsp σ0 (_ ++ []) H1 Q
      rw [List.append_nil]
      refine ⟨noD H1 d, d, f, _, zs, cn, ns, qs, _, rfl, noD_same, noD_at, dice, D, RepL.mono (same_noD (S2.gf.trans S2.fh) (S2.gf.free fd)) _ _ l, hv, fun b H' hR sH dice' => ?_⟩
      obtain ⟨b', e', hR⟩ := hR
      have keep : ∀ b o, b ≠ d → H1 b = some o → H' b = some o := fun b o hb e => sH _ _ (by rw [noD_ne hb]; exact e)
      have nd2 : ∀ (j : Nat) (b : Addr) (c : Cell), st2[j]? = some c → al[j]? = some b → c ≠ .dice → b ≠ d := fun j b c h1 h2 h3 z => by
        have ej := S2.nd j kd d (z ▸ h2) hd
        rw [ej, hkd] at h1
        cases h1
        exact h3 rfl
      obtain ⟨F3, _, S3, g3⟩ := S2.after (Same.refl G2) (fun b o z => keep b o (ne_of_none (S2.gf _ _ z) fd) ((S2.gf.trans S2.fh) _ _ z)) (fun b o z => keep b o (ne_of_none z fd) (S2.fh _ _ z)) (fun _ _ z => .inl z)
        (fun j b c hj hb _ nd => by
          obtain ⟨o, ho⟩ := S2.live j b hb
          rw [ho, keep b o (nd2 j b c hj hb nd) ho]) fun j b hj hb => by
          by_cases z : b = d
          · rw [z]; exact dice'
          · obtain ⟨b2, hb2, _, ds, e, dd⟩ := S2.cells j _ hj
            rw [hb] at hb2
            cases hb2
            exact ⟨ds, keep b _ z e, dd⟩
      exact q _ _ _ _ _ _ hR (((g1.trans g2)).trans g3) S3 (.bl b)
  · exact h1.elim
/-- .. in the maker -/
def wCallLX (X : Cx) (cl : Str → Option Addr) (k : Nat) (vsp : Str → List Str → List PV → VSp) (wa : WA) : WE := fun sl st R => wCallLD X cl k vsp sl wa sl st R
theorem se_callLX (ha : SA X.K cl ta wa) : SE X.K cl (fun σ H Q => tCall (fun vs H Q _ => spLD X cl k vsp σ vs H Q) [] E0 ta σ H Q) (wCallLX X cl k vsp wa) := fun sl st R hw F G H σ al S Q q => se_callLDR ha S sl st R hw F G H σ al .refl S Q q
variable {K : PySem.W.Frag} {x : Str} {e : Expr} {es : List Expr} {p2 pos pos2 pos3 : Pos}
theorem q_callLX (F : FnLX X cl x k vsp) (h : QA cl K X (e :: es) ta wa) (hg : Gl X x := by rfl) (hdb : (x == ("__debug__" : Str)) = false := by decide)
    (he : starEach (e :: es) X.env = (false, eval e X.env) :: starEach es X.env := by rfl) (hpl : (backTo pos (starEach es X.env)).any (·.1) = false := by rfl) :
    QE cl K X (.Call (.Name x p2) (e :: es) [] pos) (fun σ H Q => tCall (fun vs H Q _ => spLD X cl k vsp σ vs H Q) [] E0 ta σ H Q) (wCallLX X cl k vsp wa) := by
  obtain rfl := h.k
  obtain ⟨g, fd, ps, R, hm, hk, hb⟩ := F.ex
  exact ⟨rfl, pe_callLX R hg hm hk hb h.pe hdb he hpl, se_callLX h.se⟩
variable {elt tg iter : Expr} {scope : Scope} {own : List (Str × Nat)} {wi : TI} {g : TG} {ts : List Nat} {wwi : WI} {wg : WG} {te : TE} {w : WE}
/-- [elt for tg in iter if not f(..)], f gets a lambda -/
theorem qn_lcLD (hc : X.calm = true) (hN : X.N.Nodup) (F : FnLX X cl x k vsp) (hi : QI cl K X tg iter wi wwi) (ok : BlkOk X.N X.env.scope scope own)
    (hg : ∀ (s : Shared) (H : Hp) (C : Addr) (cl' : List (Str × Addr)) (fp : List Addr), QG cl K (X.blk s H scope (compEnvC scope cl' C X.env) fp) tg g ts wg)
    (ha : ∀ (s : Shared) (H : Hp) (C : Addr) (cl' : List (Str × Addr)) (fp : List Addr), QA cl K (X.blk s H scope (compEnvC scope cl' C X.env) fp) (e :: es) ta wa)
    (hel : ∀ (s : Shared) (H : Hp) (C : Addr) (cl' : List (Str × Addr)) (fp : List Addr), QE cl K (X.blk s H scope (compEnvC scope cl' C X.env) fp) elt te w)
    (hgl : ∀ (s : Shared) (H : Hp) (C : Addr) (cl' : List (Str × Addr)) (fp : List Addr), Gl (X.blk s H scope (compEnvC scope cl' C X.env) fp) x := by intros; rfl) (hdb : (x == ("__debug__" : Str)) = false := by decide)
    (he : ∀ env, starEach (e :: es) env = (false, eval e env) :: starEach es env := by intro _; rfl) (hpl : ∀ env, (backTo pos (starEach es env)).any (·.1) = false := by intro _; rfl)
    (ht : ∀ env whole, isTrue (.Call (.Name x p2) (e :: es) [] pos) env whole = (do let v ← whole; standAt (Expr.pos (.Call (.Name x p2) (e :: es) [] pos)); holding [v] (truthy v)) := by intro _ _; rfl)
    (hv : ∀ t ∈ ts, t ∈ own.map (·.2) := by decide) (hs : ∀ x, foldedSetIterable iter X.env x = pure x := by intro _; rfl) :
    QN cl K X (.ListComp elt [⟨tg, iter, [.UnaryOp .Not (.Call (.Name x p2) (e :: es) [] pos) pos2], 0⟩] scope pos3) (fun σ H Q => tLc wi g (tNot (tB (tCall (fun vs H Q _ => spLD X cl k vsp σ vs H Q) [] E0 ta))) te (own.map (·.2)) σ H Q)
      (fun sl st R => wLc wwi wg (wNot (wTest (wCallLD X cl k vsp sl wa))) w (own.map (·.2)) sl st R) := by
  obtain rfl := hi.k
  obtain ⟨gf, fd, ps, R, hm, hk, hb⟩ := F.ex
  refine ⟨rfl, pe_lcL (tt := fun σ => tNot (tB (tCall (fun vs H Q _ => spLD X cl k vsp σ vs H Q) [] E0 ta))) hc hN hi.pe ok (fun s H C cl' fp => (hg s H C cl' fp).pe) (fun pins σ s H C cl' fp I hfp => ?_) (fun s H C cl' fp => (hel s H C cl' fp).pe) hs, ?_⟩
  · exact pts_one (pt_not (pt_val (pe_callLB I hfp (R σ) (hgl s H C cl' fp) hm hk hb (ha s H C cl' fp).pe hdb (he _) (hpl _)) (ht _)))
  · refine sen_lcR (tt := fun σ => tNot (tB (tCall (fun vs H Q _ => spLD X cl k vsp σ vs H Q) [] E0 ta))) (wt := fun sl => wNot (wTest (wCallLD X cl k vsp sl wa))) (si2_of hi.se) (hg X.s_0 X.H_0 0 [] []).se (fun F0 G0 H0 σ0 al0 sl0 st0 S0 => ?_) (hel X.s_0 X.H_0 0 [] []).se hv
    intro sl st R' hw F' G' H' σ al g' S Q q
    unfold wNot wTest at hw
    refine se_callLDR (ha X.s_0 X.H_0 0 [] []).se S0 sl st _ hw F' G' H' σ al g' S _ fun v y st1 F1 G1 H1 h1 g1 S1 r1 => ?_
    dsimp only at h1
    split at h1
    · cases r1
      exact ⟨_, rfl, q _ _ _ _ _ h1 g1 S1⟩
    · exact h1.elim
end
/-! ### the law's start, with the table of its code objects -/
section
variable {K : PySem.W.Frag} {cl : Str → Option Addr}
def spLawT (K : PySem.W.Frag) (P : Addr) : Sp := fun vs H Q _ => ∃ (a : Addr) (ns : List Int), vs = [.ref a] ∧ SqL K H a (ns.map V.int) ∧ ns.length ≤ 63 ∧ H P = some (.tbl #[]) ∧ ∀ H', Q (.bl true) H'
theorem run_lawT {t : TS} {w : WS} {d P : Addr} {q : Str} {H0 H : Hp} {σ : L2.St} {sl : Sl} {Q : VK} (hs : SS K cl t w) (e : Same H0 H) (hd0 : H0 d = none) (hd : DiceAt H d) (hP : H0 P = some (.tbl #[])) (len : σ.length = sl.length) (hsl : ∀ (i : Nat) (x : W), sl[i]? = some (some x) → x = .l 0 ∧ σ[i]? = some (some (.ref d)))
    (hQ : ∀ H', Q (.bl true) H') (hw : w { nx := fun _ _ => False, rt := fun p _ => p = .bl true } sl [.dice, .tab P q []]) : t { nx := fun _ H' => Q .non H', rt := Q } σ H := by
  have two : ∀ (j : Nat) (b : Addr), [d, P][j]? = some b → (j = 0 ∧ b = d) ∨ (j = 1 ∧ b = P) := fun j b h => by
    match j, h with
    | 0, h => exact .inl ⟨rfl, by simpa using h.symm⟩
    | 1, h => exact .inr ⟨rfl, by simpa using h.symm⟩
    | j + 2, h => simp at h
  have ndP : P ≠ d := ne_of_none hP hd0
  refine hs _ _ _ hw (noD H0 P) (fun _ => none) H σ [d, P] ⟨fun _ _ z => (by cases z), noD_same.trans e, fun i x h => ?_, len, fun j c h => ?_, fun j i a h1 h2 => ?_, fun j a h => ?_, rfl⟩ _ ⟨?_, ?_, ?_, ?_⟩
  · obtain ⟨rfl, h2⟩ := hsl i x h
    exact ⟨.ref d, h2, d, rfl, rfl⟩
  · match j, h with
    | 0, h =>
      have h' : some Cell.dice = some c := h
      cases h'
      exact ⟨d, rfl, by rw [noD_ne ndP.symm]; exact hd0, hd⟩
    | 1, h =>
      have h' : some (Cell.tab P q []) = some c := h
      cases h'
      refine ⟨P, rfl, noD_at, rfl, fun x hx => (by simp at hx), #[], e _ _ hP, True.intro, fun pos cv hc => ?_⟩
      have z : codeAmong pos [] = some cv := hc
      simp [codeAmong] at z
    | j + 2, h => simp at h
  · rcases two j a h1 with ⟨rfl, rfl⟩ | ⟨rfl, rfl⟩
    · rcases two i _ h2 with ⟨rfl, _⟩ | ⟨_, e⟩
      · rfl
      · exact (ndP e.symm).elim
    · rcases two i _ h2 with ⟨_, e⟩ | ⟨rfl, _⟩
      · exact (ndP e).elim
      · rfl
  · rcases two j a h with ⟨_, rfl⟩ | ⟨_, rfl⟩
    · obtain ⟨ds, e, _⟩ := hd
      exact ⟨_, e⟩
    · exact ⟨_, e _ _ hP⟩
  · intro _ _ _ _ _ _ _ h; exact h.elim
  · intro _ _ _ _ _ _ _ h; exact h.elim
  · intro _ _ _ _ _ _ _ h; exact h.elim
  · intro v p σ' sl' st' F' G' H' al' hR g S rv
    subst hR
    cases rv
    exact hQ H'
theorem run_law0T {X : Cx} {st0 : Stmt} {rest : List Stmt} {t : TS} {w : WS} {N : List Str} {vs : List V} {H : Hp} {Q : VK} {E : XK} {P : Addr} (q : Str) (h0 : PS X st0 (tAsg (tCall (spDice K) [] E0 (tCons (tVar 0) (tCons (tC (.int 0)) tNil))) (gName 1))) (qs : QSs cl K X rest t w) (hN : 2 ≤ N.length)
    (h : spLawT K P vs H Q E) (hw : w { nx := fun _ _ => False, rt := fun p _ => p = .bl true } (none :: some (.l 0) :: List.replicate (N.length - 2) none) [.dice, .tab P q []]) :
    ∃ t, PSs X (st0 :: rest) t ∧ t { nx := fun _ H' => Q .non H', rt := Q } (L2.start N vs) H := by
  obtain ⟨a, ns, rfl, hS, hlen, hP, hQ⟩ := h
  refine ⟨_, pss_cons h0 qs.pe, ?_⟩
  refine ⟨_, rfl, a, ns, 0, rfl, hS, hlen, by omega, by omega, fun p H' hp sH dice => ?_⟩
  refine run_lawT (d := p) (H0 := H) qs.se sH hp dice hP ?_ (fun i x e => ?_) hQ hw
  · unfold L2.start
    simp
    omega
  · match i, e with
    | 0, e => simp at e
    | 1, e =>
      have e' : x = .l 0 := by simpa using e.symm
      refine ⟨e', ?_⟩
      unfold L2.start
      rw [List.getElem?_set_self]
      simp
      omega
    | i + 2, e =>
      exfalso
      simp [List.getElem?_replicate] at e
/-- THE RULE for a def, its code object known -/
theorem okC {P : Program} {w : World} {mg : Str → Option Value} {base : Heap} {x qual : Str} {st : Stmt} {f : Addr} {oc : Value} {od an : Option Addr} {osl : Array (Option Value)} {kV doc pm cdv ct : Value} {N ps : List Str} {k : Nat} {sp : Sp}
    (lk : K.lookup f = some ⟨oc, od, .func (PySem.W.fnOf x qual (defArgs st) (defBody st) (defScope st) .none kV doc pm an cdv ct), osl⟩) (hcd : PySem.W.codeIn K cdv qual = true) (S : FnScope N ps (defScope st)) (len : ∀ vs H Q E, sp vs H Q E → vs.length = ps.length)
    (hbody : ∀ (A : Around) (outer : List Env) (s : Shared) (H : Hp) (vs : List V) (Q : VK) (E : XK), Room k (A.deeper (envOfC qual (defScope st) s.heap.objs.size f cdv)) → sp vs H Q E →
      ∃ t, PSs (cxOf CX0 P w K mg base N qual (defScope st) f cdv A outer s H E).nox (defBody st) t ∧ t { nx := fun _ H' => Q .non H', rt := Q } (L2.start N vs) H) : FnOk P w K mg base CX0 (k + 1) f (PySem.W.fnOf x qual (defArgs st) (defBody st) (defScope st) .none kV doc pm an cdv ct) ps sp := by
  refine fn_of lk hcd S len fun A outer s H vs Q E hr hsp => ?_
  obtain ⟨t, h, q⟩ := hbody A outer s H vs Q E hr hsp
  exact ⟨t, h.nox, q⟩
end
end LM

set_option Elab.async false
set_option linter.all false
set_option maxRecDepth 100000
set_option maxHeartbeats 4000000
/-! The lambdas of a law, by what each raises. -/
namespace LM
open PySem PySem.Spec PyProof.Rows L2 LamX VL VH VX
/-- the lambda at f is one of those made, and raises cn with ns = qs; sl: the slots that it sees -/
def LamIn (X : Cx) (cl : Str → Option Addr) (k : Nat) (ls : List (Addr × Lf)) (f : Addr) (sl : Sl) (cn : Str) (ns : List Str) (qs : List PV) : Prop :=
  ∃ (L : Lf) (wr : WR), (f, L) ∈ ls ∧ LamF X cl k f L wr ∧ wr (fun c n q => c = cn ∧ n = ns ∧ q = qs) sl [Cell.dice]
section
variable {X : Cx} {cl : Str → Option Addr} {k : Nat} {ls : List (Addr × Lf)} {f : Addr} {sl : Sl} {cn : Str} {ns : List Str} {qs : List PV}
theorem LamIn.more (h : LamIn X cl k ls f sl cn ns qs) (x : Addr × Lf) : LamIn X cl k (ls ++ [x]) f sl cn ns qs := by
  obtain ⟨L, wr, h1, h2⟩ := h
  exact ⟨L, wr, List.mem_append_left _ h1, h2⟩
theorem LamIn.new {L : Lf} {wr : WR} (M : LamF X cl k f L wr) (h : wr (fun c n q => c = cn ∧ n = ns ∧ q = qs) sl [Cell.dice]) : LamIn X cl k (ls ++ [(f, L)]) f sl cn ns qs :=
  ⟨L, wr, List.mem_append_right _ (List.mem_singleton.mpr rfl), M, h⟩
theorem LamIn.call {j kd : Nat} {P : Addr} {sl0 : Sl} {st2 : Sto} {vsp : Str → List Str → List PV → VSp} {zs : List PV} {R : PV → Prop} (h : LamIn X cl k ls f (sld kd sl0) cn ns qs) (hj : st2[j]? = some (.tab P (X.env.qual ++ "<lambda>") ls)) (hkd : st2[kd]? = some .dice) (hv : vsp cn ns qs zs R) :
    ∃ (j kd : Nat) (P : Addr) (ls : List (Addr × Lf)) (L : Lf) (wr : WR) (cn : Str) (ns : List Str) (qs : List PV), st2[j]? = some (.tab P (X.env.qual ++ "<lambda>") ls) ∧ (f, L) ∈ ls ∧ st2[kd]? = some .dice ∧ LamF X cl k f L wr ∧
      wr (fun c n q => c = cn ∧ n = ns ∧ q = qs) (sld kd sl0) [Cell.dice] ∧ vsp cn ns qs zs R := by
  obtain ⟨L, wr, h1, h2, h3⟩ := h
  exact ⟨j, kd, P, ls, L, wr, cn, ns, qs, hj, h1, hkd, h2, h3, hv⟩
end
end LM
set_option Elab.async false
set_option linter.all false
set_option maxRecDepth 100000
set_option maxHeartbeats 4000000
namespace LawT
open PySem L2 PySem.Spec PyProof.Rows VL
def topS (i : Nat) : Stmt := PySem.Challenge.pw_keyedtime_k02_readings_and_widths_refuse.main.body.getD i (.Pass ⟨0, 0, 0, 0⟩)
abbrev s_BadTaps___init__ : Stmt := inClass (topS 2) 0
abbrev s_BadTable___init__ : Stmt := inClass (topS 5) 0
abbrev s_BadText___init__ : Stmt := inClass (topS 7) 0
abbrev s_made : Stmt := topS 9
abbrev s_is_less : Stmt := topS 10
abbrev s_least_of : Stmt := topS 11
abbrev s_greatest_of : Stmt := topS 12
abbrev s_Taps___init__ : Stmt := inClass (topS 18) 0
abbrev s_Taps_times : Stmt := inClass (topS 18) 1
abbrev s_kinds_at : Stmt := topS 19
abbrev s_need_reading : Stmt := topS 20
abbrev s_nearest_kind : Stmt := topS 21
abbrev s_need_width : Stmt := topS 23
abbrev s_asked_by : Stmt := topS 24
abbrev s_width_of : Stmt := topS 25
abbrev s_least_width : Stmt := topS 26
abbrev s_is_allowed : Stmt := topS 27
abbrev s_units : Stmt := topS 28
abbrev s_barring : Stmt := topS 29
abbrev s_Found___init__ : Stmt := inClass (topS 32) 0
abbrev s_readings_of : Stmt := topS 33
abbrev s_in_order : Stmt := topS 34
abbrev s_by_width : Stmt := topS 35
abbrev s_is_ahead : Stmt := topS 36
abbrev s_readings : Stmt := topS 37
abbrev s_pieces : Stmt := topS 38
abbrev s__law_dice : Stmt := topS 40
abbrev s__law_off : Stmt := topS 41
abbrev s__law_kinds : Stmt := topS 42
abbrev s__law_reading : Stmt := topS 43
abbrev s__law_times : Stmt := topS 44
abbrev s__law_is : Stmt := topS 45
abbrev s__law_refused : Stmt := topS 46
abbrev s_law : Stmt := topS 47
structure Bi (mg : Str → Option Value) : Prop where
  abs_ : mg "abs" = none
  len_ : mg "len" = none
  range_ : mg "range" = none
  max_ : mg "max" = none
  min_ : mg "min" = none
  int_ : mg "int" = none
  list_ : mg "list" = none
  enumerate_ : mg "enumerate" = none
  isinstance_ : mg "isinstance" = none
  tuple_ : mg "tuple" = none
  ValueError_ : mg "ValueError" = none
structure Tx (K : PySem.W.Frag) (cl : Str → Option Addr) (mg : Str → Option Value) (C_Taps : Addr) (C_Found : Addr) : Prop where
  c_MOST_TAPS : Cn K cl mg "MOST_TAPS" (.int 25)
  c_MOST_TIME : Cn K cl mg "MOST_TIME" (.int 9999)
  c_DOWN : Cn K cl mg "DOWN" (.tup [.int 1, .int 3])
  c_UP : Cn K cl mg "UP" (.tup [.int 1, .int 3, .int 7])
  c_HALVES : Cn K cl mg "HALVES" (.tup [.int 2, .int 5])
  c_Taps : cl "Taps" = some C_Taps
  c_Found : cl "Found" = some C_Found
  f_kept : ∀ C, cl "Taps" = some C → Cls K C ∧ NoAttr K C "kept"
  f_reading : ∀ C, cl "Found" = some C → Cls K C ∧ NoAttr K C "reading"
  f_width : ∀ C, cl "Found" = some C → Cls K C ∧ NoAttr K C "width"
  p_Found : Plain K C_Found
open VH L2H HotX VX LM
structure Xx (K : PySem.W.Frag) (cl : Str → Option Addr) (mg : Str → Option Value) (C_TapError C_BadTaps C_BadReading C_BadWidth C_BadTable C_BadWords C_BadText : Addr) : Prop where
  gm_TapError : mg "TapError" = some (.ref C_TapError)
  gm_BadTaps : mg "BadTaps" = some (.ref C_BadTaps)
  gm_BadReading : mg "BadReading" = some (.ref C_BadReading)
  gm_BadWidth : mg "BadWidth" = some (.ref C_BadWidth)
  gm_BadTable : mg "BadTable" = some (.ref C_BadTable)
  gm_BadWords : mg "BadWords" = some (.ref C_BadWords)
  gm_BadText : mg "BadText" = some (.ref C_BadText)
  cl_BadReading : cl "BadReading" = some C_BadReading
  ec_BadReading : ExcC K C_BadReading
  xm_BadReading : PySem.W.exmOne K (.ref C_BadReading) (.ref C_TapError) = some true
  xt_BadReading : XT K C_BadTaps C_BadReading C_BadWidth C_BadTable C_BadWords C_BadText C_BadReading "reading"
  x0_BadReading : Xc0 K mg cl "BadReading" C_BadReading
  cl_BadWidth : cl "BadWidth" = some C_BadWidth
  ec_BadWidth : ExcC K C_BadWidth
  xm_BadWidth : PySem.W.exmOne K (.ref C_BadWidth) (.ref C_TapError) = some true
  xt_BadWidth : XT K C_BadTaps C_BadReading C_BadWidth C_BadTable C_BadWords C_BadText C_BadWidth "width"
  x0_BadWidth : Xc0 K mg cl "BadWidth" C_BadWidth
section
variable {P : Program} {wd : World} {K : PySem.W.Frag} {mg : Str → Option Value} {base : Heap} {cl : Str → Option Addr} {C_Taps : Addr} {C_Found : Addr} {C_TapError : Addr} {C_BadTaps : Addr} {C_BadReading : Addr} {C_BadWidth : Addr} {C_BadTable : Addr} {C_BadWords : Addr} {C_BadText : Addr}
theorem sc__law_dice : FnScope ["_law_script", "_law_k", "_law_found", "_law_cell"] ["_law_script", "_law_k"] (defScope s__law_dice) := ⟨rfl, rfl, rfl, by decide +kernel, rfl, by decide +kernel, by decide +kernel⟩
theorem ok__law_dice {f : Addr} {fd : FuncData} (F : Fun K "_law_dice" "_law_dice" s__law_dice f fd) (hm : mg "_law_dice" = some (.ref f)) (B : Bi mg) (T : Tx K cl mg C_Taps C_Found) : Fn P wd K mg base "_law_dice" 1 (spDice K) := by
  have nd := sc__law_dice.nd
  refine ⟨f, fd, ["_law_script", "_law_k"], F.ok sc__law_dice (fun vs H Q E h => ?_) (fun cdv A outer s H vs Q E hr h => ?_), hm, F.kp, F.binds fun _ _ _ _ _ _ us hl => match us, hl with | [_, _], _ => rfl⟩
  · obtain ⟨a, ns, k, rfl, _⟩ := h
    rfl
  obtain ⟨a, ns, k, rfl, hS, hlen, k0, k1, kk⟩ := h
  refine ⟨_, pss_cons (ps_set (i := 2) nd rfl (Or.inl rfl) (pv 1))
    (pss_cons (ps_for PassesOwn.never rfl (pi_list (pv 0)) (pg_name (i := 3) nd rfl (Or.inl rfl)) (pss_one (ps_set (i := 2) nd rfl (Or.inl rfl) (pe_op op_modN (pe_op op_add (pe_op op_mul (pv 2) pe_int) (pe_callB call_abs rfl B.abs_ (by decide +kernel) (pa_cons (pv 3) pa_nil))) pe_int))))
    (pss_one (ps_ret (pe_op op_cat (pe_lst (pa_cons (pv 2) (pa_cons pe_int pa_nil))) (pe_lc (own := [("_law_cell", 3)]) (g := gName 3) rfl nd (pi_list (pv 0)) (blkOk_by (own := [("_law_cell", 3)]) (N := ["_law_script", "_law_k", "_law_found", "_law_cell"]) (sc := defScope s__law_dice) (by decide +kernel))
      (fun _ _ _ _ _ => pg_name (i := 3) nd rfl (Or.inl rfl)) (fun _ _ _ _ _ => pts_one (pt_cmpR op_ge (pv 3) (pe_op op_pow pe_int pe_int) (nomark _))) (fun _ _ _ _ _ => pv 3)))))), ?_⟩
  refine ⟨_, rfl, _, rfl, a, rfl, ⟨_, hS⟩, for_list (K := K) (a := a) (xs := ns.map V.int) (fun i σ H' => ∃ (z : Int) (v : Option V), σ = [some (.ref a), some (.int k), some (.int z), v] ∧ H' = H ∧ 0 ≤ z ∧ z < 2147483647) ⟨k, none, rfl, rfl, k0, by omega⟩ (fun i σ H' _ ⟨_, _, _, e, _⟩ => by rw [e]; exact hS) ?_ ?_⟩
  · rintro i y σ H' hi ⟨z, v, rfl, rfl, h0, h1⟩
    obtain ⟨u, hu, rfl⟩ : ∃ u, ns[i]? = some u ∧ y = V.int u := by
      rw [List.getElem?_map] at hi
      cases e : ns[i]? with
      | none => rw [e] at hi; cases hi
      | some u => rw [e] at hi; exact ⟨u, rfl, (Option.some.inj hi).symm⟩
    refine ⟨_, rfl, _, _, rfl, rfl, .inl ⟨by omega, by omega⟩, _, rfl, u, rfl, _, _, rfl, rfl, _, _, rfl, rfl, by show (2147483647 : Int) ≠ 0; decide, ?_⟩
    have b := fmodB (x := z * 31 + (if u < 0 then -u else u)) (m := 2147483647) (by decide)
    exact ⟨_, _, rfl, rfl, b.1, b.2⟩
  · rintro σ H9 ⟨z, v, rfl, e9, h0, h1⟩
    subst e9
    refine ⟨_, rfl, by show 2 ≤ sizeLine; decide, fun p hp => ?_⟩
    have hSp : SqL K (upd H9 p (.lst [.int z, .int 0])) a (ns.map V.int) := sqL_mono (same_new hp) hS
    refine ⟨_, rfl, a, rfl, ⟨_, hSp⟩, fun D hD => ?_⟩
    have npD : p ≠ D := fun e => by rw [e, upd_same] at hD; cases hD
    refine lc_list (K := K) (a := a) (xs := ns.map V.int) (fun i H' => ∃ ds : List Int, H' = upd (upd H9 p (.lst [.int z, .int 0])) D (.lst (ds.map V.int)) ∧ ds.length ≤ i ∧ ∀ x ∈ ds, 0 ≤ x) ⟨[], rfl, Nat.le_refl _, by simp⟩ (fun i H' _ ⟨ds, e, _⟩ => by rw [e]; exact sqL_mono (same_new hD) hSp) ?_ ?_
    · rintro i y H' hi ⟨ds, rfl, hl, hd⟩
      obtain ⟨u, hu, rfl⟩ : ∃ u, ns[i]? = some u ∧ y = V.int u := by
        rw [List.getElem?_map] at hi
        cases e : ns[i]? with
        | none => rw [e] at hi; cases hi
        | some u => rw [e] at hi; exact ⟨u, rfl, (Option.some.inj hi).symm⟩
      have hi63 : i < ns.length := (List.getElem?_eq_some_iff.mp hu).1
      refine ⟨rfl, _, rfl, _, _, rfl, rfl, ⟨by decide, by decide, by decide⟩, _, _, rfl, rfl, _, rfl, ?_⟩
      by_cases c : (10 : Int) ^ (18 : Int).toNat ≤ u
      · rw [decide_eq_true c]
        refine iteT ⟨_, rfl, _, upd_same, by rw [List.length_map]; exact Nat.lt_of_le_of_lt (show ds.length ≤ 63 by omega) (by decide), ds ++ [u], ?_, by simp; omega, all_snoc hd (Int.le_trans (by decide) c)⟩
        rw [upd_upd, List.map_append]
        rfl
      · rw [decide_eq_false c]
        exact iteF ⟨ds, rfl, by omega, hd⟩
    · rintro H' ⟨ds, rfl, hl, hd⟩
      rw [List.length_map] at hl
      refine ⟨p, D, _, _, rfl, rfl, by rw [upd_ne npD]; exact upd_same, upd_same, by rw [List.length_map]; exact Nat.le_trans (show 2 + ds.length ≤ 65 by omega) (by decide), fun r hr => ?_⟩
      have hr1 : upd H9 p (.lst [.int z, .int 0]) r = none := (same_new hD).free hr
      have hr2 : H9 r = none := (same_new hp).free hr1
      refine kk r _ hr2 (((same_new hp).trans (same_new hD)).trans (same_new hr)) ⟨[z, 0] ++ ds, ?_, dice_len hl hlen h0 hd⟩
      rw [upd_same, List.map_append]
      rfl

theorem sc_Taps___init__ : FnScope ["self", "times", "at"] ["self", "times"] (defScope s_Taps___init__) := ⟨rfl, rfl, rfl, by decide +kernel, rfl, by decide +kernel, by decide +kernel⟩
theorem ok_Taps___init__ {f : Addr} {fd : FuncData} (F : Fun K "__init__" "Taps.__init__" s_Taps___init__ f fd) (M : Mk K C_Taps f) (hm : mg "Taps" = some (.ref C_Taps)) (B : Bi mg) (T : Tx K cl mg C_Taps C_Found) : Mkc P wd K mg base "Taps" C_Taps 1 (toSpI K cl C_Taps sp_Taps) := by
  have nd := sc_Taps___init__.nd
  have len : ∀ vs H Q E, toSpI K cl C_Taps sp_Taps vs H Q E → vs.length = (["self", "times"] : List Str).length := fun vs H Q E h => by
    obtain ⟨x, dx, us, H', G, ps, R, rfl, _, _, _, _, _, r, ⟨ts, rfl, _⟩, _⟩ := h
    rw [List.length_cons, r.len]
    rfl
  refine ⟨f, fd, ["self", "times"], F.ok sc_Taps___init__ len (fun cdv A outer s H vs Q E hr h => ?_), M, hm, F.binds fun _ _ _ _ _ _ us hl => match us, hl with | [_, _], _ => rfl⟩
  refine run_init1' (c := "Taps") (qs_if (t_w (tw_or (t_not (t_chain op_le sr_le op_le sr_le q_int (q_cb call_lenK sc_len B.len_ (by decide +kernel) (qa_cons (q_v 1) qa_nil)) (q_cn T.c_MOST_TAPS))) (tw_or1 (t_cmp (op_eqK hr.units) sr_eq (q_mod (q_cb call_lenK sc_len B.len_ (by decide +kernel) (qa_cons (q_v 1) qa_nil)) q_int) q_int (nomark _))))) (qss_one qs_never) qss_nil)
    (qs_for PassesOwn.never rfl (qi_r1 B.range_ (qa_cons (q_cb call_lenK sc_len B.len_ (by decide +kernel) (qa_cons (q_v 1) qa_nil)) qa_nil)) (qg_n 2 nd) (qss_one (qs_if (t_not (t_chain op_le sr_le op_le sr_le q_int (q_ix (q_v 1) (q_v 2)) (q_cn T.c_MOST_TIME))) (qss_one qs_never) qss_nil)))
    (q_n (qn_list B.list_ (by decide +kernel) (qa_cons (q_v 1) qa_nil))) rfl (Or.inl rfl) rfl T.c_Taps (T.f_kept _ T.c_Taps) (by rw [len _ _ _ _ h]; decide) (by decide) (by decide) h ?_
  intro x ps R h
  obtain ⟨ts, rfl, ⟨h1, h2, h3, h4⟩, hR⟩ := h
  refine iteDT (by simp; omega) ?_
  refine iteNDT (by simp; omega) ?_
  refine ⟨by show (2 : Int) ≠ 0; decide, ?_⟩
  refine iteDF (by rw [List.length_map, fmod2]; omega) ?_
  refine forR (n := ts.length) (by simp) (by omega) (fun i sl st => ∃ x2, sl = [some (.o (.ref x)), some (.v (ils ts)), x2] ∧ st = []) ⟨none, rfl, rfl⟩ ?_ ?_
  · rintro i sl st hi ⟨x2, rfl, rfl⟩
    have b := h4 _ (at0_mem hi)
    refine ⟨_, idx_int hi, ?_⟩
    refine iteDT (by omega) ?_
    refine iteNDT (by omega) ?_
    exact ⟨_, rfl, rfl⟩
  · rintro sl st ⟨x2, rfl, rfl⟩
    exact ⟨rfl, _, rfl, hR⟩

theorem sc__law_off : FnScope ["_law_d", "_law_most", "_law_found"] ["_law_d", "_law_most"] (defScope s__law_off) := ⟨rfl, rfl, rfl, by decide +kernel, rfl, by decide +kernel, by decide +kernel⟩
theorem ok__law_off {f : Addr} {fd : FuncData} (F : Fun K "_law_off" "_law_off" s__law_off f fd) (hm : mg "_law_off" = some (.ref f)) (B : Bi mg) (T : Tx K cl mg C_Taps C_Found)  : Fn P wd K mg base "_law_off" 1 (toSpD K cl sp_off) := by
  have nd := sc__law_off.nd
  refine Fn.ofL F hm sc__law_off (by decide) (fun qs R h => by first | (obtain ⟨rfl, _⟩ := h; rfl) | (obtain ⟨_, rfl, _⟩ := h; rfl) | (obtain ⟨_, _, rfl, _⟩ := h; rfl) | (obtain ⟨_, _, _, rfl, _⟩ := h; rfl) | (obtain ⟨_, _, _, _, rfl, _⟩ := h; rfl) | (obtain ⟨_, _, _, _, _, rfl, _⟩ := h; rfl) | (obtain ⟨_, _, h | h, _⟩ := h <;> subst h <;> rfl) | (obtain ⟨_, _, _, _, h | h, _⟩ := h <;> subst h <;> rfl)) (fun _ _ _ _ _ _ us hl => match us, hl with | [_, _], _ => rfl) (fun cdv A outer s H E hr => ⟨_, _,
    (qss_cut (qs_if (t_w (tw_and (t_cmp (op_eqK hr.units) sr_eq (q_ix (q_v 0) q_int) q_int (nomark _)) (tw_and1 (t_cmp op_gt sr_gt (q_cb call_lenK sc_len B.len_ (by decide +kernel) (qa_cons (q_v 0) qa_nil)) q_int (nomark _))))) (qss_one (qs_sub (q_lm PySem.F.slot_list_pop PySem.F.type_list_pop mt_popAt slm_pop (q_v 0) (qa_cons q_int qa_nil)) (q_v 0) q_int)) qss_nil)
    (qss_cons (qs_if (t_cmp op_gt sr_gt (q_ix (q_v 0) q_int) q_int (nomark _)) (qss_cons (qs_set 2 nd (q_mod (q_ix (q_v 0) q_int) (q_v 1)))
    (qss_cons (qs_sub (q_fdiv (q_ix (q_v 0) q_int) (q_v 1)) (q_v 0) q_int)
    (qss_one (qs_ret (q_v 2))))) qss_nil)
    (qss_cons (qs_sub (q_mod (q_add (q_mul (q_ix (q_v 0) q_int) q_int) q_int) q_int) (q_v 0) q_int)
    (qss_one (qs_ret (q_mod (q_fdiv (q_ix (q_v 0) q_int) q_int) (q_v 1))))))), ?_⟩)
  · intro qs R ds h dok
    obtain ⟨m, rfl, h1, h2, hR⟩ := h
    refine ⟨fun sl st => sl = [some (.l 0), some (.v (.int m)), none] ∧ ∃ ds : List Int, st = [.lst (ds.map PV.int)] ∧ DiceOk ds, ?_, ?_⟩
    · have l2 := dok.1
      refine ⟨_, idx_int (i := 1) (by omega), ?_⟩
      refine iteD (fun h => ?_) (fun h => ?_)
      · refine iteD (fun h => ?_) (fun h => ?_)
        · have h3 : 3 ≤ ds.length := by simp at h; omega
          refine ⟨by decide, by decide, _, get_int (i := 2) (by omega), 1, ixN_lit (by decide) (by rw [List.length_eraseIdx]; simp; split <;> omega), rfl, _, ?_, ((dok.erase (k := 2) h3).set (k := 1) (dok.at (k := 2) (by omega)))⟩
          rw [← map_setI, ← map_erase]
          rfl
        · exact ⟨rfl, ds, rfl, dok⟩
      · exact ⟨rfl, ds, rfl, dok⟩
    · rintro sl st ⟨rfl, ds, rfl, dok⟩
      have l2 := dok.1
      refine ⟨_, idx_int (i := 1) (by omega), ?_⟩
      refine iteD (fun h => ?_) (fun h => ?_)
      · refine ⟨_, idx_int (i := 1) (by omega), by show m ≠ 0; omega, _, idx_int (i := 1) (by omega), ⟨by omega, by omega⟩, 1, ixN_lit (by decide) (by simp; omega), ?_⟩
        refine ⟨hR _ (fmodB h1).1 (fmodB h1).2, _, ?_, dok.set (k := 1) (fdiv0 (dok.at (k := 1) (by omega)) h1)⟩
        rw [← map_setI]
        rfl
      · refine ⟨_, idx_int (i := 0) (by omega), .inr ⟨by decide, by decide⟩, by show (2147483647 : Int) ≠ 0; decide, 0, ixN_lit (by decide) (by simp; omega), ?_⟩
        rw [map_setI]
        refine ⟨_, idx_int (i := 0) (by simp; omega), ⟨by decide, by decide⟩, by show m ≠ 0; omega, ?_⟩
        exact ⟨hR _ (fmodB h1).1 (fmodB h1).2, _, rfl, dok.set (k := 0) (fmodB (by decide)).1⟩

theorem sc__law_kinds : FnScope ["_law_at"] ["_law_at"] (defScope s__law_kinds) := ⟨rfl, rfl, rfl, by decide +kernel, rfl, by decide +kernel, by decide +kernel⟩
theorem ok__law_kinds {f : Addr} {fd : FuncData} (F : Fun K "_law_kinds" "_law_kinds" s__law_kinds f fd) (hm : mg "_law_kinds" = some (.ref f)) (B : Bi mg) (T : Tx K cl mg C_Taps C_Found)  : Fn P wd K mg base "_law_kinds" 1 (toSp K cl sp_lkinds) := by
  have nd := sc__law_kinds.nd
  refine Fn.of F hm sc__law_kinds (by decide) (fun qs R h => by first | (obtain ⟨rfl, _⟩ := h; rfl) | (obtain ⟨_, rfl, _⟩ := h; rfl) | (obtain ⟨_, _, rfl, _⟩ := h; rfl) | (obtain ⟨_, _, _, rfl, _⟩ := h; rfl) | (obtain ⟨_, _, _, _, rfl, _⟩ := h; rfl) | (obtain ⟨_, _, _, _, _, rfl, _⟩ := h; rfl) | (obtain ⟨_, _, h | h, _⟩ := h <;> subst h <;> rfl) | (obtain ⟨_, _, _, _, h | h, _⟩ := h <;> subst h <;> rfl)) (fun _ _ _ _ _ _ us hl => match us, hl with | [_], _ => rfl) (fun cdv A outer s H E hr => ⟨_, _,
    (qss_one (qs_ret (q_ix (q_n (qn_lst (qa_cons (q_n (qn_lst (qa_cons q_int (qa_cons q_int qa_nil)))) (qa_cons (q_n (qn_lst (qa_cons q_int (qa_cons q_int (qa_cons q_int qa_nil))))) qa_nil)))) (q_mod (q_v 0) q_int)))), ?_⟩)
  · intro qs R h
    obtain ⟨i, rfl, hR⟩ := h
    refine ⟨by show 2 ≤ sizeLine; decide, by show 3 ≤ sizeLine; decide, by show 2 ≤ sizeLine; decide, by show (2 : Int) ≠ 0; decide, ?_⟩
    rcases Nat.mod_two_eq_zero_or_one i with h | h
    · have e : kindsL i = [1, 3] := if_neg (by omega)
      rw [e] at hR
      exact ⟨ils [1, 3], (by show idx [ils [1, 3], ils [1, 3, 7]] ((i : Int).fmod 2) = _; rw [fmod2, h]; rfl), hR⟩
    · have e : kindsL i = [1, 3, 7] := if_pos h
      rw [e] at hR
      exact ⟨ils [1, 3, 7], (by show idx [ils [1, 3], ils [1, 3, 7]] ((i : Int).fmod 2) = _; rw [fmod2, h]; rfl), hR⟩

theorem sc__law_reading : FnScope ["_law_d", "_law_many", "_law_at"] ["_law_d", "_law_many"] (defScope s__law_reading) := ⟨rfl, rfl, rfl, by decide +kernel, rfl, by decide +kernel, by decide +kernel⟩
theorem ok__law_reading {f : Addr} {fd : FuncData} (F : Fun K "_law_reading" "_law_reading" s__law_reading f fd) (hm : mg "_law_reading" = some (.ref f)) (B : Bi mg) (T : Tx K cl mg C_Taps C_Found) (F__law_kinds : Fn P wd K mg base "_law_kinds" 1 (toSp K cl sp_lkinds)) (F__law_off : Fn P wd K mg base "_law_off" 1 (toSpD K cl sp_off)) : Fn P wd K mg base "_law_reading" 2 (toSpD K cl sp_lreading) := by
  have nd := sc__law_reading.nd
  refine Fn.ofD F hm sc__law_reading (by decide) (fun qs R h => by first | (obtain ⟨rfl, _⟩ := h; rfl) | (obtain ⟨_, rfl, _⟩ := h; rfl) | (obtain ⟨_, _, rfl, _⟩ := h; rfl) | (obtain ⟨_, _, _, rfl, _⟩ := h; rfl) | (obtain ⟨_, _, _, _, rfl, _⟩ := h; rfl) | (obtain ⟨_, _, _, _, _, rfl, _⟩ := h; rfl) | (obtain ⟨_, _, h | h, _⟩ := h <;> subst h <;> rfl) | (obtain ⟨_, _, _, _, h | h, _⟩ := h <;> subst h <;> rfl)) (fun _ _ _ _ _ _ us hl => match us, hl with | [_, _], _ => rfl) (fun cdv A outer s H E hr => ⟨_, _,
    (qss_one (qs_ret (q_n (qn_lc (own := [("_law_at", 2)]) rfl nd (qi_r1 B.range_ (qa_cons (q_v 1) qa_nil)) (blkOk_by (own := [("_law_at", 2)]) (N := ["_law_d", "_law_many", "_law_at"]) (sc := defScope s__law_reading) (by decide +kernel)) (by intro _ _ _ _ _; exact (qg_n 2 nd)) (by intro _ _ _ _ _; exact qps_nil) (by intro _ _ _ _ _; exact (q_ix (q_call F__law_kinds (hr.mono (by decide)) (qa_cons (q_v 2) qa_nil)) (q_callD F__law_off (hr.mono (by decide)) (qa_cons (q_v 0) (qa_cons (q_add q_int (q_mod (q_v 2) q_int)) qa_nil))))))))), ?_⟩)
  · intro qs R h
    obtain ⟨n, rfl, hn, hR⟩ := h
    refine lcRy (n := n) rfl (by omega) (fun i acc st => st = [.dice] ∧ ∃ rs : List Int, acc = rs.map PV.int ∧ rs.length = i ∧ Valid rs) ⟨rfl, [], rfl, rfl, fun i hi => by simp at hi⟩ ?_ ?_
    · rintro i acc st hi ⟨rfl, rs, rfl, hl, hv⟩
      refine ⟨i, rfl, by show (2 : Int) ≠ 0; decide, rfl, _, rfl, by rw [fmod2]; omega, by rw [fmod2]; omega, fun r h0 h1 => ?_⟩
      have hk : r < (kindsL i).length := by
        rw [fmod2] at h1
        unfold kindsL
        split <;> simp <;> omega
      obtain ⟨k, rfl⟩ : ∃ k : Nat, r = k := ⟨r.toNat, by omega⟩
      refine ⟨_, idx_int (i := k) (by omega), rfl, rs ++ [at0 (kindsL i) k], by simp, by simp [hl], hv.snoc ?_⟩
      rw [Nat.zero_add, hl]
      exact at0_mem (by omega)
    · rintro acc st ⟨rfl, rs, rfl, hl, hv⟩
      exact hR rs hl hv

theorem sc__law_times : FnScope ["_law_d", "_law_most", "_law_many", "_law_reading_here", "_law_unit", "_law_shake", "_law_times_here", "_law_at", "_law_k", "_law_time"] ["_law_d", "_law_most"] (defScope s__law_times) := ⟨rfl, rfl, rfl, by decide +kernel, rfl, by decide +kernel, by decide +kernel⟩
theorem ok__law_times {f : Addr} {fd : FuncData} (F : Fun K "_law_times" "_law_times" s__law_times f fd) (hm : mg "_law_times" = some (.ref f)) (B : Bi mg) (T : Tx K cl mg C_Taps C_Found) (F__law_off : Fn P wd K mg base "_law_off" 1 (toSpD K cl sp_off)) (F__law_reading : Fn P wd K mg base "_law_reading" 2 (toSpD K cl sp_lreading)) : Fn P wd K mg base "_law_times" 3 (toSpD K cl sp_ltimes) := by
  have nd := sc__law_times.nd
  refine Fn.ofD F hm sc__law_times (by decide) (fun qs R h => by first | (obtain ⟨rfl, _⟩ := h; rfl) | (obtain ⟨_, rfl, _⟩ := h; rfl) | (obtain ⟨_, _, rfl, _⟩ := h; rfl) | (obtain ⟨_, _, _, rfl, _⟩ := h; rfl) | (obtain ⟨_, _, _, _, rfl, _⟩ := h; rfl) | (obtain ⟨_, _, _, _, _, rfl, _⟩ := h; rfl) | (obtain ⟨_, _, h | h, _⟩ := h <;> subst h <;> rfl) | (obtain ⟨_, _, _, _, h | h, _⟩ := h <;> subst h <;> rfl)) (fun _ _ _ _ _ _ us hl => match us, hl with | [_, _], _ => rfl) (fun cdv A outer s H E hr => ⟨_, _,
    (qss_cons (qs_set 2 nd (q_add q_int (q_mul q_int (q_callD F__law_off (hr.mono (by decide)) (qa_cons (q_v 0) (qa_cons (q_fdiv (q_add (q_v 1) q_int) q_int) qa_nil))))))
    (qss_cons (qs_set 3 nd (q_callD F__law_reading (hr.mono (by decide)) (qa_cons (q_v 0) (qa_cons (q_v 2) qa_nil))))
    (qss_cons (qs_set 4 nd (q_add q_int (q_callD F__law_off (hr.mono (by decide)) (qa_cons (q_v 0) (qa_cons (q_ix (q_n (qn_lst (qa_cons q_int (qa_cons q_int (qa_cons q_int qa_nil))))) (q_callD F__law_off (hr.mono (by decide)) (qa_cons (q_v 0) (qa_cons q_int qa_nil)))) qa_nil)))))
    (qss_cons (qs_set 5 nd (q_ix (q_n (qn_lst (qa_cons q_int (qa_cons q_int (qa_cons (q_add q_int (q_fdiv (q_v 4) q_int)) (qa_cons (q_add q_int (q_v 4)) qa_nil)))))) (q_callD F__law_off (hr.mono (by decide)) (qa_cons (q_v 0) (qa_cons q_int qa_nil)))))
    (qss_cut (qn_lcL 6 (own := [("_law_at", 7)]) rfl nd (qi_r1 B.range_ (qa_cons (q_v 2) qa_nil)) (blkOk_by (own := [("_law_at", 7)]) (N := ["_law_d", "_law_most", "_law_many", "_law_reading_here", "_law_unit", "_law_shake", "_law_times_here", "_law_at", "_law_k", "_law_time"]) (sc := defScope s__law_times) (by decide +kernel)) (by intro _ _ _ _ _; exact (qg_n 7 nd)) (by intro _ _ _ _ _; exact qps_nil) (by intro _ _ _ _ _; exact (q_cb (call_max2' rfl) sc_max2 B.max_ (by decide +kernel) (qa_cons q_int (qa_cons (q_sub (q_add (q_mul (q_ix (q_v 3) (q_v 7)) (q_v 4)) (q_callD F__law_off (hr.mono (by decide)) (qa_cons (q_v 0) (qa_cons (q_add (q_mul q_int (q_v 5)) q_int) qa_nil)))) (q_v 5)) qa_nil)))))
    (qss_cut (qs_if (t_cmp (op_eqK hr.units) sr_eq (q_callD F__law_off (hr.mono (by decide)) (qa_cons (q_v 0) (qa_cons q_int qa_nil))) q_int (nomark _)) (qss_one (qn_lcL 6 (own := [("_law_at", 7)]) rfl nd (qi_r1 B.range_ (qa_cons (q_v 2) qa_nil)) (blkOk_by (own := [("_law_at", 7)]) (N := ["_law_d", "_law_most", "_law_many", "_law_reading_here", "_law_unit", "_law_shake", "_law_times_here", "_law_at", "_law_k", "_law_time"]) (sc := defScope s__law_times) (by decide +kernel)) (by intro _ _ _ _ _; exact (qg_n 7 nd)) (by intro _ _ _ _ _; exact qps_nil) (by intro _ _ _ _ _; exact (q_add q_int (q_callD F__law_off (hr.mono (by decide)) (qa_cons (q_v 0) (qa_cons (q_ix (q_n (qn_lst (qa_cons q_int (qa_cons q_int qa_nil)))) (q_callD F__law_off (hr.mono (by decide)) (qa_cons (q_v 0) (qa_cons q_int qa_nil)))) qa_nil))))))) qss_nil)
    (qss_cut (qs_if (t_cmp (op_eqK hr.units) sr_eq (q_callD F__law_off (hr.mono (by decide)) (qa_cons (q_v 0) (qa_cons q_int qa_nil))) q_int (nomark _)) (qss_cons (qs_set 7 nd (q_callD F__law_off (hr.mono (by decide)) (qa_cons (q_v 0) (qa_cons (q_v 2) qa_nil))))
    (qss_one (qn_lcL 6 (own := [("_law_k", 8), ("_law_time", 9)]) rfl nd (qi_enum B.enumerate_ (qa_cons (q_v 6) qa_nil)) (blkOk_by (own := [("_law_k", 8), ("_law_time", 9)]) (N := ["_law_d", "_law_most", "_law_many", "_law_reading_here", "_law_unit", "_law_shake", "_law_times_here", "_law_at", "_law_k", "_law_time"]) (sc := defScope s__law_times) (by decide +kernel)) (by intro _ _ _ _ _; exact (qg_tup (n := 2) rfl (qgs_cons (qg_n 8 nd) (qgs_cons (qg_n 9 nd) qgs_nil)))) (by intro _ _ _ _ _; exact qps_nil) (by intro _ _ _ _ _; exact (q_ix (q_n (qn_lst (qa_cons (q_v 9) (qa_cons (q_add q_int (q_mul (q_v 9) q_int)) qa_nil)))) (q_ct call_int1' sc_int1 B.int_ (by decide +kernel) (qa_cons (q_cmp op_ge sr_ge (q_v 8) (q_v 7) (nomark _)) qa_nil))))))) qss_nil)
    (qss_one (qs_ret (q_n (qn_lc (own := [("_law_time", 9)]) rfl nd (qi_list (q_v 6)) (blkOk_by (own := [("_law_time", 9)]) (N := ["_law_d", "_law_most", "_law_many", "_law_reading_here", "_law_unit", "_law_shake", "_law_times_here", "_law_at", "_law_k", "_law_time"]) (sc := defScope s__law_times) (by decide +kernel)) (by intro _ _ _ _ _; exact (qg_n 9 nd)) (by intro _ _ _ _ _; exact qps_nil) (by intro _ _ _ _ _; exact (q_cb (call_min2' rfl) sc_min2 B.min_ (by decide +kernel) (qa_cons q_int (qa_cons (q_v 9) qa_nil))))))))))))))), ?_⟩)
  · intro qs R h
    obtain ⟨m, rfl, h1, h2, hR⟩ := h
    refine ⟨by show (2 : Int) ≠ 0 ∧ _; decide, rfl, _, rfl, by rw [Int.fdiv_eq_ediv_of_nonneg _ (by decide)]; omega, by rw [Int.fdiv_eq_ediv_of_nonneg _ (by decide)]; omega, fun r h3 h4 => ?_⟩
    rw [Int.fdiv_eq_ediv_of_nonneg _ (by decide)] at h4
    obtain ⟨n, hn, hn2, hn3⟩ : ∃ n : Nat, 1 + 2 * r = (n : Int) ∧ n % 2 = 1 ∧ n ≤ m := ⟨(1 + 2 * r).toNat, by omega, by omega, by omega⟩
    refine ⟨.inl ⟨by decide, by decide⟩, rfl, n, by rw [hn], by omega, fun rs hl hv => ?_⟩
    refine ⟨by show 3 ≤ sizeLine; decide, rfl, 3, rfl, by decide, by decide, fun r2 h5 h6 => ?_⟩
    obtain ⟨_, hu, u, rfl, hu2, hu3⟩ := pick (P := fun p => ∃ u : Int, p = PV.int u ∧ 1 ≤ u ∧ u ≤ 999) (xs := [PV.int 6, .int 60, .int 999]) h5 h6 (by
      intro x hx
      simp at hx
      rcases hx with rfl | rfl | rfl
      · exact ⟨6, rfl, by decide, by decide⟩
      · exact ⟨60, rfl, by decide, by decide⟩
      · exact ⟨999, rfl, by decide, by decide⟩)
    refine ⟨_, hu, rfl, u, rfl, hu2, by omega, fun r3 h7 h8 => ?_⟩
    refine ⟨⟨by decide, by decide⟩, by show 4 ≤ sizeLine; decide, rfl, 4, rfl, by decide, by decide, fun r5 h9 h10 => ?_⟩
    obtain ⟨_, hs, sh, rfl, hs2, hs3⟩ := pick (P := fun p => ∃ u : Int, p = PV.int u ∧ 0 ≤ u ∧ u ≤ 1000) (xs := [PV.int 0, .int 1, .int (1 + (1 + r3).fdiv 4), .int (1 + (1 + r3))]) h9 h10 (by
      intro x hx
      simp at hx
      rw [Int.fdiv_eq_ediv_of_nonneg _ (by decide)] at hx
      rcases hx with rfl | rfl | rfl | rfl
      · exact ⟨0, rfl, by decide, by decide⟩
      · exact ⟨1, rfl, by decide, by decide⟩
      · exact ⟨_, rfl, by omega, by omega⟩
      · exact ⟨_, rfl, by omega, by omega⟩)
    refine ⟨_, hs, ?_⟩
    have hu4 : 1 ≤ 1 + r3 ∧ 1 + r3 ≤ 999 := by omega
    generalize 1 + r3 = u' at *
    refine ⟨fun sl st => ∃ (ts : List Int) (x3 x4 x5 x7 x8 x9 : Option W), sl = [some (.l 0), some (.v (.int m)), some (.v (.int n)), x3, x4, x5, some (.v (ils ts)), x7, x8, x9] ∧ st = [.dice] ∧ ts.length = n ∧ ∀ x ∈ ts, 1 ≤ x ∧ x ≤ 100000, ?_, ?_⟩
    · rw [hn]
      refine lcRy (n := n) rfl (by omega) (fun i acc st => st = [.dice] ∧ ∃ ts : List Int, acc = ts.map PV.int ∧ ts.length = i ∧ ∀ x ∈ ts, 1 ≤ x ∧ x ≤ 100000) ⟨rfl, [], rfl, rfl, by simp⟩ ?_ ?_
      · rintro i acc st hi ⟨rfl, ts, rfl, hl2, hv2⟩
        have b1 := hv.rok.at (i := i) (by omega)
        have b2 := mulB b1.1 b1.2 hu4.1 hu4.2
        refine ⟨_, idx_int (i := i) (by omega), .inr ⟨by omega, by omega⟩, .inl ⟨by decide, by decide⟩, rfl, _, rfl, by omega, by omega, fun r4 ha hb => ?_⟩
        refine ⟨rfl, _, map_snoc ts _, by simp [hl2], all_snoc hv2 ?_⟩
        exact maxB (by omega) (by decide)
      · rintro acc st ⟨rfl, ts, rfl, hl2, hv2⟩
        exact ⟨ts, _, _, _, _, _, _, rfl, rfl, hl2, hv2⟩
    rintro sl st ⟨ts, x3, x4, x5, x7, x8, x9, rfl, rfl, hl2, hv2⟩
    refine ⟨fun sl st => ∃ (ts : List Int) (x3 x4 x5 x7 x8 x9 : Option W), sl = [some (.l 0), some (.v (.int m)), some (.v (.int n)), x3, x4, x5, some (.v (ils ts)), x7, x8, x9] ∧ st = [.dice] ∧ ts.length = n ∧ ∀ x ∈ ts, 1 ≤ x ∧ x ≤ 100000, ?_, ?_⟩
    · refine ⟨rfl, 6, rfl, by decide, by decide, fun r6 h11 h12 => ?_⟩
      refine iteD (fun h => ?_) (fun h => ?_)
      · refine lcRy (n := n) rfl (by omega) (fun i acc st => st = [.dice] ∧ ∃ ts : List Int, acc = ts.map PV.int ∧ ts.length = i ∧ ∀ x ∈ ts, 1 ≤ x ∧ x ≤ 100000) ⟨rfl, [], rfl, rfl, by simp⟩ ?_ ?_
        · rintro i acc st hi ⟨rfl, ts, rfl, hl2, hv2⟩
          refine ⟨by show 2 ≤ sizeLine; decide, rfl, 2, rfl, by decide, by decide, fun r7 h13 h14 => ?_⟩
          obtain ⟨_, hs, k, rfl, hs2, hs3⟩ := pick (P := fun p => ∃ u : Int, p = PV.int u ∧ 1 ≤ u ∧ u ≤ 9999) (xs := [PV.int 9, .int 9999]) h13 h14 (by
            intro x hx
            simp at hx
            rcases hx with rfl | rfl
            · exact ⟨9, rfl, by decide, by decide⟩
            · exact ⟨9999, rfl, by decide, by decide⟩)
          refine ⟨_, hs, rfl, k, rfl, by omega, by omega, fun r8 h15 h16 => ?_⟩
          exact ⟨rfl, _, map_snoc ts _, by simp [hl2], all_snoc hv2 (by omega)⟩
        · rintro acc st ⟨rfl, ts, rfl, hl2, hv2⟩
          exact ⟨ts, _, _, _, _, _, _, rfl, rfl, hl2, hv2⟩
      · exact ⟨ts, _, _, _, _, _, _, rfl, rfl, hl2, hv2⟩
    rintro sl st ⟨ts, x3, x4, x5, x7, x8, x9, rfl, rfl, hl2, hv2⟩
    refine ⟨fun sl st => ∃ (ts : List Int) (x3 x4 x5 x7 x8 x9 : Option W), sl = [some (.l 0), some (.v (.int m)), some (.v (.int n)), x3, x4, x5, some (.v (ils ts)), x7, x8, x9] ∧ st = [.dice] ∧ ts.length = n ∧ ∀ x ∈ ts, 1 ≤ x ∧ x ≤ 1000000, ?_, ?_⟩
    · refine ⟨rfl, 6, rfl, by decide, by decide, fun r6 h11 h12 => ?_⟩
      refine iteD (fun h => ?_) (fun h => ?_)
      · refine ⟨rfl, n, rfl, by omega, by omega, fun r7 h13 h14 => ?_⟩
        refine lcP (by rw [enumP_len]; simp; omega) (fun i acc st => st = [.dice] ∧ ∃ us : List Int, acc = us.map PV.int ∧ us.length = i ∧ ∀ x ∈ us, 1 ≤ x ∧ x ≤ 1000000) ⟨rfl, [], rfl, rfl, by simp⟩ ?_ ?_
        · rintro i acc p st hi ⟨rfl, us, rfl, hl3, hv3⟩
          obtain ⟨hj, rfl⟩ := enum_inv hi
          have b1 := hv2 _ (at0_mem hj)
          refine ⟨rfl, ?_⟩
          simp only [wgCons, wName, wgNil, wYes, if_true]
          refine ⟨.inl ⟨by omega, by omega⟩, by show 2 ≤ sizeLine; decide, ?_⟩
          refine ⟨.int (if decide (r7 ≤ (i : Int)) = true then 1 + at0 ts i * 2 else at0 ts i), ?_, rfl, _, map_snoc us _, by simp [hl3], all_snoc hv3 ?_⟩
          · by_cases hc : r7 ≤ (i : Int)
            · simp [hc]; rfl
            · simp [hc]; rfl
          · split <;> omega
        · rintro acc st ⟨rfl, us, rfl, hl3, hv3⟩
          rw [enumP_len, List.length_map] at hl3
          exact ⟨us, _, _, _, _, _, _, rfl, rfl, by omega, hv3⟩
      · exact ⟨ts, _, _, _, _, _, _, rfl, rfl, hl2, fun x hx => by have := hv2 x hx; omega⟩
    rintro sl st ⟨ts, x3, x4, x5, x7, x8, x9, rfl, rfl, hl2, hv2⟩
    refine lcIy (by omega) (fun i acc st => st = [.dice] ∧ ∃ us : List Int, acc = us.map PV.int ∧ us.length = i ∧ ∀ x ∈ us, 1 ≤ x ∧ x ≤ 9999) ⟨rfl, [], rfl, rfl, by simp⟩ ?_ ?_
    · rintro i acc st hi ⟨rfl, us, rfl, hl3, hv3⟩
      have b1 := hv2 _ (at0_mem hi)
      exact ⟨rfl, _, map_snoc us _, by simp [hl3], all_snoc hv3 (by split <;> omega)⟩
    · rintro acc st ⟨rfl, us, rfl, hl3, hv3⟩
      exact hR us ⟨by omega, by omega, by omega, hv3⟩ (by omega)

theorem sc_kinds_at : FnScope ["at"] ["at"] (defScope s_kinds_at) := ⟨rfl, rfl, rfl, by decide +kernel, rfl, by decide +kernel, by decide +kernel⟩
theorem ok_kinds_at {f : Addr} {fd : FuncData} (F : Fun K "kinds_at" "kinds_at" s_kinds_at f fd) (hm : mg "kinds_at" = some (.ref f)) (B : Bi mg) (T : Tx K cl mg C_Taps C_Found)  : Fn P wd K mg base "kinds_at" 1 (toSp K cl sp_kinds_at) := by
  have nd := sc_kinds_at.nd
  refine Fn.of F hm sc_kinds_at (by decide) (fun qs R h => by first | (obtain ⟨rfl, _⟩ := h; rfl) | (obtain ⟨_, rfl, _⟩ := h; rfl) | (obtain ⟨_, _, rfl, _⟩ := h; rfl) | (obtain ⟨_, _, _, rfl, _⟩ := h; rfl) | (obtain ⟨_, _, _, _, rfl, _⟩ := h; rfl) | (obtain ⟨_, _, _, _, _, rfl, _⟩ := h; rfl) | (obtain ⟨_, _, h | h, _⟩ := h <;> subst h <;> rfl) | (obtain ⟨_, _, _, _, h | h, _⟩ := h <;> subst h <;> rfl)) (fun _ _ _ _ _ _ us hl => match us, hl with | [_], _ => rfl) (fun cdv A outer s H E hr => ⟨_, _,
    (qss_one (qs_ret (q_ifE (t_cmp (op_eqK hr.units) sr_eq (q_mod (q_v 0) q_int) q_int (nomark _)) (q_cn T.c_UP) (q_cn T.c_DOWN)))), ?_⟩)
  · intro qs R h
    obtain ⟨i, rfl, hR⟩ := h
    refine ⟨by show (2 : Int) ≠ 0; decide, ?_⟩
    refine iteD (fun h => ?_) (fun h => ?_)
    · have e : kindsL i = [1, 3, 7] := if_pos (by rw [Int.fmod_eq_emod_of_nonneg _ (by decide)] at h; omega)
      rw [e] at hR
      exact hR
    · have e : kindsL i = [1, 3] := if_neg (by rw [Int.fmod_eq_emod_of_nonneg _ (by decide)] at h; omega)
      rw [e] at hR
      exact hR

theorem sc_made : FnScope ["top", "bottom", "one", "other"] ["top", "bottom"] (defScope s_made) := ⟨rfl, rfl, rfl, by decide +kernel, rfl, by decide +kernel, by decide +kernel⟩
theorem ok_made {f : Addr} {fd : FuncData} (F : Fun K "made" "made" s_made f fd) (hm : mg "made" = some (.ref f)) (B : Bi mg) (T : Tx K cl mg C_Taps C_Found)  : Fn P wd K mg base "made" 1 (toSp K cl sp_made) := by
  have nd := sc_made.nd
  refine Fn.of F hm sc_made (by decide) (fun qs R h => by first | (obtain ⟨rfl, _⟩ := h; rfl) | (obtain ⟨_, rfl, _⟩ := h; rfl) | (obtain ⟨_, _, rfl, _⟩ := h; rfl) | (obtain ⟨_, _, _, rfl, _⟩ := h; rfl) | (obtain ⟨_, _, _, _, rfl, _⟩ := h; rfl) | (obtain ⟨_, _, _, _, _, rfl, _⟩ := h; rfl) | (obtain ⟨_, _, h | h, _⟩ := h <;> subst h <;> rfl) | (obtain ⟨_, _, _, _, h | h, _⟩ := h <;> subst h <;> rfl)) (fun _ _ _ _ _ _ us hl => match us, hl with | [_, _], _ => rfl) (fun cdv A outer s H E hr => ⟨_, _,
    (qss_cons (qs_set 2 nd (q_cb call_abs' sc_abs B.abs_ (by decide +kernel) (qa_cons (q_v 0) qa_nil)))
    (qss_cons (qs_set 3 nd (q_v 1))
    (qss_cons (qs_while PassesOwn.never (t_cmp op_gt sr_gt (q_v 3) q_int (nomark _)) (qss_one (qs_par (i := 2) (j := 3) rfl nd (qa_cons (q_v 3) (qa_cons (q_mod (q_v 2) (q_v 3)) qa_nil)))))
    (qss_one (qs_ret (q_tup (qa_cons (q_fdiv (q_v 0) (q_v 2)) (qa_cons (q_fdiv (q_v 1) (q_v 2)) qa_nil)))))))), ?_⟩)
  · intro qs R h
    obtain ⟨a, b, rfl, hb, hb2, hR⟩ := h
    refine ⟨fun m sl st => ∃ x y : Int, 0 ≤ x ∧ 0 ≤ y ∧ x.toNat.gcd y.toNat = Int.gcd a b ∧ m = y.toNat ∧ sl = [some (.v (.int a)), some (.v (.int b)), some (.v (.int x)), some (.v (.int y))] ∧ st = [], ⟨b.toNat, _, b, ?_, by omega, gcd_start a b hb, rfl, rfl, rfl⟩, ?_⟩
    · split <;> omega
    · rintro m sl st ⟨x, y, hx, hy, hg, rfl, rfl, rfl⟩
      refine iteD (fun h => ?_) (fun h => ?_)
      · obtain ⟨e1, e2, e3⟩ := gcd_turn hx h
        exact ⟨by omega, (x.fmod y).toNat, e2, y, x.fmod y, by omega, e1, e3.trans hg, rfl, rfl, rfl⟩
      · obtain ⟨e1, e2, e3, e4⟩ := gcd_end hb hx hy h hg
        refine ⟨⟨by omega, by omega⟩, ⟨by omega, by omega⟩, by show 2 ≤ sizeLine; decide, ?_⟩
        show R (.tup [.int (a.fdiv x), .int (b.fdiv x)])
        rw [e3, e4]
        exact hR

theorem sc_need_reading : FnScope ["taps", "reading", "at"] ["taps", "reading"] (defScope s_need_reading) := ⟨rfl, rfl, rfl, by decide +kernel, rfl, by decide +kernel, by decide +kernel⟩
theorem ok_need_reading {f : Addr} {fd : FuncData} (F : Fun K "need_reading" "need_reading" s_need_reading f fd) (hm : mg "need_reading" = some (.ref f)) (B : Bi mg) (T : Tx K cl mg C_Taps C_Found) (F_kinds_at : Fn P wd K mg base "kinds_at" 1 (toSp K cl sp_kinds_at)) : Fn P wd K mg base "need_reading" 2 (toSp K cl sp_need) := by
  have nd := sc_need_reading.nd
  refine Fn.of F hm sc_need_reading (by decide) (fun qs R h => by first | (obtain ⟨rfl, _⟩ := h; rfl) | (obtain ⟨_, rfl, _⟩ := h; rfl) | (obtain ⟨_, _, rfl, _⟩ := h; rfl) | (obtain ⟨_, _, _, rfl, _⟩ := h; rfl) | (obtain ⟨_, _, _, _, rfl, _⟩ := h; rfl) | (obtain ⟨_, _, _, _, _, rfl, _⟩ := h; rfl) | (obtain ⟨_, _, h | h, _⟩ := h <;> subst h <;> rfl) | (obtain ⟨_, _, _, _, h | h, _⟩ := h <;> subst h <;> rfl)) (fun _ _ _ _ _ _ us hl => match us, hl with | [_, _], _ => rfl) (fun cdv A outer s H E hr => ⟨_, _,
    (qss_cons (qs_if (t_cmp (op_neK hr.units) sr_ne (q_cb call_lenK sc_len B.len_ (by decide +kernel) (qa_cons (q_v 1) qa_nil)) (q_cb call_lenK sc_len B.len_ (by decide +kernel) (qa_cons (q_fld T.f_kept (q_v 0)) qa_nil)) (nomark _)) (qss_one qs_never) qss_nil)
    (qss_one (qs_for PassesOwn.never rfl (qi_r1 B.range_ (qa_cons (q_cb call_lenK sc_len B.len_ (by decide +kernel) (qa_cons (q_v 1) qa_nil)) qa_nil)) (qg_n 2 nd) (qss_one (qs_if (t_cmp op_notinK sr_inI (q_ix (q_v 1) (q_v 2)) (q_call F_kinds_at (hr.mono (by decide)) (qa_cons (q_v 2) qa_nil)) rfl) (qss_one qs_never) qss_nil))))), ?_⟩)
  · intro qs R h
    obtain ⟨ts, rs, rfl, hl, hlen, hv, hR⟩ := h
    refine ⟨rfl, _, rfl, ?_⟩
    refine iteNDT (by simp [hl]) ?_
    refine forR (n := rs.length) (by simp) (by omega) (fun i sl st => ∃ x2, sl = [some (.v (tapsP ts)), some (.v (ils rs)), x2] ∧ st = []) ⟨none, rfl, rfl⟩ ?_ ?_
    · rintro i sl st hi ⟨x2, rfl, rfl⟩
      refine ⟨_, idx_int hi, i, rfl, kindsL i, .inl rfl, ?_⟩
      refine iteNDT (by have := hv i hi; rwa [Nat.zero_add] at this) ?_
      exact ⟨_, rfl, rfl⟩
    · rintro sl st ⟨x2, rfl, rfl⟩
      exact hR

theorem okE_need_reading {f : Addr} {fd : FuncData} (F : Fun K "need_reading" "need_reading" s_need_reading f fd) (hm : mg "need_reading" = some (.ref f)) (B : Bi mg) (T : Tx K cl mg C_Taps C_Found) (U : Xx K cl mg C_TapError C_BadTaps C_BadReading C_BadWidth C_BadTable C_BadWords C_BadText) (F_kinds_at : Fn P wd K mg base "kinds_at" 1 (toSp K cl sp_kinds_at)) : FnE P wd K mg base "need_reading" 3 (toSpE K cl spE_need) := by
  have nd := sc_need_reading.nd
  refine FnE.of F hm sc_need_reading (by decide) (fun qs R h => by obtain ⟨_, _, rfl, _⟩ := h; rfl) (fun _ _ _ _ _ _ us hl => match us, hl with | [_, _], _ => rfl) (fun cdv A outer s H E hr tk => ⟨_, _,
    (qss_cons (qs_if (t_cmp (op_neK hr.units) sr_ne (q_cb call_lenK sc_len B.len_ (by decide +kernel) (qa_cons (q_v 1) qa_nil)) (q_cb call_lenK sc_len B.len_ (by decide +kernel) (qa_cons (q_fld T.f_kept (q_v 0)) qa_nil)) (nomark _)) (qss_one (qs_raise0 rfl tk U.x0_BadReading)) qss_nil)
    (qss_one (qs_for PassesOwn.leaving rfl (qi_r1 B.range_ (qa_cons (q_cb call_lenK sc_len B.len_ (by decide +kernel) (qa_cons (q_v 1) qa_nil)) qa_nil)) (qg_n 2 nd) (qss_one (qs_if (t_cmp op_notinK sr_inI (q_ix (q_v 1) (q_v 2)) (q_call F_kinds_at (hr.mono (by decide)) (qa_cons (q_v 2) qa_nil)) rfl) (qss_one (qs_raise0 rfl tk U.x0_BadReading)) qss_nil))))), ?_⟩)
  rintro qs Rx ⟨ts, rs, rfl, ⟨hn, hn2, hb⟩, hR⟩ hX
  refine ⟨rfl, _, rfl, ?_⟩
  by_cases hl : rs.length = ts.length
  · refine iteNDT (by simp [hl]) ?_
    refine forR (n := rs.length) (by simp) (by omega) (fun i sl st => (∀ j, j < i → at0 rs j ∈ kindsL (0 + j)) ∧ (∃ x2, sl = [some (.v (tapsP ts)), some (.v (ils rs)), x2]) ∧ st = [Cell.pin H]) ⟨fun j hj => by omega, ⟨none, rfl⟩, rfl⟩ ?_ ?_
    · rintro i sl st hi ⟨hv, ⟨x2, rfl⟩, rfl⟩
      refine ⟨_, idx_int hi, i, rfl, kindsL i, .inl rfl, ?_⟩
      by_cases hk : at0 rs i ∈ kindsL i
      · refine iteNDT hk ?_
        refine ⟨fun j hj => ?_, ⟨_, rfl⟩, rfl⟩
        rcases Nat.lt_succ_iff_lt_or_eq.mp hj with h | rfl
        · exact hv j h
        · rw [Nat.zero_add]; exact hk
      · refine iteNDF hk ?_
        exact ⟨0, H, rfl, hX _ _ _ hR⟩
    · rintro sl st ⟨hv, _⟩
      exact (hb ⟨hl, fun j hj => hv j hj⟩).elim
  · refine iteNDF (by simp only [List.length_map]; omega) ?_
    exact ⟨0, H, rfl, hX _ _ _ hR⟩

theorem sc_need_width : FnScope ["width", "top", "bottom"] ["width"] (defScope s_need_width) := ⟨rfl, rfl, rfl, by decide +kernel, rfl, by decide +kernel, by decide +kernel⟩
theorem okE_need_width {f : Addr} {fd : FuncData} (F : Fun K "need_width" "need_width" s_need_width f fd) (hm : mg "need_width" = some (.ref f)) (B : Bi mg) (T : Tx K cl mg C_Taps C_Found) (U : Xx K cl mg C_TapError C_BadTaps C_BadReading C_BadWidth C_BadTable C_BadWords C_BadText)  (F_made : Fn P wd K mg base "made" 1 (toSp K cl sp_made)) : FnE P wd K mg base "need_width" 3 (toSpE K cl spE_nw) := by
  have nd := sc_need_width.nd
  refine FnE.of F hm sc_need_width (by decide) (fun qs R h => by obtain ⟨_, rfl, _⟩ := h; rfl) (fun _ _ _ _ _ _ us hl => match us, hl with | [_], _ => rfl) (fun cdv A outer s H E hr tk => ⟨_, _,
    (qss_cons (qs_asg (q_v 0) (qg_tup (n := 2) rfl (qgs_cons (qg_n 1 nd) (qgs_cons (qg_n 2 nd) qgs_nil))))
    (qss_one (qs_if (t_w (tw_or (t_cmp op_lt sr_lt (q_v 2) q_int (nomark _)) (tw_or (t_not (t_chain op_le sr_le op_lt sr_lt q_int (q_v 1) (q_v 2))) (tw_or1 (t_cmp (op_neK hr.units) sr_ne (q_call F_made (hr.mono (by decide)) (qa_cons (q_v 1) (qa_cons (q_v 2) qa_nil))) (q_tup (qa_cons (q_v 1) (qa_cons (q_v 2) qa_nil))) (nomark _)))))) (qss_one (qs_raise0 rfl tk U.x0_BadWidth)) qss_nil))), ?_⟩)
  rintro qs Rx ⟨w, rfl, hw, hR⟩ hX
  have rz : wRaise0 K cl E "BadWidth" { nx := fun _ _ => False, rt := fun _ _ => False } [some (.v (fr w)), some (.v (.int w.1)), some (.v (.int w.2))] [Cell.pin H] := ⟨0, H, rfl, hX _ _ _ hR⟩
  simp only [NoneW, List.mem_cons, List.not_mem_nil, or_false] at hw
  refine ⟨rfl, ?_⟩
  rcases hw with rfl | rfl | rfl | rfl | rfl | rfl | rfl | rfl
  · exact rz
  · exact rz
  · refine ⟨2, 4, rfl, by decide, by decide, by show 2 ≤ sizeLine; decide, ⟨dat_fr _, dat_fr _, dep_fr _, dep_fr _⟩, ?_⟩
    exact ciNF (by show ¬ fr (mkF 2 4) = fr (2, 4); rw [mk24]; intro e; cases e) rz
  · refine ⟨0, 2, rfl, by decide, by decide, by show 2 ≤ sizeLine; decide, ⟨dat_fr _, dat_fr _, dep_fr _, dep_fr _⟩, ?_⟩
    exact ciNF (by show ¬ fr (mkF 0 2) = fr (0, 2); rw [mk02]; intro e; cases e) rz
  · exact rz
  · exact rz
  · exact rz
  · exact rz

theorem sc_least_width : FnScope ["taps", "reading"] ["taps", "reading"] (defScope s_least_width) := ⟨rfl, rfl, rfl, by decide +kernel, rfl, by decide +kernel, by decide +kernel⟩
theorem okE_least_width {f : Addr} {fd : FuncData} (F : Fun K "least_width" "least_width" s_least_width f fd) (hm : mg "least_width" = some (.ref f)) (B : Bi mg) (T : Tx K cl mg C_Taps C_Found) (U : Xx K cl mg C_TapError C_BadTaps C_BadReading C_BadWidth C_BadTable C_BadWords C_BadText) (FE_need_reading : FnE P wd K mg base "need_reading" 3 (toSpE K cl spE_need))  : FnE P wd K mg base "least_width" 4 (toSpE K cl spE_least) := by
  have nd := sc_least_width.nd
  refine FnE.of F hm sc_least_width (by decide) (fun qs R h => by obtain ⟨_, _, rfl, _⟩ := h; rfl) (fun _ _ _ _ _ _ us hl => match us, hl with | [_, _], _ => rfl) (fun cdv A outer s H E hr tk => ⟨_, _,
    (qss_cons (qs_expr (q_callE tk FE_need_reading (hr.mono (by decide)) (qa_cons (q_v 0) (qa_cons (q_v 1) qa_nil)))) qss_never), ?_⟩)
  rintro qs Rx ⟨ts, rs, rfl, hb, hR⟩ hX
  exact ⟨0, H, rfl, ts, rs, rfl, hb, hX _ _ _ hR⟩

theorem sc_is_allowed : FnScope ["taps", "reading", "width"] ["taps", "reading", "width"] (defScope s_is_allowed) := ⟨rfl, rfl, rfl, by decide +kernel, rfl, by decide +kernel, by decide +kernel⟩
theorem okE_is_allowed {f : Addr} {fd : FuncData} (F : Fun K "is_allowed" "is_allowed" s_is_allowed f fd) (hm : mg "is_allowed" = some (.ref f)) (B : Bi mg) (T : Tx K cl mg C_Taps C_Found) (U : Xx K cl mg C_TapError C_BadTaps C_BadReading C_BadWidth C_BadTable C_BadWords C_BadText) (FE_need_reading : FnE P wd K mg base "need_reading" 3 (toSpE K cl spE_need)) (FE_need_width : FnE P wd K mg base "need_width" 3 (toSpE K cl spE_nw)) (F_need_reading : Fn P wd K mg base "need_reading" 2 (toSp K cl sp_need)) : FnE P wd K mg base "is_allowed" 4 (toSpE K cl spE_allow) := by
  have nd := sc_is_allowed.nd
  refine FnE.of F hm sc_is_allowed (by decide) (fun qs R h => by obtain ⟨_, _, _, rfl, _⟩ := h; rfl) (fun _ _ _ _ _ _ us hl => match us, hl with | [_, _, _], _ => rfl) (fun cdv A outer s H E hr tk => ⟨_, _,
    (qss_cons (qs_expr (q_callOr (fun σ => L2N.passAt tk σ) F_need_reading FE_need_reading (hr.mono (by decide)) (hr.mono (by decide)) (qa_cons (q_v 0) (qa_cons (q_v 1) qa_nil))))
    (qss_cons (qs_expr (q_callE tk FE_need_width (hr.mono (by decide)) (qa_cons (q_v 2) qa_nil))) qss_never)), ?_⟩)
  rintro qs Rx ⟨ts, rs, p, rfl, h⟩ hX
  rcases h with ⟨hb, hR⟩ | ⟨hl, hn, hv, w, rfl, hw, hR⟩
  · exact .inr ⟨0, H, rfl, ts, rs, rfl, hb, hX _ _ _ hR⟩
  · exact .inl ⟨ts, rs, rfl, hl, hn, hv, 0, H, rfl, w, rfl, hw, hX _ _ _ hR⟩

theorem sc_units : FnScope ["taps", "reading", "width", "top", "bottom", "lows", "highs", "at", "time"] ["taps", "reading", "width"] (defScope s_units) := ⟨rfl, rfl, rfl, by decide +kernel, rfl, by decide +kernel, by decide +kernel⟩
theorem okE_units {f : Addr} {fd : FuncData} (F : Fun K "units" "units" s_units f fd) (hm : mg "units" = some (.ref f)) (B : Bi mg) (T : Tx K cl mg C_Taps C_Found) (U : Xx K cl mg C_TapError C_BadTaps C_BadReading C_BadWidth C_BadTable C_BadWords C_BadText) (FE_is_allowed : FnE P wd K mg base "is_allowed" 4 (toSpE K cl spE_allow))  : FnE P wd K mg base "units" 5 (toSpE K cl spE_allow) := by
  have nd := sc_units.nd
  refine FnE.of F hm sc_units (by decide) (fun qs R h => by obtain ⟨_, _, _, rfl, _⟩ := h; rfl) (fun _ _ _ _ _ _ us hl => match us, hl with | [_, _, _], _ => rfl) (fun cdv A outer s H E hr tk => ⟨_, _,
    (qss_cons (qs_if (t_not (t_val (q_callE tk FE_is_allowed (hr.mono (by decide)) (qa_cons (q_v 0) (qa_cons (q_v 1) (qa_cons (q_v 2) qa_nil)))))) qss_never qss_never) qss_never), ?_⟩)
  rintro qs Rx ⟨ts, rs, p, rfl, h⟩ hX
  refine ⟨0, H, rfl, ts, rs, p, rfl, ?_⟩
  rcases h with ⟨hb, hR⟩ | ⟨hl, hn, hv, w, rfl, hw, hR⟩
  · exact .inl ⟨hb, hX _ _ _ hR⟩
  · exact .inr ⟨hl, hn, hv, w, rfl, hw, hX _ _ _ hR⟩

theorem sc_barring : FnScope ["taps", "reading", "width", "one", "other"] ["taps", "reading", "width"] (defScope s_barring) := ⟨rfl, rfl, rfl, by decide +kernel, rfl, by decide +kernel, by decide +kernel⟩
theorem okE_barring {f : Addr} {fd : FuncData} (F : Fun K "barring" "barring" s_barring f fd) (hm : mg "barring" = some (.ref f)) (B : Bi mg) (T : Tx K cl mg C_Taps C_Found) (U : Xx K cl mg C_TapError C_BadTaps C_BadReading C_BadWidth C_BadTable C_BadWords C_BadText) (FE_need_reading : FnE P wd K mg base "need_reading" 3 (toSpE K cl spE_need)) (FE_need_width : FnE P wd K mg base "need_width" 3 (toSpE K cl spE_nw)) (F_need_reading : Fn P wd K mg base "need_reading" 2 (toSp K cl sp_need)) : FnE P wd K mg base "barring" 4 (toSpE K cl spE_allow) := by
  have nd := sc_barring.nd
  refine FnE.of F hm sc_barring (by decide) (fun qs R h => by obtain ⟨_, _, _, rfl, _⟩ := h; rfl) (fun _ _ _ _ _ _ us hl => match us, hl with | [_, _, _], _ => rfl) (fun cdv A outer s H E hr tk => ⟨_, _,
    (qss_cons (qs_expr (q_callOr (fun σ => L2N.passAt tk σ) F_need_reading FE_need_reading (hr.mono (by decide)) (hr.mono (by decide)) (qa_cons (q_v 0) (qa_cons (q_v 1) qa_nil))))
    (qss_cons (qs_expr (q_callE tk FE_need_width (hr.mono (by decide)) (qa_cons (q_v 2) qa_nil))) qss_never)), ?_⟩)
  rintro qs Rx ⟨ts, rs, p, rfl, h⟩ hX
  rcases h with ⟨hb, hR⟩ | ⟨hl, hn, hv, w, rfl, hw, hR⟩
  · exact .inr ⟨0, H, rfl, ts, rs, rfl, hb, hX _ _ _ hR⟩
  · exact .inl ⟨ts, rs, rfl, hl, hn, hv, 0, H, rfl, w, rfl, hw, hX _ _ _ hR⟩

theorem sc_readings : FnScope ["taps", "width", "found", "one"] ["taps", "width"] (defScope s_readings) := ⟨rfl, rfl, rfl, by decide +kernel, rfl, by decide +kernel, by decide +kernel⟩
theorem okE_readings {f : Addr} {fd : FuncData} (F : Fun K "readings" "readings" s_readings f fd) (hm : mg "readings" = some (.ref f)) (B : Bi mg) (T : Tx K cl mg C_Taps C_Found) (U : Xx K cl mg C_TapError C_BadTaps C_BadReading C_BadWidth C_BadTable C_BadWords C_BadText) (FE_need_width : FnE P wd K mg base "need_width" 3 (toSpE K cl spE_nw))  : FnE P wd K mg base "readings" 4 (toSpE K cl spE_rdgs) := by
  have nd := sc_readings.nd
  refine FnE.of F hm sc_readings (by decide) (fun qs R h => by obtain ⟨_, _, rfl, _⟩ := h; rfl) (fun _ _ _ _ _ _ us hl => match us, hl with | [_, _], _ => rfl) (fun cdv A outer s H E hr tk => ⟨_, _,
    (qss_cons (qs_expr (q_callE tk FE_need_width (hr.mono (by decide)) (qa_cons (q_v 1) qa_nil))) qss_never), ?_⟩)
  rintro qs Rx ⟨p, w, rfl, hw, hR⟩ hX
  exact ⟨0, H, rfl, w, rfl, hw, hX _ _ _ hR⟩

theorem sc_pieces : FnScope ["taps", "width", "found", "begin", "end", "best", "goes", "more"] ["taps", "width"] (defScope s_pieces) := ⟨rfl, rfl, rfl, by decide +kernel, rfl, by decide +kernel, by decide +kernel⟩
theorem okE_pieces {f : Addr} {fd : FuncData} (F : Fun K "pieces" "pieces" s_pieces f fd) (hm : mg "pieces" = some (.ref f)) (B : Bi mg) (T : Tx K cl mg C_Taps C_Found) (U : Xx K cl mg C_TapError C_BadTaps C_BadReading C_BadWidth C_BadTable C_BadWords C_BadText) (FE_need_width : FnE P wd K mg base "need_width" 3 (toSpE K cl spE_nw))  : FnE P wd K mg base "pieces" 4 (toSpE K cl spE_rdgs) := by
  have nd := sc_pieces.nd
  refine FnE.of F hm sc_pieces (by decide) (fun qs R h => by obtain ⟨_, _, rfl, _⟩ := h; rfl) (fun _ _ _ _ _ _ us hl => match us, hl with | [_, _], _ => rfl) (fun cdv A outer s H E hr tk => ⟨_, _,
    (qss_cons (qs_expr (q_callE tk FE_need_width (hr.mono (by decide)) (qa_cons (q_v 1) qa_nil))) qss_never), ?_⟩)
  rintro qs Rx ⟨p, w, rfl, hw, hR⟩ hX
  exact ⟨0, H, rfl, w, rfl, hw, hX _ _ _ hR⟩

theorem sc__law_is : FnScope ["_law_e", "_law_word", "_law_kinds_here", "_law_words", "_law_one"] ["_law_e", "_law_word"] (defScope s__law_is) := ⟨rfl, rfl, rfl, by decide +kernel, rfl, by decide +kernel, by decide +kernel⟩
theorem okH__law_is {f : Addr} {fd : FuncData} (F : Fun K "_law_is" "_law_is" s__law_is f fd) (hm : mg "_law_is" = some (.ref f)) (B : Bi mg) (T : Tx K cl mg C_Taps C_Found) (U : Xx K cl mg C_TapError C_BadTaps C_BadReading C_BadWidth C_BadTable C_BadWords C_BadText) (Dw : Addr → Str → Prop) (hD : ∀ D w, Dw D w → XT K C_BadTaps C_BadReading C_BadWidth C_BadTable C_BadWords C_BadText D w) :
    FnV P wd K mg base "_law_is" 2 (toSpX K cl fun D ps R => ∃ w, Dw D w ∧ ps = [.str w] ∧ R (.bl true)) := by
  have nd := sc__law_is.nd
  refine FnV.ofX F hm sc__law_is (by decide) (fun D qs R h => by obtain ⟨_, _, rfl, _⟩ := h; rfl) (fun _ _ _ _ _ _ us hl => match us, hl with | [_, _], _ => rfl) (fun cdv A outer s H E p D dd qs R hc hr hP hd h => ?_)
  obtain ⟨w, hw, rfl, hR⟩ := h
  have xt := hD D w hw
  have hp : p ∈ (cxH CX0 P wd K mg base ["_law_e", "_law_word", "_law_kinds_here", "_law_words", "_law_one"] "_law_is" (defScope s__law_is) f cdv A outer s H E p).pn := List.mem_singleton.mpr rfl
  refine ⟨_, _, (qss_cons (qs_set 2 nd (q_n (qn_lst (qa_cons (q_isP hP hp B.isinstance_ U.gm_BadTaps xt.k1 (q_v 0)) (qa_cons (q_isP hP hp B.isinstance_ U.gm_BadReading xt.k2 (q_v 0)) (qa_cons (q_isP hP hp B.isinstance_ U.gm_BadWidth xt.k3 (q_v 0)) (qa_cons (q_isP hP hp B.isinstance_ U.gm_BadTable xt.k4 (q_v 0)) qa_nil)))))))
    (qss_cons (qs_set 2 nd (q_add (q_v 2) (q_n (qn_lst (qa_cons (q_isP hP hp B.isinstance_ U.gm_BadWords xt.k5 (q_v 0)) (qa_cons (q_isP hP hp B.isinstance_ U.gm_BadText xt.k6 (q_v 0)) qa_nil))))))
    (qss_cons (qs_set 3 nd (q_n (qn_lst (qa_cons q_str (qa_cons q_str (qa_cons q_str (qa_cons q_str (qa_cons q_str (qa_cons q_str qa_nil)))))))))
    (qss_one (qs_ret (q_andV (q_isPT hP hp B.isinstance_ B.ValueError_ (by decide +kernel) xt.kv (q_v 0)) (q_one (q_cmp (op_eqK hr.units) sr_eqBL (q_v 2) (q_n (qn_lcH (own := [("_law_one", 4)]) hc nd (qih_list (q_v 3)) (blkOk_by (own := [("_law_one", 4)]) (N := ["_law_e", "_law_word", "_law_kinds_here", "_law_words", "_law_one"]) (sc := defScope s__law_is) (by decide +kernel)) (by intro _ _ _ _ _ _ hp_; exact (qg_n 4 nd)) (by intro _ _ _ _ _ _ hp_; exact qps_nil) (by intro _ _ _ _ _ _ hp_; exact (q_cmp (op_eqK hr.units) sr_eq (q_v 1) (q_v 4) (nomark _))))) (nomark _))))))))), ?_⟩
  refine ⟨rfl, ⟨0, H, rfl, hd⟩, rfl, ⟨0, H, rfl, hd⟩, rfl, ⟨0, H, rfl, hd⟩, rfl, ⟨0, H, rfl, hd⟩, ?_⟩
  refine ⟨by show 4 ≤ sizeLine; decide, rfl, ⟨0, H, rfl, hd⟩, rfl, ⟨0, H, rfl, hd⟩, ?_⟩
  refine ⟨by show 2 ≤ sizeLine; decide, by show 4 + 2 ≤ sizeLine; decide, by show 6 ≤ sizeLine; decide, ?_⟩
  refine ⟨rfl, ⟨0, H, rfl, hd⟩, ?_⟩
  refine iteT ?_
  refine lcM (xs := [Str.ofString "taps", Str.ofString "reading", Str.ofString "width", Str.ofString "table", Str.ofString "words", Str.ofString "text"]) (f := PV.str) (by decide) (fun i acc st => st = [Cell.pin H] ∧ acc = (([Str.ofString "taps", Str.ofString "reading", Str.ofString "width", Str.ofString "table", Str.ofString "words", Str.ofString "text"].take i).map fun o => PV.bl (decide (w = o)))) ⟨rfl, rfl⟩ ?_ ?_
  · rintro i o acc st hi ⟨rfl, rfl⟩
    refine ⟨rfl, ?_⟩
    rw [take_snoc hi, List.map_append]
    rfl
  rintro acc st ⟨rfl, rfl⟩
  rw [List.take_length]
  exact ⟨[decide (w = Str.ofString "taps"), decide (w = Str.ofString "reading"), decide (w = Str.ofString "width"), decide (w = Str.ofString "table"), decide (w = Str.ofString "words"), decide (w = Str.ofString "text")], _, rfl, rfl, _, rfl, by rw [decide_eq_true rfl]; exact hR⟩

theorem sc__law_refused : FnScope ["_law_work", "_law_word", "_law_e"] ["_law_work", "_law_word"] (defScope s__law_refused) := ⟨rfl, rfl, rfl, by decide +kernel, rfl, by decide +kernel, by decide +kernel⟩
def sp_refused02 : Str → List Str → List PV → VSp := fun cn ns qs zs R => ∃ word : Str, ((cn = "BadReading" ∧ word = "reading") ∨ (cn = "BadWidth" ∧ word = "width")) ∧ ns = [] ∧ qs = [] ∧ zs = [.str word] ∧ R (.bl true)
theorem okL__law_refused {X : Cx} {f : Addr} {fd : FuncData} {σ : L2.St} (F : Fun X.K "_law_refused" "_law_refused" s__law_refused f fd) (B : Bi X.mg) (T : Tx X.K cl X.mg C_Taps C_Found) (U : Xx X.K cl X.mg C_TapError C_BadTaps C_BadReading C_BadWidth C_BadTable C_BadWords C_BadText)
    (FX__law_is : FnV X.prog X.w X.K X.mg X.base "_law_is" 2 (toSpX X.K cl fun D ps R => ∃ w : Str, ((D = C_BadReading ∧ w = "reading") ∨ (D = C_BadWidth ∧ w = "width")) ∧ ps = [.str w] ∧ R (.bl true))) (hr : Room 10 X.A) : RunL X f fd ["_law_work", "_law_word"] σ (spLD X cl 8 sp_refused02 σ) := by
  have nd := sc__law_refused.nd
  refine RunLD.of (y := "_law_work") F sc__law_refused (by decide) (fun cn ns qs zs R h => by obtain ⟨_, _, _, _, rfl, _⟩ := h; rfl) hr rfl (.inl rfl) (by decide) (by decide) (fun cdv s H lf c' lo q tl hr act => ⟨_, _, _, _,
    (qtl_try (i := 2) act rfl rfl nd ⟨rfl, by decide, .inl U.gm_TapError⟩ (fun a_ oe_ cls_ d_ pn_ z_ hv_ => (qss_one (qs_ret (q_callY FX__law_is ((roomS hr).mono (by decide)) z_ hv_ (qa_cons (q_v 2) (qa_cons (q_v 1) qa_nil)))))) (qss_one (qs_ret q_bl))), ?_⟩)
  rintro cn ns qs zs R F0 ⟨w, hcw, rfl, rfl, rfl, hR⟩ Cx a d st3 hc ca
  rcases hcw with ⟨rfl, rfl⟩ | ⟨rfl, rfl⟩
  · cases Option.some.inj (hc.symm.trans U.cl_BadReading)
    refine ⟨U.xm_BadReading, ?_⟩
    rcases ca with ⟨rfl, _, _, rfl⟩ | ⟨dd, B, vs, rfl, rfl, hD, _, hr⟩
    · exact ⟨C_BadReading, rfl, rfl, U.ec_BadReading, .inl ⟨rfl, Nat.succ_pos _⟩, "reading", .inl ⟨rfl, rfl⟩, rfl, _, rfl, hR⟩
    · exact ⟨C_BadReading, rfl, rfl, U.ec_BadReading, .inr ⟨2, B, rfl, fun d e => by cases e; exact ⟨_, hD⟩⟩, "reading", .inl ⟨rfl, rfl⟩, rfl, _, rfl, hR⟩
  · cases Option.some.inj (hc.symm.trans U.cl_BadWidth)
    refine ⟨U.xm_BadWidth, ?_⟩
    rcases ca with ⟨rfl, _, _, rfl⟩ | ⟨dd, B, vs, rfl, rfl, hD, _, hr⟩
    · exact ⟨C_BadWidth, rfl, rfl, U.ec_BadWidth, .inl ⟨rfl, Nat.succ_pos _⟩, "width", .inr ⟨rfl, rfl⟩, rfl, _, rfl, hR⟩
    · exact ⟨C_BadWidth, rfl, rfl, U.ec_BadWidth, .inr ⟨2, B, rfl, fun d e => by cases e; exact ⟨_, hD⟩⟩, "width", .inr ⟨rfl, rfl⟩, rfl, _, rfl, hR⟩

theorem sc_law : FnScope ["_law_script", "_law_d", "_law_times_here", "_law_taps", "_law_reading_here", "_law_at", "_law_odd", "_law_bad", "_law_none", "_law_works", "_law_work"] ["_law_script"] (defScope s_law) := ⟨rfl, rfl, rfl, by decide +kernel, rfl, by decide +kernel, by decide +kernel⟩
abbrev qLaw : Str := (envOfC "law" (defScope s_law) 0 0 .none).qual ++ "<lambda>"
theorem ok_law {f c_L P_L : Addr} {oc : Value} {od an : Option Addr} {osl : Array (Option Value)} {kV doc pm ct : Value} (lk : K.lookup f = some ⟨oc, od, .func (PySem.W.fnOf "law" "law" (defArgs s_law) (defBody s_law) (defScope s_law) .none kV doc pm an (.ref c_L) ct), osl⟩) (hcd : PySem.W.codeIn K (.ref c_L) "law" = true) (TB : LamX.TabB base mg c_L P_L) (B : Bi mg) (T : Tx K cl mg C_Taps C_Found) (U : Xx K cl mg C_TapError C_BadTaps C_BadReading C_BadWidth C_BadTable C_BadWords C_BadText) (F__law_dice : Fn P wd K mg base "_law_dice" 1 (spDice K)) (F_Taps : Mkc P wd K mg base "Taps" C_Taps 1 (toSpI K cl C_Taps sp_Taps)) (F__law_off : Fn P wd K mg base "_law_off" 1 (toSpD K cl sp_off)) (F__law_reading : Fn P wd K mg base "_law_reading" 2 (toSpD K cl sp_lreading)) (F__law_times : Fn P wd K mg base "_law_times" 3 (toSpD K cl sp_ltimes)) (FE_least_width : FnE P wd K mg base "least_width" 4 (toSpE K cl spE_least)) (FE_is_allowed : FnE P wd K mg base "is_allowed" 4 (toSpE K cl spE_allow)) (FE_units : FnE P wd K mg base "units" 5 (toSpE K cl spE_allow)) (FE_barring : FnE P wd K mg base "barring" 4 (toSpE K cl spE_allow)) (FE_readings : FnE P wd K mg base "readings" 4 (toSpE K cl spE_rdgs)) (FE_pieces : FnE P wd K mg base "pieces" 4 (toSpE K cl spE_rdgs)) (FX__law_is : FnV P wd K mg base "_law_is" 2 (toSpX K cl fun D ps R => ∃ w : Str, ((D = C_BadReading ∧ w = "reading") ∨ (D = C_BadWidth ∧ w = "width")) ∧ ps = [.str w] ∧ R (.bl true))) {f_r : Addr} {fd_r : FuncData} (D_ref : Fun K "_law_refused" "_law_refused" s__law_refused f_r fd_r) (hm_ref : mg "_law_refused" = some (.ref f_r)) :
    FnOk P wd K mg base CX0 11 f (PySem.W.fnOf "law" "law" (defArgs s_law) (defBody s_law) (defScope s_law) .none kV doc pm an (.ref c_L) ct) ["_law_script"] (spLawT K P_L) := by
  have nd := sc_law.nd
  refine okC lk hcd sc_law (fun vs H Q E h => by obtain ⟨a, ns, rfl, _⟩ := h; rfl) (fun A outer s H vs Q E hr h => ?_)
  have FL : FnLX (cxOf CX0 P wd K mg base ["_law_script", "_law_d", "_law_times_here", "_law_taps", "_law_reading_here", "_law_at", "_law_odd", "_law_bad", "_law_none", "_law_works", "_law_work"] "law" (defScope s_law) f (.ref c_L) A outer s H E).nox cl "_law_refused" 8 sp_refused02 := ⟨_, _, _, fun σ => okL__law_refused (X := (cxOf CX0 P wd K mg base ["_law_script", "_law_d", "_law_times_here", "_law_taps", "_law_reading_here", "_law_at", "_law_odd", "_law_bad", "_law_none", "_law_works", "_law_work"] "law" (defScope s_law) f (.ref c_L) A outer s H E).nox) D_ref B T U FX__law_is (hr.mono (by decide)), hm_ref, D_ref.kp, D_ref.binds (fun _ _ _ _ _ _ us hl => match us, hl with | [_, _], _ => rfl)⟩
  refine run_law0T (cl := cl) qLaw (ps_set (i := 1) nd rfl (by first | exact Or.inl rfl | exact Or.inr rfl) (pe_callF F__law_dice (hr.mono (by decide)) (pa_cons (pv 0) (pa_cons pe_int pa_nil))))
    (qss_cons (qs_set 2 nd (q_callD F__law_times (hr.mono (by decide)) (qa_cons (q_v 1) (qa_cons q_int qa_nil))))
    (qss_cons (qs_set 3 nd (q_make F_Taps (hr.mono (by decide)) (qa_cons (q_v 2) qa_nil)))
    (qss_cons (qs_set 4 nd (q_callD F__law_reading (hr.mono (by decide)) (qa_cons (q_v 1) (qa_cons (q_cb call_lenK sc_len B.len_ (by decide +kernel) (qa_cons (q_v 2) qa_nil)) qa_nil))))
    (qss_cons (qs_set 5 nd (q_callD F__law_off (hr.mono (by decide)) (qa_cons (q_v 1) (qa_cons (q_cb call_lenK sc_len B.len_ (by decide +kernel) (qa_cons (q_v 2) qa_nil)) qa_nil))))
    (qss_cut (qs_set 6 nd (q_ix (q_n (qn_lst (qa_cons q_int (qa_cons q_int (qa_cons q_int (qa_cons (q_sub q_int (q_mul q_int (q_mod (q_v 5) q_int))) (qa_cons (q_neg q_int) (qa_cons q_int qa_nil)))))))) (q_callD F__law_off (hr.mono (by decide)) (qa_cons (q_v 1) (qa_cons q_int qa_nil)))))
    (qss_cut (qs_set 7 nd (q_ix (q_n (qn_lst (qa_cons (q_n (qn_slL (q_v 4) (qo_some q_int) qo_none)) (qa_cons (q_add (q_v 4) (q_n (qn_lst (qa_cons q_int qa_nil)))) (qa_cons (q_add (q_add (q_n (qn_slL (q_v 4) qo_none (qo_some (q_v 5)))) (q_n (qn_lst (qa_cons (q_v 6) qa_nil)))) (q_n (qn_slL (q_v 4) (qo_some (q_add (q_v 5) q_int)) qo_none))) qa_nil))))) (q_callD F__law_off (hr.mono (by decide)) (qa_cons (q_v 1) (qa_cons q_int qa_nil)))))
    (qss_cut (qs_set 8 nd (q_ix (q_n (qn_lst (qa_cons (q_tup (qa_cons q_int (qa_cons q_int qa_nil))) (qa_cons (q_tup (qa_cons (q_neg q_int) (qa_cons q_int qa_nil))) (qa_cons (q_tup (qa_cons q_int (qa_cons q_int qa_nil))) (qa_cons (q_tup (qa_cons q_int (qa_cons q_int qa_nil))) (qa_cons (q_tup (qa_cons q_int (qa_cons q_int qa_nil))) (qa_cons (q_tup (qa_cons q_int (qa_cons q_int qa_nil))) (qa_cons (q_tup (qa_cons q_int (qa_cons (q_neg q_int) qa_nil))) (qa_cons (q_tup (qa_cons q_int (qa_cons q_int qa_nil))) qa_nil)))))))))) (q_callD F__law_off (hr.mono (by decide)) (qa_cons (q_v 1) (qa_cons q_int qa_nil)))))
    (qss_cut (qs_setN 9 nd (qn_lst (qa_cons (q_lamF 1 TB rfl (lamq_call FE_least_width (kk := 8) (by decide) (hr.mono (by decide)) (LamX.lamS_by (sc := defScope s_law) (by decide +kernel)) (fun _ _ _ _ _ _ _ hr => (qa_cons (q_v 3) (qa_cons (q_v 7) qa_nil))))) qa_nil)))
    (qss_cut (qs_expr (q_lm PySem.F.slot_list_append PySem.F.type_list_append mt_append slm_app (q_v 9) (qa_cons (q_lamF 1 TB rfl (lamq_call FE_is_allowed (kk := 8) (by decide) (hr.mono (by decide)) (LamX.lamS_by (sc := defScope s_law) (by decide +kernel)) (fun _ _ _ _ _ _ _ hr => (qa_cons (q_v 3) (qa_cons (q_v 7) (qa_cons (q_v 8) qa_nil)))))) qa_nil)))
    (qss_cut (qs_expr (q_lm PySem.F.slot_list_append PySem.F.type_list_append mt_append slm_app (q_v 9) (qa_cons (q_lamF 1 TB rfl (lamq_call FE_units (kk := 8) (by decide) (hr.mono (by decide)) (LamX.lamS_by (sc := defScope s_law) (by decide +kernel)) (fun _ _ _ _ _ _ _ hr => (qa_cons (q_v 3) (qa_cons (q_v 7) (qa_cons (q_v 8) qa_nil)))))) qa_nil)))
    (qss_cut (qs_expr (q_lm PySem.F.slot_list_append PySem.F.type_list_append mt_append slm_app (q_v 9) (qa_cons (q_lamF 1 TB rfl (lamq_call FE_barring (kk := 8) (by decide) (hr.mono (by decide)) (LamX.lamS_by (sc := defScope s_law) (by decide +kernel)) (fun _ _ _ _ _ _ _ hr => (qa_cons (q_v 3) (qa_cons (q_v 7) (qa_cons (q_ix (q_n (qn_lst (qa_cons (q_tup (qa_cons q_int (qa_cons q_int qa_nil))) (qa_cons (q_v 8) qa_nil)))) (q_callD F__law_off (hr.mono (by decide)) (qa_cons (q_v 1) (qa_cons q_int qa_nil)))) qa_nil)))))) qa_nil)))
    (qss_cut (qs_if (t_cmp (op_neK hr.units) sr_ne (q_n (qn_lcLD (own := [("_law_work", 10)]) rfl nd FL (qi_list (q_v 9)) (blkOk_by (own := [("_law_work", 10)]) (N := ["_law_script", "_law_d", "_law_times_here", "_law_taps", "_law_reading_here", "_law_at", "_law_odd", "_law_bad", "_law_none", "_law_works", "_law_work"]) (sc := defScope s_law) (by decide +kernel)) (by intro _ _ _ _ _; exact (qg_n 10 nd)) (by intro _ _ _ _ _; exact (qa_cons (q_v 10) (qa_cons q_str qa_nil))) (by intro _ _ _ _ _; exact (q_v 10)))) (q_n (qn_lst qa_nil)) (nomark _)) (qss_one (qs_ret q_bl)) qss_nil)
    (qss_cut (qs_setN 9 nd (qn_lst (qa_cons (q_lamF 1 TB rfl (lamq_call FE_is_allowed (kk := 8) (by decide) (hr.mono (by decide)) (LamX.lamS_by (sc := defScope s_law) (by decide +kernel)) (fun _ _ _ _ _ _ _ hr => (qa_cons (q_v 3) (qa_cons (q_v 4) (qa_cons (q_v 8) qa_nil)))))) qa_nil)))
    (qss_cut (qs_expr (q_lm PySem.F.slot_list_append PySem.F.type_list_append mt_append slm_app (q_v 9) (qa_cons (q_lamF 1 TB rfl (lamq_call FE_units (kk := 8) (by decide) (hr.mono (by decide)) (LamX.lamS_by (sc := defScope s_law) (by decide +kernel)) (fun _ _ _ _ _ _ _ hr => (qa_cons (q_v 3) (qa_cons (q_v 4) (qa_cons (q_v 8) qa_nil)))))) qa_nil)))
    (qss_cut (qs_expr (q_lm PySem.F.slot_list_append PySem.F.type_list_append mt_append slm_app (q_v 9) (qa_cons (q_lamF 1 TB rfl (lamq_call FE_barring (kk := 8) (by decide) (hr.mono (by decide)) (LamX.lamS_by (sc := defScope s_law) (by decide +kernel)) (fun _ _ _ _ _ _ _ hr => (qa_cons (q_v 3) (qa_cons (q_v 4) (qa_cons (q_v 8) qa_nil)))))) qa_nil)))
    (qss_cut (qs_expr (q_lm PySem.F.slot_list_append PySem.F.type_list_append mt_append slm_app (q_v 9) (qa_cons (q_lamF 1 TB rfl (lamq_call FE_readings (kk := 8) (by decide) (hr.mono (by decide)) (LamX.lamS_by (sc := defScope s_law) (by decide +kernel)) (fun _ _ _ _ _ _ _ hr => (qa_cons (q_v 3) (qa_cons (q_v 8) qa_nil))))) qa_nil)))
    (qss_cut (qs_expr (q_lm PySem.F.slot_list_append PySem.F.type_list_append mt_append slm_app (q_v 9) (qa_cons (q_lamF 1 TB rfl (lamq_call FE_pieces (kk := 8) (by decide) (hr.mono (by decide)) (LamX.lamS_by (sc := defScope s_law) (by decide +kernel)) (fun _ _ _ _ _ _ _ hr => (qa_cons (q_v 3) (qa_cons (q_v 8) qa_nil))))) qa_nil)))
    (qss_one (qs_ret (q_cmp (op_eqK hr.units) sr_eq (q_n (qn_lcLD (own := [("_law_work", 10)]) rfl nd FL (qi_list (q_v 9)) (blkOk_by (own := [("_law_work", 10)]) (N := ["_law_script", "_law_d", "_law_times_here", "_law_taps", "_law_reading_here", "_law_at", "_law_odd", "_law_bad", "_law_none", "_law_works", "_law_work"]) (sc := defScope s_law) (by decide +kernel)) (by intro _ _ _ _ _; exact (qg_n 10 nd)) (by intro _ _ _ _ _; exact (qa_cons (q_v 10) (qa_cons q_str qa_nil))) (by intro _ _ _ _ _; exact (q_v 10)))) (q_n (qn_lst qa_nil)) (nomark _))))))))))))))))))))) (by decide) h ?_
  have hq : (cxOf CX0 P wd K mg base ["_law_script", "_law_d", "_law_times_here", "_law_taps", "_law_reading_here", "_law_at", "_law_odd", "_law_bad", "_law_none", "_law_works", "_law_work"] "law" (defScope s_law) f (.ref c_L) A outer s H E).nox.env.qual ++ "<lambda>" = qLaw := rfl
  clear FL
  generalize (cxOf CX0 P wd K mg base ["_law_script", "_law_d", "_law_times_here", "_law_taps", "_law_reading_here", "_law_at", "_law_odd", "_law_bad", "_law_none", "_law_works", "_law_work"] "law" (defScope s_law) f (.ref c_L) A outer s H E).nox = X_ at hq ⊢
  rw [hq]
  refine ⟨rfl, 25, rfl, by decide, by decide, fun ts ht hm => ?_⟩
  have hl := ht.2.1
  have h0 := ht.1
  refine ⟨ts, rfl, ht, ?_⟩
  refine ⟨rfl, ts.length, by rw [List.length_map], by omega, fun rs hlr hv => ?_⟩
  refine ⟨rfl, ts.length, by rw [List.length_map], by omega, by omega, fun a h1 h2 => ?_⟩
  obtain ⟨a, rfl⟩ := Int.eq_ofNat_of_zero_le h1
  have ha : a < rs.length := by omega
  have zz : 1000 ≤ sizeLine := by decide
  refine ⟨fun sl st => ∃ o : Int, o ∉ kindsL a ∧ sl = [none, some (.l 0), some (.v (ils ts)), some (.v (tapsP ts)), some (.v (ils rs)), some (.v (.int (a : Nat))), some (.v (.int o)), none, none, none, none] ∧ st = [.dice, .tab P_L qLaw []], ?_, ?_⟩
  · refine ⟨by show (2 : Int) ≠ 0; decide, .inl ⟨by decide, by decide⟩, by show 6 ≤ sizeLine; decide, ?_⟩
    refine ⟨rfl, 6, rfl, by decide, by decide, fun k h3 h4 => ?_⟩
    obtain ⟨k, rfl⟩ := Int.eq_ofNat_of_zero_le h3
    obtain ⟨o, ho⟩ : ∃ o, [(0 : Int), 2, 5, 7 - 14 * ((a : Int).fmod 2), -1, 9][k]? = some o := ⟨_, List.getElem?_eq_getElem (by show k < 6; omega)⟩
    exact ⟨.int o, idx_map (f := PV.int) ho, o, odd_no ho, rfl, rfl⟩
  rintro sl st ⟨o, ho, rfl, rfl⟩
  refine ⟨fun sl st => ∃ bs : List Int, BadR ts bs ∧ sl = [none, some (.l 0), some (.v (ils ts)), some (.v (tapsP ts)), some (.v (ils rs)), some (.v (.int (a : Nat))), some (.v (.int o)), some (.v (ils bs)), none, none, none] ∧ st = [.dice, .tab P_L qLaw []], ?_, ?_⟩
  · have e1 : cutP (rs.map PV.int) (some 1) none = (rs.drop 1).map PV.int := by rw [show (1 : Int) = ((1 : Nat) : Int) from rfl, cutP_from, List.map_drop]
    have e2 : cutP (rs.map PV.int) none (some (a : Int)) = (rs.take a).map PV.int := by rw [cutP_to, List.map_take]
    have e3 : cutP (rs.map PV.int) (some ((a : Int) + 1)) none = (rs.drop (a + 1)).map PV.int := by rw [show ((a : Int) + 1) = ((a + 1 : Nat) : Int) from rfl, cutP_from, List.map_drop]
    refine ⟨by show 1 ≤ sizeLine; decide, by rw [List.length_map]; show _ + 1 ≤ _; omega, by show 1 ≤ sizeLine; decide, by rw [e2, List.length_map, List.length_take]; show _ + 1 ≤ _; omega, ?_, by show 3 ≤ sizeLine; decide, rfl, 3, rfl, by decide, by decide, fun k h3 h4 => ?_⟩
    · rw [e2, e3, List.length_append, List.length_map, List.length_map, List.length_take, List.length_drop]
      show _ + 1 + _ ≤ _
      omega
    obtain ⟨k, rfl⟩ := Int.eq_ofNat_of_zero_le h3
    obtain ⟨bs, hbs⟩ : ∃ bs, [rs.drop 1, rs ++ [1], rs.take a ++ [o] ++ rs.drop (a + 1)][k]? = some bs := ⟨_, List.getElem?_eq_getElem (by show k < 3; omega)⟩
    refine ⟨ils bs, ?_, bs, ?_, rfl, rfl⟩
    · refine Eq.trans ?_ (idx_map (f := fun l => ils l) hbs)
      show idx [.lst (cutP (rs.map PV.int) (some 1) none), .lst (rs.map PV.int ++ [.int 1]), .lst (cutP (rs.map PV.int) none (some (a : Int)) ++ [.int o] ++ cutP (rs.map PV.int) (some ((a : Int) + 1)) none)] (k : Int) = idx [ils (rs.drop 1), ils (rs ++ [1]), ils (rs.take a ++ [o] ++ rs.drop (a + 1))] (k : Int)
      rw [e1, e2, e3]
      unfold ils
      rw [List.map_append, List.map_append, List.map_append]
      rfl
    · match k, hbs with
      | 0, hbs => cases hbs; exact badR_drop hlr h0 hl
      | 1, hbs => cases hbs; exact badR_more hlr hl
      | 2, hbs => cases hbs; exact badR_odd hlr hl ha ho
      | k + 3, hbs => simp at hbs
  rintro sl st ⟨bs, hb, rfl, rfl⟩
  refine ⟨fun sl st => ∃ w : Fr, w ∈ NoneW ∧ sl = [none, some (.l 0), some (.v (ils ts)), some (.v (tapsP ts)), some (.v (ils rs)), some (.v (.int (a : Nat))), some (.v (.int o)), some (.v (ils bs)), some (.v (fr w)), none, none] ∧ st = [.dice, .tab P_L qLaw []], ?_, ?_⟩
  · refine ⟨by show 2 ≤ sizeLine; decide, by show 2 ≤ sizeLine; decide, by show 2 ≤ sizeLine; decide, by show 2 ≤ sizeLine; decide, by show 2 ≤ sizeLine; decide, by show 2 ≤ sizeLine; decide, by show 2 ≤ sizeLine; decide, by show 2 ≤ sizeLine; decide, by show 8 ≤ sizeLine; decide, rfl, 8, rfl, by decide, by decide, fun k h3 h4 => ?_⟩
    obtain ⟨k, rfl⟩ := Int.eq_ofNat_of_zero_le h3
    obtain ⟨w, hw⟩ : ∃ w, NoneW[k]? = some w := ⟨_, List.getElem?_eq_getElem (by show k < 8; omega)⟩
    exact ⟨fr w, idx_map (f := fr) hw, w, List.mem_of_getElem? hw, rfl, rfl⟩
  rintro sl st ⟨w, hw, rfl, rfl⟩
  refine ⟨fun sl st => ∃ f1 : Addr, ∃ ls, sl = [none, some (.l 0), some (.v (ils ts)), some (.v (tapsP ts)), some (.v (ils rs)), some (.v (.int (a : Nat))), some (.v (.int o)), some (.v (ils bs)), some (.v (fr w)), some (.l 2), none] ∧ st = [.dice, .tab P_L qLaw ls, .lst [.opq f1]] ∧ LamIn X_ cl 8 ls f1 (sld 0 [none, some (.l 0), some (.v (ils ts)), some (.v (tapsP ts)), some (.v (ils rs)), some (.v (.int (a : Nat))), some (.v (.int o)), some (.v (ils bs)), some (.v (fr w)), none, none]) "BadReading" [] [], ?_, ?_⟩
  · refine ⟨[], rfl, fun f c M => ⟨by show 1 ≤ sizeLine; decide, f, _, rfl, rfl, .new M ?_⟩⟩
    exact ⟨Nat.succ_pos _, ts, bs, rfl, hb, rfl, rfl, rfl⟩
  rintro sl st ⟨f1, ls, rfl, rfl, L1⟩
  refine ⟨fun sl st => ∃ f1 f2 : Addr, ∃ ls, sl = [none, some (.l 0), some (.v (ils ts)), some (.v (tapsP ts)), some (.v (ils rs)), some (.v (.int (a : Nat))), some (.v (.int o)), some (.v (ils bs)), some (.v (fr w)), some (.l 2), none] ∧ st = [.dice, .tab P_L qLaw ls, .lst [.opq f1, .opq f2]] ∧ LamIn X_ cl 8 ls f1 (sld 0 [none, some (.l 0), some (.v (ils ts)), some (.v (tapsP ts)), some (.v (ils rs)), some (.v (.int (a : Nat))), some (.v (.int o)), some (.v (ils bs)), some (.v (fr w)), none, none]) "BadReading" [] [] ∧ LamIn X_ cl 8 ls f2 (sld 0 [none, some (.l 0), some (.v (ils ts)), some (.v (tapsP ts)), some (.v (ils rs)), some (.v (.int (a : Nat))), some (.v (.int o)), some (.v (ils bs)), some (.v (fr w)), none, none]) "BadReading" [] [], ?_, ?_⟩
  · refine ⟨ls, rfl, fun f c M => ⟨by show 1 < 100000; decide, f1, f, _, rfl, rfl, L1.more _, .new M ?_⟩⟩
    exact ⟨Nat.succ_pos _, ts, bs, _, rfl, .inl ⟨hb, rfl, rfl, rfl⟩⟩
  rintro sl st ⟨f1, f2, ls, rfl, rfl, L1, L2⟩
  refine ⟨fun sl st => ∃ f1 f2 f3 : Addr, ∃ ls, sl = [none, some (.l 0), some (.v (ils ts)), some (.v (tapsP ts)), some (.v (ils rs)), some (.v (.int (a : Nat))), some (.v (.int o)), some (.v (ils bs)), some (.v (fr w)), some (.l 2), none] ∧ st = [.dice, .tab P_L qLaw ls, .lst [.opq f1, .opq f2, .opq f3]] ∧ LamIn X_ cl 8 ls f1 (sld 0 [none, some (.l 0), some (.v (ils ts)), some (.v (tapsP ts)), some (.v (ils rs)), some (.v (.int (a : Nat))), some (.v (.int o)), some (.v (ils bs)), some (.v (fr w)), none, none]) "BadReading" [] [] ∧ LamIn X_ cl 8 ls f2 (sld 0 [none, some (.l 0), some (.v (ils ts)), some (.v (tapsP ts)), some (.v (ils rs)), some (.v (.int (a : Nat))), some (.v (.int o)), some (.v (ils bs)), some (.v (fr w)), none, none]) "BadReading" [] [] ∧ LamIn X_ cl 8 ls f3 (sld 0 [none, some (.l 0), some (.v (ils ts)), some (.v (tapsP ts)), some (.v (ils rs)), some (.v (.int (a : Nat))), some (.v (.int o)), some (.v (ils bs)), some (.v (fr w)), none, none]) "BadReading" [] [], ?_, ?_⟩
  · refine ⟨ls, rfl, fun f c M => ⟨by show 2 < 100000; decide, f1, f2, f, _, rfl, rfl, L1.more _, L2.more _, .new M ?_⟩⟩
    exact ⟨Nat.succ_pos _, ts, bs, _, rfl, .inl ⟨hb, rfl, rfl, rfl⟩⟩
  rintro sl st ⟨f1, f2, f3, ls, rfl, rfl, L1, L2, L3⟩
  refine ⟨fun sl st => ∃ f1 f2 f3 f4 : Addr, ∃ ls, sl = [none, some (.l 0), some (.v (ils ts)), some (.v (tapsP ts)), some (.v (ils rs)), some (.v (.int (a : Nat))), some (.v (.int o)), some (.v (ils bs)), some (.v (fr w)), some (.l 2), none] ∧ st = [.dice, .tab P_L qLaw ls, .lst [.opq f1, .opq f2, .opq f3, .opq f4]] ∧ LamIn X_ cl 8 ls f1 (sld 0 [none, some (.l 0), some (.v (ils ts)), some (.v (tapsP ts)), some (.v (ils rs)), some (.v (.int (a : Nat))), some (.v (.int o)), some (.v (ils bs)), some (.v (fr w)), none, none]) "BadReading" [] [] ∧ LamIn X_ cl 8 ls f2 (sld 0 [none, some (.l 0), some (.v (ils ts)), some (.v (tapsP ts)), some (.v (ils rs)), some (.v (.int (a : Nat))), some (.v (.int o)), some (.v (ils bs)), some (.v (fr w)), none, none]) "BadReading" [] [] ∧ LamIn X_ cl 8 ls f3 (sld 0 [none, some (.l 0), some (.v (ils ts)), some (.v (tapsP ts)), some (.v (ils rs)), some (.v (.int (a : Nat))), some (.v (.int o)), some (.v (ils bs)), some (.v (fr w)), none, none]) "BadReading" [] [] ∧ LamIn X_ cl 8 ls f4 (sld 0 [none, some (.l 0), some (.v (ils ts)), some (.v (tapsP ts)), some (.v (ils rs)), some (.v (.int (a : Nat))), some (.v (.int o)), some (.v (ils bs)), some (.v (fr w)), none, none]) "BadReading" [] [], ?_, ?_⟩
  · refine ⟨ls, rfl, fun f c M => ⟨by show 3 < 100000; decide, f1, f2, f3, f, _, rfl, rfl, L1.more _, L2.more _, L3.more _, .new M ?_⟩⟩
    refine ⟨by show 2 ≤ sizeLine; decide, by show 2 ≤ sizeLine; decide, rfl, 2, rfl, by decide, by decide, fun k h3 h4 => ?_⟩
    obtain ⟨k, rfl⟩ := Int.eq_ofNat_of_zero_le h3
    obtain ⟨p, hp⟩ : ∃ p, [fr (0, 1), fr w][k]? = some p := ⟨_, List.getElem?_eq_getElem (by show k < 2; omega)⟩
    exact ⟨p, hp, Nat.succ_pos _, ts, bs, p, rfl, .inl ⟨hb, rfl, rfl, rfl⟩⟩
  rintro sl st ⟨f1, f2, f3, f4, ls, rfl, rfl, L1, L2, L3, L4⟩
  refine ⟨fun sl st => sl = [none, some (.l 0), some (.v (ils ts)), some (.v (tapsP ts)), some (.v (ils rs)), some (.v (.int (a : Nat))), some (.v (.int o)), some (.v (ils bs)), some (.v (fr w)), some (.l 2), none] ∧ st = [.dice, .tab P_L qLaw ls, .frz [.opq f1, .opq f2, .opq f3, .opq f4]], ?_, ?_⟩
  · refine lcP (by show 4 ≤ 100000; decide) (fun _ acc st => acc = [] ∧ st = [.dice, .tab P_L qLaw ls, .frz [.opq f1, .opq f2, .opq f3, .opq f4]]) ⟨rfl, rfl⟩ ?_ ?_
    · rintro i acc p st2 hi ⟨rfl, rfl⟩
      obtain ⟨f', rfl, hL⟩ : ∃ f', p = .opq f' ∧ LamIn X_ cl 8 ls f' (sld 0 [none, some (.l 0), some (.v (ils ts)), some (.v (tapsP ts)), some (.v (ils rs)), some (.v (.int (a : Nat))), some (.v (.int o)), some (.v (ils bs)), some (.v (fr w)), none, none]) "BadReading" [] [] := by
        match i, hi with
        | 0, hi => exact ⟨f1, by simpa using hi.symm, L1⟩
        | 1, hi => exact ⟨f2, by simpa using hi.symm, L2⟩
        | 2, hi => exact ⟨f3, by simpa using hi.symm, L3⟩
        | 3, hi => exact ⟨f4, by simpa using hi.symm, L4⟩
        | n + 4, hi => simp at hi
      obtain ⟨L, wr, e1, e2, e3⟩ := hL
      exact ⟨1, 0, P_L, ls, L, wr, _, _, _, by rw [hq]; rfl, e1, rfl, e2, e3, "reading", .inl ⟨rfl, rfl⟩, rfl, rfl, rfl, true, rfl, rfl, rfl⟩
    · rintro acc st2 ⟨rfl, rfl⟩
      refine ⟨Nat.zero_le _, ⟨rfl, rfl, dep_of (d := 1) (by decide) (by decide), dep_of (d := 1) (by decide) (by decide)⟩, ?_⟩
      exact ciNT rfl ⟨rfl, rfl⟩
  rintro sl st ⟨rfl, rfl⟩
  have okW : ∀ (p : PV), p = fr w → _root_.VH.spE_allow [tapsP ts, ils rs, p] (fun c n q => c = "BadWidth" ∧ n = [] ∧ q = []) := fun p e => ⟨ts, rs, p, rfl, .inr ⟨hlr, by omega, hv, w, e, hw, rfl, rfl, rfl⟩⟩
  have okR : ∀ (p : PV), _root_.VH.spE_rdgs [p, fr w] (fun c n q => c = "BadWidth" ∧ n = [] ∧ q = []) := fun p => ⟨p, w, rfl, hw, rfl, rfl, rfl⟩
  refine ⟨fun sl st => ∃ g1 : Addr, ∃ ls, sl = [none, some (.l 0), some (.v (ils ts)), some (.v (tapsP ts)), some (.v (ils rs)), some (.v (.int (a : Nat))), some (.v (.int o)), some (.v (ils bs)), some (.v (fr w)), some (.l 3), none] ∧ st = [.dice, .tab P_L qLaw ls, .frz [.opq f1, .opq f2, .opq f3, .opq f4], .lst [.opq g1]] ∧ LamIn X_ cl 8 ls g1 (sld 0 [none, some (.l 0), some (.v (ils ts)), some (.v (tapsP ts)), some (.v (ils rs)), some (.v (.int (a : Nat))), some (.v (.int o)), some (.v (ils bs)), some (.v (fr w)), none, none]) "BadWidth" [] [], ?_, ?_⟩
  · exact ⟨ls, rfl, fun f c M => ⟨by show 1 ≤ sizeLine; decide, f, _, rfl, rfl, .new M ⟨Nat.succ_pos _, okW _ rfl⟩⟩⟩
  rintro sl st ⟨g1, ls2, rfl, rfl, M1⟩
  refine ⟨fun sl st => ∃ g1 g2 : Addr, ∃ ls, sl = [none, some (.l 0), some (.v (ils ts)), some (.v (tapsP ts)), some (.v (ils rs)), some (.v (.int (a : Nat))), some (.v (.int o)), some (.v (ils bs)), some (.v (fr w)), some (.l 3), none] ∧ st = [.dice, .tab P_L qLaw ls, .frz [.opq f1, .opq f2, .opq f3, .opq f4], .lst [.opq g1, .opq g2]] ∧ LamIn X_ cl 8 ls g1 (sld 0 [none, some (.l 0), some (.v (ils ts)), some (.v (tapsP ts)), some (.v (ils rs)), some (.v (.int (a : Nat))), some (.v (.int o)), some (.v (ils bs)), some (.v (fr w)), none, none]) "BadWidth" [] [] ∧ LamIn X_ cl 8 ls g2 (sld 0 [none, some (.l 0), some (.v (ils ts)), some (.v (tapsP ts)), some (.v (ils rs)), some (.v (.int (a : Nat))), some (.v (.int o)), some (.v (ils bs)), some (.v (fr w)), none, none]) "BadWidth" [] [], ?_, ?_⟩
  · exact ⟨ls2, rfl, fun f c M => ⟨by show 1 < 100000; decide, g1, f, _, rfl, rfl, M1.more _, .new M ⟨Nat.succ_pos _, okW _ rfl⟩⟩⟩
  rintro sl st ⟨g1, g2, ls3, rfl, rfl, M1, M2⟩
  refine ⟨fun sl st => ∃ g1 g2 g3 : Addr, ∃ ls, sl = [none, some (.l 0), some (.v (ils ts)), some (.v (tapsP ts)), some (.v (ils rs)), some (.v (.int (a : Nat))), some (.v (.int o)), some (.v (ils bs)), some (.v (fr w)), some (.l 3), none] ∧ st = [.dice, .tab P_L qLaw ls, .frz [.opq f1, .opq f2, .opq f3, .opq f4], .lst [.opq g1, .opq g2, .opq g3]] ∧ LamIn X_ cl 8 ls g1 (sld 0 [none, some (.l 0), some (.v (ils ts)), some (.v (tapsP ts)), some (.v (ils rs)), some (.v (.int (a : Nat))), some (.v (.int o)), some (.v (ils bs)), some (.v (fr w)), none, none]) "BadWidth" [] [] ∧ LamIn X_ cl 8 ls g2 (sld 0 [none, some (.l 0), some (.v (ils ts)), some (.v (tapsP ts)), some (.v (ils rs)), some (.v (.int (a : Nat))), some (.v (.int o)), some (.v (ils bs)), some (.v (fr w)), none, none]) "BadWidth" [] [] ∧ LamIn X_ cl 8 ls g3 (sld 0 [none, some (.l 0), some (.v (ils ts)), some (.v (tapsP ts)), some (.v (ils rs)), some (.v (.int (a : Nat))), some (.v (.int o)), some (.v (ils bs)), some (.v (fr w)), none, none]) "BadWidth" [] [], ?_, ?_⟩
  · exact ⟨ls3, rfl, fun f c M => ⟨by show 2 < 100000; decide, g1, g2, f, _, rfl, rfl, M1.more _, M2.more _, .new M ⟨Nat.succ_pos _, okW _ rfl⟩⟩⟩
  rintro sl st ⟨g1, g2, g3, ls4, rfl, rfl, M1, M2, M3⟩
  refine ⟨fun sl st => ∃ g1 g2 g3 g4 : Addr, ∃ ls, sl = [none, some (.l 0), some (.v (ils ts)), some (.v (tapsP ts)), some (.v (ils rs)), some (.v (.int (a : Nat))), some (.v (.int o)), some (.v (ils bs)), some (.v (fr w)), some (.l 3), none] ∧ st = [.dice, .tab P_L qLaw ls, .frz [.opq f1, .opq f2, .opq f3, .opq f4], .lst [.opq g1, .opq g2, .opq g3, .opq g4]] ∧ LamIn X_ cl 8 ls g1 (sld 0 [none, some (.l 0), some (.v (ils ts)), some (.v (tapsP ts)), some (.v (ils rs)), some (.v (.int (a : Nat))), some (.v (.int o)), some (.v (ils bs)), some (.v (fr w)), none, none]) "BadWidth" [] [] ∧ LamIn X_ cl 8 ls g2 (sld 0 [none, some (.l 0), some (.v (ils ts)), some (.v (tapsP ts)), some (.v (ils rs)), some (.v (.int (a : Nat))), some (.v (.int o)), some (.v (ils bs)), some (.v (fr w)), none, none]) "BadWidth" [] [] ∧ LamIn X_ cl 8 ls g3 (sld 0 [none, some (.l 0), some (.v (ils ts)), some (.v (tapsP ts)), some (.v (ils rs)), some (.v (.int (a : Nat))), some (.v (.int o)), some (.v (ils bs)), some (.v (fr w)), none, none]) "BadWidth" [] [] ∧ LamIn X_ cl 8 ls g4 (sld 0 [none, some (.l 0), some (.v (ils ts)), some (.v (tapsP ts)), some (.v (ils rs)), some (.v (.int (a : Nat))), some (.v (.int o)), some (.v (ils bs)), some (.v (fr w)), none, none]) "BadWidth" [] [], ?_, ?_⟩
  · exact ⟨ls4, rfl, fun f c M => ⟨by show 3 < 100000; decide, g1, g2, g3, f, _, rfl, rfl, M1.more _, M2.more _, M3.more _, .new M ⟨Nat.succ_pos _, okR _⟩⟩⟩
  rintro sl st ⟨g1, g2, g3, g4, ls5, rfl, rfl, M1, M2, M3, M4⟩
  refine ⟨fun sl st => ∃ g1 g2 g3 g4 g5 : Addr, ∃ ls, sl = [none, some (.l 0), some (.v (ils ts)), some (.v (tapsP ts)), some (.v (ils rs)), some (.v (.int (a : Nat))), some (.v (.int o)), some (.v (ils bs)), some (.v (fr w)), some (.l 3), none] ∧ st = [.dice, .tab P_L qLaw ls, .frz [.opq f1, .opq f2, .opq f3, .opq f4], .lst [.opq g1, .opq g2, .opq g3, .opq g4, .opq g5]] ∧ LamIn X_ cl 8 ls g1 (sld 0 [none, some (.l 0), some (.v (ils ts)), some (.v (tapsP ts)), some (.v (ils rs)), some (.v (.int (a : Nat))), some (.v (.int o)), some (.v (ils bs)), some (.v (fr w)), none, none]) "BadWidth" [] [] ∧ LamIn X_ cl 8 ls g2 (sld 0 [none, some (.l 0), some (.v (ils ts)), some (.v (tapsP ts)), some (.v (ils rs)), some (.v (.int (a : Nat))), some (.v (.int o)), some (.v (ils bs)), some (.v (fr w)), none, none]) "BadWidth" [] [] ∧ LamIn X_ cl 8 ls g3 (sld 0 [none, some (.l 0), some (.v (ils ts)), some (.v (tapsP ts)), some (.v (ils rs)), some (.v (.int (a : Nat))), some (.v (.int o)), some (.v (ils bs)), some (.v (fr w)), none, none]) "BadWidth" [] [] ∧ LamIn X_ cl 8 ls g4 (sld 0 [none, some (.l 0), some (.v (ils ts)), some (.v (tapsP ts)), some (.v (ils rs)), some (.v (.int (a : Nat))), some (.v (.int o)), some (.v (ils bs)), some (.v (fr w)), none, none]) "BadWidth" [] [] ∧ LamIn X_ cl 8 ls g5 (sld 0 [none, some (.l 0), some (.v (ils ts)), some (.v (tapsP ts)), some (.v (ils rs)), some (.v (.int (a : Nat))), some (.v (.int o)), some (.v (ils bs)), some (.v (fr w)), none, none]) "BadWidth" [] [], ?_, ?_⟩
  · exact ⟨ls5, rfl, fun f c M => ⟨by show 4 < 100000; decide, g1, g2, g3, g4, f, _, rfl, rfl, M1.more _, M2.more _, M3.more _, M4.more _, .new M ⟨Nat.succ_pos _, okR _⟩⟩⟩
  rintro sl st ⟨g1, g2, g3, g4, g5, ls6, rfl, rfl, M1, M2, M3, M4, M5⟩
  refine lcP (by show 5 ≤ 100000; decide) (fun _ acc st => acc = [] ∧ st = [.dice, .tab P_L qLaw ls6, .frz [.opq f1, .opq f2, .opq f3, .opq f4], .frz [.opq g1, .opq g2, .opq g3, .opq g4, .opq g5]]) ⟨rfl, rfl⟩ ?_ ?_
  · rintro i acc p st2 hi ⟨rfl, rfl⟩
    obtain ⟨f', rfl, hL⟩ : ∃ f', p = .opq f' ∧ LamIn X_ cl 8 ls6 f' (sld 0 [none, some (.l 0), some (.v (ils ts)), some (.v (tapsP ts)), some (.v (ils rs)), some (.v (.int (a : Nat))), some (.v (.int o)), some (.v (ils bs)), some (.v (fr w)), none, none]) "BadWidth" [] [] := by
      match i, hi with
      | 0, hi => exact ⟨g1, by simpa using hi.symm, M1⟩
      | 1, hi => exact ⟨g2, by simpa using hi.symm, M2⟩
      | 2, hi => exact ⟨g3, by simpa using hi.symm, M3⟩
      | 3, hi => exact ⟨g4, by simpa using hi.symm, M4⟩
      | 4, hi => exact ⟨g5, by simpa using hi.symm, M5⟩
      | n + 5, hi => simp at hi
    obtain ⟨L, wr, e1, e2, e3⟩ := hL
    exact ⟨1, 0, P_L, ls6, L, wr, _, _, _, by rw [hq]; rfl, e1, rfl, e2, e3, "width", .inr ⟨rfl, rfl⟩, rfl, rfl, rfl, true, rfl, rfl, rfl⟩
  · rintro acc st2 ⟨rfl, rfl⟩
    refine ⟨Nat.zero_le _, ⟨rfl, rfl, dep_of (d := 1) (by decide) (by decide), dep_of (d := 1) (by decide) (by decide)⟩, ?_⟩
    exact congrArg PV.bl (by classical exact decide_eq_true rfl)

end
theorem all_mk {l : PySem.W.OpenLaw} {w : World} {K : PySem.W.Frag} {h : Heap} {mg : Str → Option Value} {fa : Addr} (X : K.In h) (G : h.Ns mainGlobals mg) (hfa : mg "law" = some (.ref fa)) {ts_ : List Addr} (hT : ∀ P ∈ ts_, h.get? P = some (PySem.W.tabObj #[]))
    {tMOST_TAPS : Tok}
    {tMOST_TIME : Tok}
    {tDOWN0 tDOWN1 : Tok} {aDOWN : Addr} {dDOWN : Option Addr} {nDOWN : Nat} {slDOWN : Array (Option Value)}
    {tUP0 tUP1 tUP2 : Tok} {aUP : Addr} {dUP : Option Addr} {nUP : Nat} {slUP : Array (Option Value)}
    {tHALVES0 tHALVES1 : Tok} {aHALVES : Addr} {dHALVES : Option Addr} {nHALVES : Nat} {slHALVES : Array (Option Value)}
    {C_Taps : Addr}
    {C_Found : Addr}
    {C_TapError : Addr} {cd_TapError : ClassData} {C_BadTaps : Addr} {cd_BadTaps : ClassData} {C_BadReading : Addr} {cd_BadReading : ClassData} {C_BadWidth : Addr} {cd_BadWidth : ClassData} {C_BadTable : Addr} {cd_BadTable : ClassData} {C_BadWords : Addr} {cd_BadWords : ClassData} {C_BadText : Addr} {cd_BadText : ClassData}
    {f0 : Addr} {od0 an0 : Option Addr} {sl0 : Array (Option Value)} {oc0 kV0 dc0 pm0 cd0 ct0 : Value}
    {f1 : Addr} {od1 an1 : Option Addr} {sl1 : Array (Option Value)} {oc1 kV1 dc1 pm1 cd1 ct1 : Value}
    {f2 : Addr} {od2 an2 : Option Addr} {sl2 : Array (Option Value)} {oc2 kV2 dc2 pm2 cd2 ct2 : Value}
    {f3 : Addr} {od3 an3 : Option Addr} {sl3 : Array (Option Value)} {oc3 kV3 dc3 pm3 cd3 ct3 : Value}
    {f4 : Addr} {od4 an4 : Option Addr} {sl4 : Array (Option Value)} {oc4 kV4 dc4 pm4 cd4 ct4 : Value}
    {f5 : Addr} {od5 an5 : Option Addr} {sl5 : Array (Option Value)} {oc5 kV5 dc5 pm5 cd5 ct5 : Value}
    {f6 : Addr} {od6 an6 : Option Addr} {sl6 : Array (Option Value)} {oc6 kV6 dc6 pm6 cd6 ct6 : Value}
    {f7 : Addr} {od7 an7 : Option Addr} {sl7 : Array (Option Value)} {oc7 kV7 dc7 pm7 cd7 ct7 : Value}
    {f8 : Addr} {od8 an8 : Option Addr} {sl8 : Array (Option Value)} {oc8 kV8 dc8 pm8 cd8 ct8 : Value}
    {f9 : Addr} {od9 an9 : Option Addr} {sl9 : Array (Option Value)} {oc9 kV9 dc9 pm9 cd9 ct9 : Value}
    {f10 : Addr} {od10 an10 : Option Addr} {sl10 : Array (Option Value)} {oc10 kV10 dc10 pm10 cd10 ct10 : Value}
    {f11 : Addr} {od11 an11 : Option Addr} {sl11 : Array (Option Value)} {oc11 kV11 dc11 pm11 cd11 ct11 : Value}
    {f12 : Addr} {od12 an12 : Option Addr} {sl12 : Array (Option Value)} {oc12 kV12 dc12 pm12 cd12 ct12 : Value}
    {f13 : Addr} {od13 an13 : Option Addr} {sl13 : Array (Option Value)} {oc13 kV13 dc13 pm13 cd13 ct13 : Value}
    {f14 : Addr} {od14 an14 : Option Addr} {sl14 : Array (Option Value)} {oc14 kV14 dc14 pm14 cd14 ct14 : Value}
    {f15 : Addr} {od15 an15 : Option Addr} {sl15 : Array (Option Value)} {oc15 kV15 dc15 pm15 cd15 ct15 : Value}
    {f16 : Addr} {od16 an16 : Option Addr} {sl16 : Array (Option Value)} {oc16 kV16 dc16 pm16 cd16 ct16 : Value}
    {f17 : Addr} {od17 an17 : Option Addr} {sl17 : Array (Option Value)} {oc17 kV17 dc17 pm17 cd17 ct17 : Value}
    {f18 : Addr} {od18 an18 : Option Addr} {sl18 : Array (Option Value)} {oc18 kV18 dc18 pm18 ct18 : Value}
    {cL_ PL_ : Addr} {dcL : Option Addr} {vsL : Array Value} {slcL : Array (Option Value)}
    (z_abs : PySem.W.nsIn K mainGlobals "abs" = some none)
    (z_len : PySem.W.nsIn K mainGlobals "len" = some none)
    (z_range : PySem.W.nsIn K mainGlobals "range" = some none)
    (z_max : PySem.W.nsIn K mainGlobals "max" = some none)
    (z_min : PySem.W.nsIn K mainGlobals "min" = some none)
    (z_int : PySem.W.nsIn K mainGlobals "int" = some none)
    (z_list : PySem.W.nsIn K mainGlobals "list" = some none)
    (z_enumerate : PySem.W.nsIn K mainGlobals "enumerate" = some none)
    (z_isinstance : PySem.W.nsIn K mainGlobals "isinstance" = some none)
    (z_tuple : PySem.W.nsIn K mainGlobals "tuple" = some none)
    (z_ValueError : PySem.W.nsIn K mainGlobals "ValueError" = some none)
    (b_MOST_TAPS : PySem.W.nsIn K mainGlobals "MOST_TAPS" = some (some (.int 25 tMOST_TAPS)))
    (b_MOST_TIME : PySem.W.nsIn K mainGlobals "MOST_TIME" = some (some (.int 9999 tMOST_TIME)))
    (b_DOWN : PySem.W.nsIn K mainGlobals "DOWN" = some (some (.ref aDOWN))) (l_DOWN : K.lookup aDOWN = some ⟨.type "tuple", dDOWN, .seq #[.int 1 tDOWN0, .int 3 tDOWN1] nDOWN, slDOWN⟩)
    (b_UP : PySem.W.nsIn K mainGlobals "UP" = some (some (.ref aUP))) (l_UP : K.lookup aUP = some ⟨.type "tuple", dUP, .seq #[.int 1 tUP0, .int 3 tUP1, .int 7 tUP2] nUP, slUP⟩)
    (b_HALVES : PySem.W.nsIn K mainGlobals "HALVES" = some (some (.ref aHALVES))) (l_HALVES : K.lookup aHALVES = some ⟨.type "tuple", dHALVES, .seq #[.int 2 tHALVES0, .int 5 tHALVES1] nHALVES, slHALVES⟩)
    (a_Taps : PySem.W.nsIn K mainGlobals "Taps" = some (some (.ref C_Taps))) (pg_Taps : PySem.W.plainGet K C_Taps Str.empty = true) (hd_Taps : PySem.W.hasDictIn K C_Taps = true) (po_Taps : PySem.W.plainOver K C_Taps = true) (sa_Taps : PySem.W.findIn K (.ref C_Taps) "__setattr__" = some (some (.builtin "object.__setattr__"))) (mk_Taps : PySem.W.makesIn K C_Taps = true) (kc_Taps : PySem.W.keepIn K (.ref C_Taps) = true)
    (n_Taps_kept : PySem.W.findIn K (.ref C_Taps) "kept" = some none)
    (a_Found : PySem.W.nsIn K mainGlobals "Found" = some (some (.ref C_Found))) (pg_Found : PySem.W.plainGet K C_Found Str.empty = true) (hd_Found : PySem.W.hasDictIn K C_Found = true) (po_Found : PySem.W.plainOver K C_Found = true) (sa_Found : PySem.W.findIn K (.ref C_Found) "__setattr__" = some (some (.builtin "object.__setattr__"))) (mk_Found : PySem.W.makesIn K C_Found = true) (kc_Found : PySem.W.keepIn K (.ref C_Found) = true)
    (mo_Found : PySem.W.mroIn K C_Found (.type "object") = some true) (eq_Found : PySem.W.findIn K (.ref C_Found) "__eq__" = some (some (.builtin "object.__eq__")))
    (n_Found_reading : PySem.W.findIn K (.ref C_Found) "reading" = some none)
    (n_Found_width : PySem.W.findIn K (.ref C_Found) "width" = some none)
    (a_TapError : PySem.W.nsIn K mainGlobals "TapError" = some (some (.ref C_TapError))) (cl_TapError : PySem.W.clsIn K C_TapError = some cd_TapError) (ty_TapError : PySem.W.typeIn K (.ref C_TapError) = some (.type "type"))
    (a_BadTaps : PySem.W.nsIn K mainGlobals "BadTaps" = some (some (.ref C_BadTaps))) (cl_BadTaps : PySem.W.clsIn K C_BadTaps = some cd_BadTaps) (ty_BadTaps : PySem.W.typeIn K (.ref C_BadTaps) = some (.type "type"))
    (a_BadReading : PySem.W.nsIn K mainGlobals "BadReading" = some (some (.ref C_BadReading))) (cl_BadReading : PySem.W.clsIn K C_BadReading = some cd_BadReading) (ty_BadReading : PySem.W.typeIn K (.ref C_BadReading) = some (.type "type"))
    (a_BadWidth : PySem.W.nsIn K mainGlobals "BadWidth" = some (some (.ref C_BadWidth))) (cl_BadWidth : PySem.W.clsIn K C_BadWidth = some cd_BadWidth) (ty_BadWidth : PySem.W.typeIn K (.ref C_BadWidth) = some (.type "type"))
    (a_BadTable : PySem.W.nsIn K mainGlobals "BadTable" = some (some (.ref C_BadTable))) (cl_BadTable : PySem.W.clsIn K C_BadTable = some cd_BadTable) (ty_BadTable : PySem.W.typeIn K (.ref C_BadTable) = some (.type "type"))
    (a_BadWords : PySem.W.nsIn K mainGlobals "BadWords" = some (some (.ref C_BadWords))) (cl_BadWords : PySem.W.clsIn K C_BadWords = some cd_BadWords) (ty_BadWords : PySem.W.typeIn K (.ref C_BadWords) = some (.type "type"))
    (a_BadText : PySem.W.nsIn K mainGlobals "BadText" = some (some (.ref C_BadText))) (cl_BadText : PySem.W.clsIn K C_BadText = some cd_BadText) (ty_BadText : PySem.W.typeIn K (.ref C_BadText) = some (.type "type"))
    (te_s : PySem.W.subIn K (.ref C_TapError) (.type "BaseException") = some true) (x_n : PySem.W.specialIn K (.builtin "object.__class__") "__get__" = some (some (.builtin "getset_descriptor.__get__"))) (x_t : PySem.W.takesIn K (.builtin "object.__class__") = some true)
    (xg_BadReading : PySem.W.findIn K (.ref C_BadReading) "__getattribute__" = some (some (.builtin "BaseException.__getattribute__"))) (xk_BadReading : PySem.W.findIn K (.ref C_BadReading) "__getattr__" = some none) (xs_BadReading : PySem.W.subIn K (.ref C_BadReading) (.type "BaseException") = some true) (xd_BadReading : PySem.W.hasDictIn K C_BadReading = true) (xa_BadReading : PySem.W.findIn K (.ref C_BadReading) "__class__" = some (some (.builtin "object.__class__"))) (xo_BadReading : PySem.W.mroIn K C_BadReading (.type "object") = some true) (sv_BadReading : PySem.W.subIn K (.ref C_BadReading) (.type "ValueError") = some true) (st_BadReading : PySem.W.subIn K (.ref C_BadReading) (.ref C_TapError) = some true) (kp_BadReading : PySem.W.keepIn K (.ref C_BadReading) = true)
    (s_BadReading_BadTaps : PySem.W.subIn K (.ref C_BadReading) (.ref C_BadTaps) = some false)
    (s_BadReading_BadReading : PySem.W.subIn K (.ref C_BadReading) (.ref C_BadReading) = some true)
    (s_BadReading_BadWidth : PySem.W.subIn K (.ref C_BadReading) (.ref C_BadWidth) = some false)
    (s_BadReading_BadTable : PySem.W.subIn K (.ref C_BadReading) (.ref C_BadTable) = some false)
    (s_BadReading_BadWords : PySem.W.subIn K (.ref C_BadReading) (.ref C_BadWords) = some false)
    (s_BadReading_BadText : PySem.W.subIn K (.ref C_BadReading) (.ref C_BadText) = some false)
    (x0_BadReading : PySem.W.excIn K C_BadReading [.type "ValueError", .type "Exception", .type "BaseException", .type "object"] "ValueError.__new__" = true)
    (xg_BadWidth : PySem.W.findIn K (.ref C_BadWidth) "__getattribute__" = some (some (.builtin "BaseException.__getattribute__"))) (xk_BadWidth : PySem.W.findIn K (.ref C_BadWidth) "__getattr__" = some none) (xs_BadWidth : PySem.W.subIn K (.ref C_BadWidth) (.type "BaseException") = some true) (xd_BadWidth : PySem.W.hasDictIn K C_BadWidth = true) (xa_BadWidth : PySem.W.findIn K (.ref C_BadWidth) "__class__" = some (some (.builtin "object.__class__"))) (xo_BadWidth : PySem.W.mroIn K C_BadWidth (.type "object") = some true) (sv_BadWidth : PySem.W.subIn K (.ref C_BadWidth) (.type "ValueError") = some true) (st_BadWidth : PySem.W.subIn K (.ref C_BadWidth) (.ref C_TapError) = some true) (kp_BadWidth : PySem.W.keepIn K (.ref C_BadWidth) = true)
    (s_BadWidth_BadTaps : PySem.W.subIn K (.ref C_BadWidth) (.ref C_BadTaps) = some false)
    (s_BadWidth_BadReading : PySem.W.subIn K (.ref C_BadWidth) (.ref C_BadReading) = some false)
    (s_BadWidth_BadWidth : PySem.W.subIn K (.ref C_BadWidth) (.ref C_BadWidth) = some true)
    (s_BadWidth_BadTable : PySem.W.subIn K (.ref C_BadWidth) (.ref C_BadTable) = some false)
    (s_BadWidth_BadWords : PySem.W.subIn K (.ref C_BadWidth) (.ref C_BadWords) = some false)
    (s_BadWidth_BadText : PySem.W.subIn K (.ref C_BadWidth) (.ref C_BadText) = some false)
    (x0_BadWidth : PySem.W.excIn K C_BadWidth [.type "ValueError", .type "Exception", .type "BaseException", .type "object"] "ValueError.__new__" = true)
    (a0 : PySem.W.nsIn K mainGlobals "_law_dice" = some (some (.ref f0)))
    (l0 : K.lookup f0 = some ⟨oc0, od0, .func (PySem.W.fnOf "_law_dice" "_law_dice" (defArgs s__law_dice) (defBody s__law_dice) (defScope s__law_dice) .none kV0 dc0 pm0 an0 cd0 ct0), sl0⟩) (c0 : PySem.W.codeIn K cd0 "_law_dice" = true) (k0 : PySem.W.keepIn K (.ref f0) = true)
    (a1 : PySem.W.findIn K (.ref C_Taps) "__init__" = some (some (.ref f1))) (i1 : PySem.W.isFn K (.ref f1) = true)
    (l1 : K.lookup f1 = some ⟨oc1, od1, .func (PySem.W.fnOf "__init__" "Taps.__init__" (defArgs s_Taps___init__) (defBody s_Taps___init__) (defScope s_Taps___init__) .none kV1 dc1 pm1 an1 cd1 ct1), sl1⟩) (c1 : PySem.W.codeIn K cd1 "Taps.__init__" = true) (k1 : PySem.W.keepIn K (.ref f1) = true)
    (a2 : PySem.W.nsIn K mainGlobals "_law_off" = some (some (.ref f2)))
    (l2 : K.lookup f2 = some ⟨oc2, od2, .func (PySem.W.fnOf "_law_off" "_law_off" (defArgs s__law_off) (defBody s__law_off) (defScope s__law_off) .none kV2 dc2 pm2 an2 cd2 ct2), sl2⟩) (c2 : PySem.W.codeIn K cd2 "_law_off" = true) (k2 : PySem.W.keepIn K (.ref f2) = true)
    (a3 : PySem.W.nsIn K mainGlobals "_law_kinds" = some (some (.ref f3)))
    (l3 : K.lookup f3 = some ⟨oc3, od3, .func (PySem.W.fnOf "_law_kinds" "_law_kinds" (defArgs s__law_kinds) (defBody s__law_kinds) (defScope s__law_kinds) .none kV3 dc3 pm3 an3 cd3 ct3), sl3⟩) (c3 : PySem.W.codeIn K cd3 "_law_kinds" = true) (k3 : PySem.W.keepIn K (.ref f3) = true)
    (a4 : PySem.W.nsIn K mainGlobals "_law_reading" = some (some (.ref f4)))
    (l4 : K.lookup f4 = some ⟨oc4, od4, .func (PySem.W.fnOf "_law_reading" "_law_reading" (defArgs s__law_reading) (defBody s__law_reading) (defScope s__law_reading) .none kV4 dc4 pm4 an4 cd4 ct4), sl4⟩) (c4 : PySem.W.codeIn K cd4 "_law_reading" = true) (k4 : PySem.W.keepIn K (.ref f4) = true)
    (a5 : PySem.W.nsIn K mainGlobals "_law_times" = some (some (.ref f5)))
    (l5 : K.lookup f5 = some ⟨oc5, od5, .func (PySem.W.fnOf "_law_times" "_law_times" (defArgs s__law_times) (defBody s__law_times) (defScope s__law_times) .none kV5 dc5 pm5 an5 cd5 ct5), sl5⟩) (c5 : PySem.W.codeIn K cd5 "_law_times" = true) (k5 : PySem.W.keepIn K (.ref f5) = true)
    (a6 : PySem.W.nsIn K mainGlobals "kinds_at" = some (some (.ref f6)))
    (l6 : K.lookup f6 = some ⟨oc6, od6, .func (PySem.W.fnOf "kinds_at" "kinds_at" (defArgs s_kinds_at) (defBody s_kinds_at) (defScope s_kinds_at) .none kV6 dc6 pm6 an6 cd6 ct6), sl6⟩) (c6 : PySem.W.codeIn K cd6 "kinds_at" = true) (k6 : PySem.W.keepIn K (.ref f6) = true)
    (a7 : PySem.W.nsIn K mainGlobals "made" = some (some (.ref f7)))
    (l7 : K.lookup f7 = some ⟨oc7, od7, .func (PySem.W.fnOf "made" "made" (defArgs s_made) (defBody s_made) (defScope s_made) .none kV7 dc7 pm7 an7 cd7 ct7), sl7⟩) (c7 : PySem.W.codeIn K cd7 "made" = true) (k7 : PySem.W.keepIn K (.ref f7) = true)
    (a8 : PySem.W.nsIn K mainGlobals "need_reading" = some (some (.ref f8)))
    (l8 : K.lookup f8 = some ⟨oc8, od8, .func (PySem.W.fnOf "need_reading" "need_reading" (defArgs s_need_reading) (defBody s_need_reading) (defScope s_need_reading) .none kV8 dc8 pm8 an8 cd8 ct8), sl8⟩) (c8 : PySem.W.codeIn K cd8 "need_reading" = true) (k8 : PySem.W.keepIn K (.ref f8) = true)
    (a9 : PySem.W.nsIn K mainGlobals "_law_is" = some (some (.ref f9)))
    (l9 : K.lookup f9 = some ⟨oc9, od9, .func (PySem.W.fnOf "_law_is" "_law_is" (defArgs s__law_is) (defBody s__law_is) (defScope s__law_is) .none kV9 dc9 pm9 an9 cd9 ct9), sl9⟩) (c9 : PySem.W.codeIn K cd9 "_law_is" = true) (k9 : PySem.W.keepIn K (.ref f9) = true)
    (a10 : PySem.W.nsIn K mainGlobals "_law_refused" = some (some (.ref f10)))
    (l10 : K.lookup f10 = some ⟨oc10, od10, .func (PySem.W.fnOf "_law_refused" "_law_refused" (defArgs s__law_refused) (defBody s__law_refused) (defScope s__law_refused) .none kV10 dc10 pm10 an10 cd10 ct10), sl10⟩) (c10 : PySem.W.codeIn K cd10 "_law_refused" = true) (k10 : PySem.W.keepIn K (.ref f10) = true)
    (a11 : PySem.W.nsIn K mainGlobals "least_width" = some (some (.ref f11)))
    (l11 : K.lookup f11 = some ⟨oc11, od11, .func (PySem.W.fnOf "least_width" "least_width" (defArgs s_least_width) (defBody s_least_width) (defScope s_least_width) .none kV11 dc11 pm11 an11 cd11 ct11), sl11⟩) (c11 : PySem.W.codeIn K cd11 "least_width" = true) (k11 : PySem.W.keepIn K (.ref f11) = true)
    (a12 : PySem.W.nsIn K mainGlobals "is_allowed" = some (some (.ref f12)))
    (l12 : K.lookup f12 = some ⟨oc12, od12, .func (PySem.W.fnOf "is_allowed" "is_allowed" (defArgs s_is_allowed) (defBody s_is_allowed) (defScope s_is_allowed) .none kV12 dc12 pm12 an12 cd12 ct12), sl12⟩) (c12 : PySem.W.codeIn K cd12 "is_allowed" = true) (k12 : PySem.W.keepIn K (.ref f12) = true)
    (a13 : PySem.W.nsIn K mainGlobals "units" = some (some (.ref f13)))
    (l13 : K.lookup f13 = some ⟨oc13, od13, .func (PySem.W.fnOf "units" "units" (defArgs s_units) (defBody s_units) (defScope s_units) .none kV13 dc13 pm13 an13 cd13 ct13), sl13⟩) (c13 : PySem.W.codeIn K cd13 "units" = true) (k13 : PySem.W.keepIn K (.ref f13) = true)
    (a14 : PySem.W.nsIn K mainGlobals "barring" = some (some (.ref f14)))
    (l14 : K.lookup f14 = some ⟨oc14, od14, .func (PySem.W.fnOf "barring" "barring" (defArgs s_barring) (defBody s_barring) (defScope s_barring) .none kV14 dc14 pm14 an14 cd14 ct14), sl14⟩) (c14 : PySem.W.codeIn K cd14 "barring" = true) (k14 : PySem.W.keepIn K (.ref f14) = true)
    (a15 : PySem.W.nsIn K mainGlobals "readings" = some (some (.ref f15)))
    (l15 : K.lookup f15 = some ⟨oc15, od15, .func (PySem.W.fnOf "readings" "readings" (defArgs s_readings) (defBody s_readings) (defScope s_readings) .none kV15 dc15 pm15 an15 cd15 ct15), sl15⟩) (c15 : PySem.W.codeIn K cd15 "readings" = true) (k15 : PySem.W.keepIn K (.ref f15) = true)
    (a16 : PySem.W.nsIn K mainGlobals "pieces" = some (some (.ref f16)))
    (l16 : K.lookup f16 = some ⟨oc16, od16, .func (PySem.W.fnOf "pieces" "pieces" (defArgs s_pieces) (defBody s_pieces) (defScope s_pieces) .none kV16 dc16 pm16 an16 cd16 ct16), sl16⟩) (c16 : PySem.W.codeIn K cd16 "pieces" = true) (k16 : PySem.W.keepIn K (.ref f16) = true)
    (a17 : PySem.W.nsIn K mainGlobals "need_width" = some (some (.ref f17)))
    (l17 : K.lookup f17 = some ⟨oc17, od17, .func (PySem.W.fnOf "need_width" "need_width" (defArgs s_need_width) (defBody s_need_width) (defScope s_need_width) .none kV17 dc17 pm17 an17 cd17 ct17), sl17⟩) (c17 : PySem.W.codeIn K cd17 "need_width" = true) (k17 : PySem.W.keepIn K (.ref f17) = true)
    (a18 : PySem.W.nsIn K mainGlobals "law" = some (some (.ref f18)))
    (l18 : K.lookup f18 = some ⟨oc18, od18, .func (PySem.W.fnOf "law" "law" (defArgs s_law) (defBody s_law) (defScope s_law) .none kV18 dc18 pm18 an18 (.ref cL_) ct18), sl18⟩) (c18 : PySem.W.codeIn K (.ref cL_) "law" = true) (k18 : PySem.W.keepIn K (.ref f18) = true)
    (ck_L : K.lookup cL_ = some ⟨.type "code", dcL, .fields vsL, slcL⟩) (v11_L : vsL[11]? = some (.ref PL_)) (nP_L : K.lookup PL_ = none) (ch_L : PySem.W.codeHdIn K cL_ PL_ = true) (mT_L : PL_ ∈ ts_) :
    ∃ (fd : FuncData) (c P : Addr), h.get? P = some { cls := .none, data := .fields #[] } ∧ K.lookup P = none ∧ PySem.W.CodeHd h c P ∧ (∀ (s : Shared) (v : Value), BindsTo s fd ⟨[v], []⟩ [("_law_script", v)]) ∧ ∀ base : Heap, K.In base → base.Ns mainGlobals mg → LamX.TabB base mg c P → FnOk l.prog w K mg base CX0 11 fa fd ["_law_script"] (spLawT K P) := by
  have e := hfa.symm.trans (PySem.W.mg_of X G a18)
  cases e
  have B : Bi mg := ⟨PySem.W.mg_none_of X G z_abs, PySem.W.mg_none_of X G z_len, PySem.W.mg_none_of X G z_range, PySem.W.mg_none_of X G z_max, PySem.W.mg_none_of X G z_min, PySem.W.mg_none_of X G z_int, PySem.W.mg_none_of X G z_list, PySem.W.mg_none_of X G z_enumerate, PySem.W.mg_none_of X G z_isinstance, PySem.W.mg_none_of X G z_tuple, PySem.W.mg_none_of X G z_ValueError⟩
  obtain ⟨cl, hcl_Taps, hcl_Found, hcl_BadReading, hcl_BadWidth⟩ : ∃ cl : Str → Option Addr, cl "Taps" = some C_Taps ∧ cl "Found" = some C_Found ∧ cl "BadReading" = some C_BadReading ∧ cl "BadWidth" = some C_BadWidth := ⟨fun x => if x = "Taps" then some C_Taps else if x = "Found" then some C_Found else if x = "BadReading" then some C_BadReading else if x = "BadWidth" then some C_BadWidth else none, by show (ite _ _ _ : Option Addr) = _; rw [if_pos rfl], by show (ite _ _ _ : Option Addr) = _; rw [if_neg (by decide), if_pos rfl], by show (ite _ _ _ : Option Addr) = _; rw [if_neg (by decide), if_neg (by decide), if_pos rfl], by show (ite _ _ _ : Option Addr) = _; rw [if_neg (by decide), if_neg (by decide), if_neg (by decide), if_pos rfl]⟩
  have T : Tx K cl mg C_Taps C_Found := by
    refine ⟨?_, ?_, ?_, ?_, ?_, ?_, ?_, ?_, ?_, ?_, ?_⟩
    · exact ⟨_, .int 25, PySem.W.mg_of X G b_MOST_TAPS, ⟨_, rfl⟩, fun _ => Rep.int _⟩
    · exact ⟨_, .int 9999, PySem.W.mg_of X G b_MOST_TIME, ⟨_, rfl⟩, fun _ => Rep.int _⟩
    · exact ⟨_, .ref aDOWN, PySem.W.mg_of X G b_DOWN, rfl, fun _ => .tup (.inr ⟨_, _, _, l_DOWN, rfl, rfl, by show 2 ≤ sizeLine; decide, (.cons (show RelV (.int 1) _ from ⟨_, rfl⟩) (.cons (show RelV (.int 3) _ from ⟨_, rfl⟩) .nil))⟩) (.cons (Rep.int 1) (.cons (Rep.int 3) .nil))⟩
    · exact ⟨_, .ref aUP, PySem.W.mg_of X G b_UP, rfl, fun _ => .tup (.inr ⟨_, _, _, l_UP, rfl, rfl, by show 3 ≤ sizeLine; decide, (.cons (show RelV (.int 1) _ from ⟨_, rfl⟩) (.cons (show RelV (.int 3) _ from ⟨_, rfl⟩) (.cons (show RelV (.int 7) _ from ⟨_, rfl⟩) .nil)))⟩) (.cons (Rep.int 1) (.cons (Rep.int 3) (.cons (Rep.int 7) .nil)))⟩
    · exact ⟨_, .ref aHALVES, PySem.W.mg_of X G b_HALVES, rfl, fun _ => .tup (.inr ⟨_, _, _, l_HALVES, rfl, rfl, by show 2 ≤ sizeLine; decide, (.cons (show RelV (.int 2) _ from ⟨_, rfl⟩) (.cons (show RelV (.int 5) _ from ⟨_, rfl⟩) .nil))⟩) (.cons (Rep.int 2) (.cons (Rep.int 5) .nil))⟩
    · exact hcl_Taps
    · exact hcl_Found
    · intro C hC
      have e : C = C_Taps := Option.some.inj (hC.symm.trans hcl_Taps)
      subst e
      exact ⟨⟨pg_Taps, hd_Taps, po_Taps, sa_Taps⟩, n_Taps_kept⟩
    · intro C hC
      have e : C = C_Found := Option.some.inj (hC.symm.trans hcl_Found)
      subst e
      exact ⟨⟨pg_Found, hd_Found, po_Found, sa_Found⟩, n_Found_reading⟩
    · intro C hC
      have e : C = C_Found := Option.some.inj (hC.symm.trans hcl_Found)
      subst e
      exact ⟨⟨pg_Found, hd_Found, po_Found, sa_Found⟩, n_Found_width⟩
    · exact ⟨mo_Found, eq_Found⟩
  have D0 := fun_mk (st := s__law_dice) l0 c0 k0
  have D1 := fun_mk (st := s_Taps___init__) l1 c1 k1
  have D2 := fun_mk (st := s__law_off) l2 c2 k2
  have D3 := fun_mk (st := s__law_kinds) l3 c3 k3
  have D4 := fun_mk (st := s__law_reading) l4 c4 k4
  have D5 := fun_mk (st := s__law_times) l5 c5 k5
  have D6 := fun_mk (st := s_kinds_at) l6 c6 k6
  have D7 := fun_mk (st := s_made) l7 c7 k7
  have D8 := fun_mk (st := s_need_reading) l8 c8 k8
  have D9 := fun_mk (st := s__law_is) l9 c9 k9
  have D10 := fun_mk (st := s__law_refused) l10 c10 k10
  have D11 := fun_mk (st := s_least_width) l11 c11 k11
  have D12 := fun_mk (st := s_is_allowed) l12 c12 k12
  have D13 := fun_mk (st := s_units) l13 c13 k13
  have D14 := fun_mk (st := s_barring) l14 c14 k14
  have D15 := fun_mk (st := s_readings) l15 c15 k15
  have D16 := fun_mk (st := s_pieces) l16 c16 k16
  have D17 := fun_mk (st := s_need_width) l17 c17 k17
  have D18 := fun_mk (st := s_law) l18 c18 k18
  have U : Xx K cl mg C_TapError C_BadTaps C_BadReading C_BadWidth C_BadTable C_BadWords C_BadText := by
    refine ⟨PySem.W.mg_of X G a_TapError, PySem.W.mg_of X G a_BadTaps, PySem.W.mg_of X G a_BadReading, PySem.W.mg_of X G a_BadWidth, PySem.W.mg_of X G a_BadTable, PySem.W.mg_of X G a_BadWords, PySem.W.mg_of X G a_BadText, hcl_BadReading, ⟨xg_BadReading, xk_BadReading, xs_BadReading, xd_BadReading, xa_BadReading, x_n, x_t, xo_BadReading⟩, exmOne_of te_s cl_TapError ty_TapError st_BadReading, ⟨kitOne_of2 (by decide +kernel) cl_BadTaps ty_BadTaps s_BadReading_BadTaps s_BadReading_BadReading, kitOne_of2 (by decide +kernel) cl_BadReading ty_BadReading s_BadReading_BadReading s_BadReading_BadReading, kitOne_of2 (by decide +kernel) cl_BadWidth ty_BadWidth s_BadReading_BadWidth s_BadReading_BadReading, kitOne_of2 (by decide +kernel) cl_BadTable ty_BadTable s_BadReading_BadTable s_BadReading_BadReading, kitOne_of2 (by decide +kernel) cl_BadWords ty_BadWords s_BadReading_BadWords s_BadReading_BadReading, kitOne_of2 (by decide +kernel) cl_BadText ty_BadText s_BadReading_BadText s_BadReading_BadReading, kitT_of (by decide +kernel) sv_BadReading⟩, ⟨x0_BadReading, PySem.W.mg_of X G a_BadReading, kp_BadReading, xs_BadReading, ty_BadReading, hcl_BadReading⟩, hcl_BadWidth, ⟨xg_BadWidth, xk_BadWidth, xs_BadWidth, xd_BadWidth, xa_BadWidth, x_n, x_t, xo_BadWidth⟩, exmOne_of te_s cl_TapError ty_TapError st_BadWidth, ⟨kitOne_of2 (by decide +kernel) cl_BadTaps ty_BadTaps s_BadWidth_BadTaps s_BadWidth_BadWidth, kitOne_of2 (by decide +kernel) cl_BadReading ty_BadReading s_BadWidth_BadReading s_BadWidth_BadWidth, kitOne_of2 (by decide +kernel) cl_BadWidth ty_BadWidth s_BadWidth_BadWidth s_BadWidth_BadWidth, kitOne_of2 (by decide +kernel) cl_BadTable ty_BadTable s_BadWidth_BadTable s_BadWidth_BadWidth, kitOne_of2 (by decide +kernel) cl_BadWords ty_BadWords s_BadWidth_BadWords s_BadWidth_BadWidth, kitOne_of2 (by decide +kernel) cl_BadText ty_BadText s_BadWidth_BadText s_BadWidth_BadWidth, kitT_of (by decide +kernel) sv_BadWidth⟩, ⟨x0_BadWidth, PySem.W.mg_of X G a_BadWidth, kp_BadWidth, xs_BadWidth, ty_BadWidth, hcl_BadWidth⟩⟩
  refine ⟨PySem.W.fnOf "law" "law" (defArgs s_law) (defBody s_law) (defScope s_law) .none kV18 dc18 pm18 an18 (.ref cL_) ct18, cL_, PL_, hT _ mT_L, nP_L, PySem.W.codeHd_of_K X ch_L, fun s v => .of_eq rfl, fun base _ _ TB => ?_⟩
  have F__law_dice := ok__law_dice (P := l.prog) (wd := w) (base := base) D0 (PySem.W.mg_of X G a0) B T 
  have F_Taps : Mkc l.prog w K mg base "Taps" C_Taps 1 (toSpI K _ C_Taps sp_Taps) := ok_Taps___init__ D1 ⟨mk_Taps, a1, i1, kc_Taps⟩ (PySem.W.mg_of X G a_Taps) B T
  have F__law_off := ok__law_off (P := l.prog) (wd := w) (base := base) D2 (PySem.W.mg_of X G a2) B T 
  have F__law_kinds := ok__law_kinds (P := l.prog) (wd := w) (base := base) D3 (PySem.W.mg_of X G a3) B T 
  have F__law_reading := ok__law_reading (P := l.prog) (wd := w) (base := base) D4 (PySem.W.mg_of X G a4) B T F__law_kinds F__law_off
  have F__law_times := ok__law_times (P := l.prog) (wd := w) (base := base) D5 (PySem.W.mg_of X G a5) B T F__law_off F__law_reading
  have F_kinds_at := ok_kinds_at (P := l.prog) (wd := w) (base := base) D6 (PySem.W.mg_of X G a6) B T 
  have F_made := ok_made (P := l.prog) (wd := w) (base := base) D7 (PySem.W.mg_of X G a7) B T 
  have F_need_reading := ok_need_reading (P := l.prog) (wd := w) (base := base) D8 (PySem.W.mg_of X G a8) B T F_kinds_at
  have FE_need_reading := okE_need_reading (P := l.prog) (wd := w) (base := base) D8 (PySem.W.mg_of X G a8) B T U F_kinds_at
  have FE_need_width := okE_need_width (P := l.prog) (wd := w) (base := base) D17 (PySem.W.mg_of X G a17) B T U F_made
  have FE_least_width := okE_least_width (P := l.prog) (wd := w) (base := base) D11 (PySem.W.mg_of X G a11) B T U FE_need_reading
  have FE_is_allowed := okE_is_allowed (P := l.prog) (wd := w) (base := base) D12 (PySem.W.mg_of X G a12) B T U FE_need_reading FE_need_width F_need_reading
  have FE_units := okE_units (P := l.prog) (wd := w) (base := base) D13 (PySem.W.mg_of X G a13) B T U FE_is_allowed
  have FE_barring := okE_barring (P := l.prog) (wd := w) (base := base) D14 (PySem.W.mg_of X G a14) B T U FE_need_reading FE_need_width F_need_reading
  have FE_readings := okE_readings (P := l.prog) (wd := w) (base := base) D15 (PySem.W.mg_of X G a15) B T U FE_need_width
  have FE_pieces := okE_pieces (P := l.prog) (wd := w) (base := base) D16 (PySem.W.mg_of X G a16) B T U FE_need_width
  have FX__law_is := okH__law_is (P := l.prog) (wd := w) (base := base) D9 (PySem.W.mg_of X G a9) B T U (fun D w => (D = C_BadReading ∧ w = "reading") ∨ (D = C_BadWidth ∧ w = "width")) (fun D w h => h.elim (fun e => by obtain ⟨rfl, rfl⟩ := e; exact U.xt_BadReading) (fun e => by obtain ⟨rfl, rfl⟩ := e; exact U.xt_BadWidth))
  exact ok_law l18 c18 TB B T U F__law_dice F_Taps F__law_off F__law_reading F__law_times FE_least_width FE_is_allowed FE_units FE_barring FE_readings FE_pieces FX__law_is D10 (PySem.W.mg_of X G a10)
theorem walkT {l : PySem.W.OpenLaw} {q : Program} {loose : List Str} {XP : (Str → Option Value) → Heap → Prop} {YP : World → Heap → Prop} {d : DefRec} {K : Params → PySem.W.Frag} (hn : l.most = some 63) (hdf : d.params.defaults = [])
    (hY : ∀ (w : World) (h : Heap), YP w h → (K w.params).In h)
    (F : ∀ (w : World) (mg : Str → Option Value) (fa : Addr) (h : Heap), YP w h → (K w.params).In h → h.Ns mainGlobals mg → mg d.name = some (.ref fa) →
      ∃ (fd : FuncData) (c P : Addr), h.get? P = some { cls := .none, data := .fields #[] } ∧ (K w.params).lookup P = none ∧ PySem.W.CodeHd h c P ∧ (∀ (s : Shared) (u : Value), BindsTo s fd ⟨[u], []⟩ [("_law_script", u)]) ∧
        ∀ base : Heap, (K w.params).In base → base.Ns mainGlobals mg → LamX.TabB base mg c P → FnOk l.prog w (K w.params) mg base CX0 11 fa fd ["_law_script"] (spLawT (K w.params) P)) :
    PySem.W.WalkO q loose XP YP l.row.toRowW d [] (fun f vs => PySem.call f vs) := by
  refine LamX.walk_ofTs (n := 63) (k := 11) (x := "_law_script") (CX := fun _ => CX0) hn (by decide) hdf ⟨rfl, by decide, by decide⟩ hY (fun w mg fa h Y KX G hmg => ?_) fun _ _ _ _ _ z => z
  obtain ⟨fd, c, P, h1, h2, h3, h4, h5⟩ := F w mg fa h Y KX G hmg
  have one : ∀ p : Addr × Addr, p ∈ [(c, P)] → p = (c, P) := fun p hp => List.mem_singleton.mp hp
  exact ⟨fd, [(c, P)], spLawT (K w.params) P, fun p hp => by rw [one p hp]; exact h1, fun p hp => by rw [one p hp]; exact h2, fun p hp => by rw [one p hp]; exact h3, h4,
    fun H a ns hl _ hH hS => ⟨a, ns, rfl, hS, hl, hH (c, P) (List.mem_singleton.mpr rfl), fun _ => rfl⟩, fun base kb nb tb => h5 base kb nb (tb (c, P) (List.mem_singleton.mpr rfl))⟩
end LawT

open PySem PySem.W PyProof.Rows in
set_option maxRecDepth 100000 in
set_option maxHeartbeats 0 in
theorem PySem.Challenge.cw_keyedtime_k02_readings_and_widths_refuse_holds : PySem.Challenge.rw_keyedtime_k02_readings_and_widths_refuse.Holds := by
  w_on; o_law; k_head; (case hw => w_witness2)
  k_fill
  refine LawT.walkT (l := PySem.Challenge.rw_keyedtime_k02_readings_and_widths_refuse) rfl rfl (fun w h Y => PySem.W.km_in_of Y) ?F
  case F =>
    intro w mg fa h Y KX G hmg
    refine' LawT.all_mk KX G hmg (PySem.W.km_tabs_of Y) ?z_abs ?z_len ?z_range ?z_max ?z_min ?z_int ?z_list ?z_enumerate ?z_isinstance ?z_tuple ?z_ValueError ?b_MOST_TAPS ?b_MOST_TIME ?b_DOWN ?l_DOWN ?b_UP ?l_UP ?b_HALVES ?l_HALVES ?a_Taps ?pg_Taps ?hd_Taps ?po_Taps ?sa_Taps ?mk_Taps ?kc_Taps ?n_Taps_kept ?a_Found ?pg_Found ?hd_Found ?po_Found ?sa_Found ?mk_Found ?kc_Found ?mo_Found ?eq_Found ?n_Found_reading ?n_Found_width ?a_TapError ?cl_TapError ?ty_TapError ?a_BadTaps ?cl_BadTaps ?ty_BadTaps ?a_BadReading ?cl_BadReading ?ty_BadReading ?a_BadWidth ?cl_BadWidth ?ty_BadWidth ?a_BadTable ?cl_BadTable ?ty_BadTable ?a_BadWords ?cl_BadWords ?ty_BadWords ?a_BadText ?cl_BadText ?ty_BadText ?te_s ?x_n ?x_t ?xg_BadReading ?xk_BadReading ?xs_BadReading ?xd_BadReading ?xa_BadReading ?xo_BadReading ?sv_BadReading ?st_BadReading ?kp_BadReading ?s_BadReading_BadTaps ?s_BadReading_BadReading ?s_BadReading_BadWidth ?s_BadReading_BadTable ?s_BadReading_BadWords ?s_BadReading_BadText ?x0_BadReading ?xg_BadWidth ?xk_BadWidth ?xs_BadWidth ?xd_BadWidth ?xa_BadWidth ?xo_BadWidth ?sv_BadWidth ?st_BadWidth ?kp_BadWidth ?s_BadWidth_BadTaps ?s_BadWidth_BadReading ?s_BadWidth_BadWidth ?s_BadWidth_BadTable ?s_BadWidth_BadWords ?s_BadWidth_BadText ?x0_BadWidth ?a0 ?l0 ?c0 ?k0 ?a1 ?i1 ?l1 ?c1 ?k1 ?a2 ?l2 ?c2 ?k2 ?a3 ?l3 ?c3 ?k3 ?a4 ?l4 ?c4 ?k4 ?a5 ?l5 ?c5 ?k5 ?a6 ?l6 ?c6 ?k6 ?a7 ?l7 ?c7 ?k7 ?a8 ?l8 ?c8 ?k8 ?a9 ?l9 ?c9 ?k9 ?a10 ?l10 ?c10 ?k10 ?a11 ?l11 ?c11 ?k11 ?a12 ?l12 ?c12 ?k12 ?a13 ?l13 ?c13 ?k13 ?a14 ?l14 ?c14 ?k14 ?a15 ?l15 ?c15 ?k15 ?a16 ?l16 ?c16 ?k16 ?a17 ?l17 ?c17 ?k17 ?a18 ?l18 ?c18 ?k18 ?ck_L ?v11_L ?nP_L ?ch_L ?mT_L
    (case z_abs => k_is)
    (case z_len => k_is)
    (case z_range => k_is)
    (case z_max => k_is)
    (case z_min => k_is)
    (case z_int => k_is)
    (case z_list => k_is)
    (case z_enumerate => k_is)
    (case z_isinstance => k_is)
    (case z_tuple => k_is)
    (case z_ValueError => k_is)
    (case b_MOST_TAPS => k_is)
    (case b_MOST_TIME => k_is)
    (case b_DOWN => k_is)
    (case l_DOWN => k_is)
    (case b_UP => k_is)
    (case l_UP => k_is)
    (case b_HALVES => k_is)
    (case l_HALVES => k_is)
    (case a_Taps => k_is)
    (case pg_Taps => k_is)
    (case hd_Taps => k_is)
    (case po_Taps => k_is)
    (case sa_Taps => k_is)
    (case mk_Taps => k_is)
    (case kc_Taps => k_is)
    (case n_Taps_kept => k_is)
    (case a_Found => k_is)
    (case pg_Found => k_is)
    (case hd_Found => k_is)
    (case po_Found => k_is)
    (case sa_Found => k_is)
    (case mk_Found => k_is)
    (case kc_Found => k_is)
    (case mo_Found => k_is)
    (case eq_Found => k_is)
    (case n_Found_reading => k_is)
    (case n_Found_width => k_is)
    (case a_TapError => k_is)
    (case cl_TapError => k_is)
    (case ty_TapError => k_is)
    (case a_BadTaps => k_is)
    (case cl_BadTaps => k_is)
    (case ty_BadTaps => k_is)
    (case a_BadReading => k_is)
    (case cl_BadReading => k_is)
    (case ty_BadReading => k_is)
    (case a_BadWidth => k_is)
    (case cl_BadWidth => k_is)
    (case ty_BadWidth => k_is)
    (case a_BadTable => k_is)
    (case cl_BadTable => k_is)
    (case ty_BadTable => k_is)
    (case a_BadWords => k_is)
    (case cl_BadWords => k_is)
    (case ty_BadWords => k_is)
    (case a_BadText => k_is)
    (case cl_BadText => k_is)
    (case ty_BadText => k_is)
    (case te_s => k_is)
    (case x_n => k_is)
    (case x_t => k_is)
    (case xg_BadReading => k_is)
    (case xk_BadReading => k_is)
    (case xs_BadReading => k_is)
    (case xd_BadReading => k_is)
    (case xa_BadReading => k_is)
    (case xo_BadReading => k_is)
    (case sv_BadReading => k_is)
    (case st_BadReading => k_is)
    (case kp_BadReading => k_is)
    (case s_BadReading_BadTaps => k_is)
    (case s_BadReading_BadReading => k_is)
    (case s_BadReading_BadWidth => k_is)
    (case s_BadReading_BadTable => k_is)
    (case s_BadReading_BadWords => k_is)
    (case s_BadReading_BadText => k_is)
    (case x0_BadReading => k_exc)
    (case xg_BadWidth => k_is)
    (case xk_BadWidth => k_is)
    (case xs_BadWidth => k_is)
    (case xd_BadWidth => k_is)
    (case xa_BadWidth => k_is)
    (case xo_BadWidth => k_is)
    (case sv_BadWidth => k_is)
    (case st_BadWidth => k_is)
    (case kp_BadWidth => k_is)
    (case s_BadWidth_BadTaps => k_is)
    (case s_BadWidth_BadReading => k_is)
    (case s_BadWidth_BadWidth => k_is)
    (case s_BadWidth_BadTable => k_is)
    (case s_BadWidth_BadWords => k_is)
    (case s_BadWidth_BadText => k_is)
    (case x0_BadWidth => k_exc)
    (case a0 => k_is)
    (case l0 => k_is)
    (case c0 => k_is)
    (case k0 => k_is)
    (case a1 => k_is)
    (case i1 => k_is)
    (case l1 => k_is)
    (case c1 => k_is)
    (case k1 => k_is)
    (case a2 => k_is)
    (case l2 => k_is)
    (case c2 => k_is)
    (case k2 => k_is)
    (case a3 => k_is)
    (case l3 => k_is)
    (case c3 => k_is)
    (case k3 => k_is)
    (case a4 => k_is)
    (case l4 => k_is)
    (case c4 => k_is)
    (case k4 => k_is)
    (case a5 => k_is)
    (case l5 => k_is)
    (case c5 => k_is)
    (case k5 => k_is)
    (case a6 => k_is)
    (case l6 => k_is)
    (case c6 => k_is)
    (case k6 => k_is)
    (case a7 => k_is)
    (case l7 => k_is)
    (case c7 => k_is)
    (case k7 => k_is)
    (case a8 => k_is)
    (case l8 => k_is)
    (case c8 => k_is)
    (case k8 => k_is)
    (case a9 => k_is)
    (case l9 => k_is)
    (case c9 => k_is)
    (case k9 => k_is)
    (case a10 => k_is)
    (case l10 => k_is)
    (case c10 => k_is)
    (case k10 => k_is)
    (case a11 => k_is)
    (case l11 => k_is)
    (case c11 => k_is)
    (case k11 => k_is)
    (case a12 => k_is)
    (case l12 => k_is)
    (case c12 => k_is)
    (case k12 => k_is)
    (case a13 => k_is)
    (case l13 => k_is)
    (case c13 => k_is)
    (case k13 => k_is)
    (case a14 => k_is)
    (case l14 => k_is)
    (case c14 => k_is)
    (case k14 => k_is)
    (case a15 => k_is)
    (case l15 => k_is)
    (case c15 => k_is)
    (case k15 => k_is)
    (case a16 => k_is)
    (case l16 => k_is)
    (case c16 => k_is)
    (case k16 => k_is)
    (case a17 => k_is)
    (case l17 => k_is)
    (case c17 => k_is)
    (case k17 => k_is)
    (case a18 => k_is)
    (case l18 => k_is)
    (case c18 => k_is)
    (case k18 => k_is)
    (case ck_L => k_is)
    (case v11_L => rfl)
    (case nP_L => kernel_rfl)
    (case ch_L => kernel_rfl)
    (case mT_L => k_mem)
