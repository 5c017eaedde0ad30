import PyProof.Rows.All
import Wide.All
import OpenK.AllK
import Wide.FinOn
import KE.KStateDown
import HandS.ForMost
import HandS.ForExc
import HandS.Defaults
import HandS.Evl
import HandS.CallSlots
import HandS.TryMany
import HandS.TryElse
import HandS.IsInst
import HandS.ExcIs
import HandS.HeadHook1
import HandS.Head0
import HandS.Head1
import HandS.Head2
import HandS.HeadEnd
import HandS.HeadHook2
import HandS.HeadHook3
import HandS.HeadHook4
import PySem.Challenge.RW_mixposts_k01_primes_known
set_option Elab.async false
set_option linter.all false
set_option maxRecDepth 100000
set_option maxHeartbeats 4000000
/-! a calculus of states over the hand layer: what the names hold as plain data, what is owned -/
namespace Q
open PySem L2
abbrev Ex := Evl.Ex

/-! ### the readings as they are wanted -/
def wE (X : Cx) (e : Expr) : TE := fun s H k => ∃ t, PE X e t ∧ t s H k
def wT (X : Cx) (e : Expr) : TT := fun s H k => ∃ t, PT X e t ∧ t s H k
def wA (X : Cx) (es : List Expr) : TA := fun s H k => ∃ t, PA X es t ∧ t s H k
def wS (X : Cx) (st : Stmt) : TS := fun D s H => ∃ t, PS X st t ∧ t D s H
def wB (X : Cx) (st : List Stmt) : TS := fun D s H => ∃ t, PSs X st t ∧ t D s H
theorem wE_ok {X : Cx} {e : Expr} : PE X e (wE X e) := ⟨fun pins s q H k I ⟨_, h, w⟩ => h.run pins s q H k I w⟩
theorem wT_ok {X : Cx} {e : Expr} : PT X e (wT X e) := ⟨fun pins s q H k I ⟨_, h, w⟩ => h.run pins s q H k I w⟩
theorem wA_ok {X : Cx} {e : List Expr} : PA X e (wA X e) := ⟨fun p pins s q H k I ⟨_, h, w⟩ => h.run p pins s q H k I w⟩
theorem wS_ok {X : Cx} {e : Stmt} : PS X e (wS X e) := ⟨fun pins s q H D I ⟨_, h, w⟩ => h.run pins s q H D I w⟩
theorem wB_ok {X : Cx} {e : List Stmt} : PSs X e (wB X e) := ⟨fun pins s q H D I ⟨_, h, w⟩ => h.run pins s q H D I w⟩

/-! ### plain data -/
inductive D where
  | non | bl (b : Bool) | int (i : Int) | str (s : Str)
  | lst (l : List D) | tup (l : List D) | dk (l : List (Key × D)) | dt (l : List (List Key × D))
  | ins (C : Addr) (fs : List (Str × D))
  | ref (a : Addr) | ty (n : String)
  | scr (K : PySem.W.Frag) (l : List Int)

mutual
def Rep (M : Hp) : D → V → Prop
  | .non, v => v = .non
  | .bl b, v => v = .bl b
  | .int i, v => v = .int i
  | .str s, v => v = .str s
  | .lst l, v => ∃ a vs, v = .ref a ∧ M a = some (.lst vs) ∧ RepL M l vs
  | .tup l, v => ∃ a vs, v = .ref a ∧ M a = some (.tup vs) ∧ RepL M l vs
  | .dk l, v => ∃ a kvs, v = .ref a ∧ Rd M a (.dK kvs) ∧ RepK M l kvs
  | .dt l, v => ∃ a kvs, v = .ref a ∧ Rd M a (.dT kvs) ∧ RepT M l kvs
  | .ins C fs, v => ∃ a dx fvs, v = .ref a ∧ M a = some (.ins C dx fvs) ∧ RepF M fs fvs
  | .ref a, v => v = .ref a
  | .ty n, v => v = .ty n
  | .scr K l, v => ∃ a, v = .ref a ∧ (Rd M a (.lst (l.map V.int)) ∨ SqL K (fun _ => none) a (l.map V.int))
def RepL (M : Hp) : List D → List V → Prop
  | [], vs => vs = []
  | d :: l, vs => ∃ v r, vs = v :: r ∧ Rep M d v ∧ RepL M l r
def RepK (M : Hp) : List (Key × D) → List (Key × V) → Prop
  | [], vs => vs = []
  | d :: l, vs => ∃ v r, vs = (d.1, v) :: r ∧ Rep M d.2 v ∧ RepK M l r
def RepT (M : Hp) : List (List Key × D) → List (List Key × V) → Prop
  | [], vs => vs = []
  | d :: l, vs => ∃ v r, vs = (d.1, v) :: r ∧ Rep M d.2 v ∧ RepT M l r
def RepF (M : Hp) : List (Str × D) → List (Str × V) → Prop
  | [], vs => vs = []
  | d :: l, vs => ∃ v r, vs = (d.1, v) :: r ∧ Rep M d.2 v ∧ RepF M l r
end

section
variable {M M' : Hp}
mutual
theorem Rep.mono (e : Ex M M') : ∀ {d : D} {v : V}, Rep M d v → Rep M' d v
  | .non, v, h => h
  | .bl _, v, h => h
  | .int _, v, h => h
  | .str _, v, h => h
  | .lst l, v, h => by
    obtain ⟨a, vs, e1, r, h⟩ := h
    exact ⟨a, vs, e1, e _ _ r, RepL.mono e h⟩
  | .scr K l, v, h => by
    obtain ⟨a, e1, r⟩ := h
    exact ⟨a, e1, r.imp (Evl.ex_rd e) id⟩
  | .tup l, v, h => by
    obtain ⟨a, vs, e1, r, h⟩ := h
    exact ⟨a, vs, e1, e _ _ r, RepL.mono e h⟩
  | .ref _, v, h => h
  | .ty _, v, h => h
  | .dk l, v, h => by
    obtain ⟨a, vs, e1, r, h⟩ := h
    exact ⟨a, vs, e1, Evl.ex_rd e r, RepK.mono e h⟩
  | .dt l, v, h => by
    obtain ⟨a, vs, e1, r, h⟩ := h
    exact ⟨a, vs, e1, Evl.ex_rd e r, RepT.mono e h⟩
  | .ins C fs, v, h => by
    obtain ⟨a, dx, vs, e1, r, h⟩ := h
    exact ⟨a, dx, vs, e1, e _ _ r, RepF.mono e h⟩
theorem RepL.mono (e : Ex M M') : ∀ {l : List D} {vs : List V}, RepL M l vs → RepL M' l vs
  | [], _, h => h
  | d :: l, _, h => by
    obtain ⟨v, r, e1, h1, h2⟩ := h
    exact ⟨v, r, e1, Rep.mono e h1, RepL.mono e h2⟩
theorem RepK.mono (e : Ex M M') : ∀ {l : List (Key × D)} {vs : List (Key × V)}, RepK M l vs → RepK M' l vs
  | [], _, h => h
  | (k, d) :: l, _, h => by
    obtain ⟨v, r, e1, h1, h2⟩ := h
    exact ⟨v, r, e1, Rep.mono e h1, RepK.mono e h2⟩
theorem RepT.mono (e : Ex M M') : ∀ {l : List (List Key × D)} {vs : List (List Key × V)}, RepT M l vs → RepT M' l vs
  | [], _, h => h
  | (k, d) :: l, _, h => by
    obtain ⟨v, r, e1, h1, h2⟩ := h
    exact ⟨v, r, e1, Rep.mono e h1, RepT.mono e h2⟩
theorem RepF.mono (e : Ex M M') : ∀ {l : List (Str × D)} {vs : List (Str × V)}, RepF M l vs → RepF M' l vs
  | [], _, h => h
  | (k, d) :: l, _, h => by
    obtain ⟨v, r, e1, h1, h2⟩ := h
    exact ⟨v, r, e1, Rep.mono e h1, RepF.mono e h2⟩
end
end
end Q
namespace Q
open PySem L2

/-- a value as it is known: plain data (t: made since the entry), or the n-th owned object -/
inductive El where
  | v (t : Bool) (d : D)
  | at (n : Nat)
/-- an owned object -/
inductive Ob where
  | lst (t : Bool) (l : List D)
  | dk (t : Bool) (l : List (Key × D))
  | dt (t : Bool) (l : List (List Key × D))
  | tup (l : List El)
  | ins (C : Addr) (fs : List (Str × El))
abbrev Cs := List (Option Ob)

def live : List Addr → Cs → List Addr
  | a :: A, some _ :: C => a :: live A C
  | _ :: A, none :: C => live A C
  | _, _ => []
/-- the heap without what is owned; of that, what came since B -/
def fz (A : List Addr) (C : Cs) (H : Hp) : Hp := fun a => if a ∈ live A C then none else H a
def nw (B : Hp) (A : List Addr) (C : Cs) (H : Hp) : Hp := fun a => if (B a).isNone = true then fz A C H a else none
def rg (t : Bool) (B : Hp) (A : List Addr) (C : Cs) (H : Hp) : Hp := if t = true then nw B A C H else fz A C H

inductive All2 {α β : Type} (R : α → β → Prop) : List α → List β → Prop
  | nil : All2 R [] []
  | cons {a b l r} (h : R a b) (t : All2 R l r) : All2 R (a :: l) (b :: r)
theorem All2.imp {α β : Type} {R R' : α → β → Prop} (f : ∀ a b, R a b → R' a b) : ∀ {l : List α} {r : List β}, All2 R l r → All2 R' l r
  | _, _, .nil => .nil
  | _, _, .cons h t => .cons (f _ _ h) (t.imp f)
theorem All2.length {α β : Type} {R : α → β → Prop} : ∀ {l : List α} {r : List β}, All2 R l r → l.length = r.length
  | _, _, .nil => rfl
  | _, _, .cons _ t => congrArg (· + 1) t.length
theorem All2.get {α β : Type} {R : α → β → Prop} : ∀ {l : List α} {r : List β} {i : Nat} {a : α}, All2 R l r → l[i]? = some a → ∃ b, r[i]? = some b ∧ R a b
  | _, _, 0, _, .cons h _, e => by
    simp at e
    subst e
    exact ⟨_, rfl, h⟩
  | _, _, i + 1, a, .cons _ t, e => by
    obtain ⟨b, e1, h1⟩ := t.get (i := i) (a := a) (by simpa using e)
    exact ⟨b, by simpa using e1, h1⟩
  | _, _, _, _, .nil, e => by simp at e
theorem All2.set {α β : Type} {R : α → β → Prop} {a : α} {b : β} (h : R a b) : ∀ {l : List α} {r : List β} (i : Nat), All2 R l r → All2 R (l.set i a) (r.set i b)
  | _, _, _, .nil => .nil
  | _, _, 0, .cons _ t => .cons h t
  | _, _, i + 1, .cons q t => .cons q (All2.set h i t)
theorem All2.append {α β : Type} {R : α → β → Prop} : ∀ {l l' : List α} {r r' : List β}, All2 R l r → All2 R l' r' → All2 R (l ++ l') (r ++ r')
  | _, _, _, _, .nil, h => h
  | _, _, _, _, .cons q t, h => .cons q (t.append h)

def RepE (B : Hp) (A : List Addr) (C : Cs) (H : Hp) : El → V → Prop
  | .v t d, x => Rep (rg t B A C H) d x
  | .at n, x => ∃ a, A[n]? = some a ∧ x = .ref a
def SlotE (B : Hp) (A : List Addr) (C : Cs) (H : Hp) (o : Option El) (x : Option V) : Prop := ∀ e, o = some e → ∃ v, x = some v ∧ RepE B A C H e v
def FldE (B : Hp) (A : List Addr) (C : Cs) (H : Hp) (p : Str × El) (q : Str × V) : Prop := p.1 = q.1 ∧ RepE B A C H p.2 q.2
def CellOk (B : Hp) (A : List Addr) (C : Cs) (H : Hp) (a : Addr) : Ob → Prop
  | .lst t l => ∃ vs, H a = some (.lst vs) ∧ RepL (rg t B A C H) l vs
  | .dk t l => ∃ vs, H a = some (.dK vs) ∧ RepK (rg t B A C H) l vs
  | .dt t l => ∃ vs, H a = some (.dT vs) ∧ RepT (rg t B A C H) l vs
  | .tup l => ∃ vs, H a = some (.tup vs) ∧ All2 (RepE B A C H) l vs
  | .ins K fs => ∃ dx fvs, H a = some (.ins K dx fvs) ∧ All2 (FldE B A C H) fs fvs
/-- the base: B what stood at the entry, F what stands since, A0 the addresses since -/
structure Bs where
  B : Hp
  F : Hp
  A0 : List Addr
structure Bs.le (b c : Bs) : Prop where
  B : c.B = b.B
  F : Ex b.F c.F
  A : b.A0 <+: c.A0
theorem Bs.le.refl (b : Bs) : b.le b := ⟨rfl, Evl.Ex.refl _, List.prefix_rfl⟩
theorem Bs.le.trans {b c d : Bs} (x : b.le c) (y : c.le d) : b.le d := ⟨y.B.trans x.B, x.F.trans y.F, x.A.trans y.A⟩
structure Sat (b0 b : Bs) (A : List Addr) (G : List (Option El)) (C : Cs) (s : St) (H : Hp) : Prop where
  len : A.length = C.length
  nd : (live A C).Nodup
  bf : Ex b.B b.F
  ex : Ex b.F (fz A C H)
  pre : b.A0 <+: A
  cell : ∀ (i : Nat) (a : Addr) (o : Ob), A[i]? = some a → C[i]? = some (some o) → CellOk b.B A C H a o
  slot : All2 (SlotE b.B A C H) G s
  lb : b0.le b

theorem live_mem : ∀ {A : List Addr} {C : Cs} {a : Addr}, a ∈ live A C ↔ ∃ (i : Nat) (o : Ob), A[i]? = some a ∧ C[i]? = some (some o)
  | [], _, a => by simp [live]
  | x :: A, [], a => by simp [live]
  | x :: A, some o :: C, a => by
    simp only [live, List.mem_cons, live_mem (A := A) (C := C)]
    constructor
    · rintro (rfl | ⟨i, o', h1, h2⟩)
      · exact ⟨0, o, rfl, rfl⟩
      · exact ⟨i + 1, o', by simpa using h1, by simpa using h2⟩
    · rintro ⟨i, o', h1, h2⟩
      cases i with
      | zero => exact .inl (by simpa using h1.symm)
      | succ i => exact .inr ⟨i, o', by simpa using h1, by simpa using h2⟩
  | x :: A, none :: C, a => by
    simp only [live, live_mem (A := A) (C := C)]
    constructor
    · rintro ⟨i, o', h1, h2⟩
      exact ⟨i + 1, o', by simpa using h1, by simpa using h2⟩
    · rintro ⟨i, o', h1, h2⟩
      cases i with
      | zero => simp at h2
      | succ i => exact ⟨i, o', by simpa using h1, by simpa using h2⟩
section
variable {A A' : List Addr} {C C' : Cs} {H H' B : Hp} {t : Bool} {b0 b : Bs} {G : List (Option El)} {s : St}
theorem mk_of {a : Addr} {o : HO} (h : fz A C H a = some o) : H a = some o := by
  unfold fz at h
  split at h
  · cases h
  · exact h
theorem mk_not {a : Addr} {o : HO} (h : fz A C H a = some o) : a ∉ live A C := by
  unfold fz at h
  split at h
  · cases h
  · assumption
theorem mk_at {a : Addr} (h : a ∉ live A C) : fz A C H a = H a := by
  unfold fz
  rw [if_neg h]
theorem mk_sub : Ex (fz A C H) H := fun _ _ h => mk_of h
theorem nw_sub : Ex (nw B A C H) (fz A C H) := fun a o h => by
  unfold nw at h
  split at h
  · exact h
  · cases h
theorem rg_sub : Ex (rg t B A C H) (fz A C H) := by
  unfold rg
  cases t with
  | true => exact nw_sub
  | false => exact Evl.Ex.refl _
theorem mk_ex (e : Ex H H') : Ex (fz A C H) (fz A C H') := fun a o h => by
  rw [mk_at (mk_not h)]
  exact e a o (mk_of h)
theorem nw_ex (e : Ex (fz A C H) (fz A' C' H')) : Ex (nw B A C H) (nw B A' C' H') := fun a o h => by
  unfold nw at h ⊢
  split at h
  · rename_i hb
    rw [if_pos hb]
    exact e a o h
  · cases h
theorem rg_ex (e : Ex (fz A C H) (fz A' C' H')) : Ex (rg t B A C H) (rg t B A' C' H') := by
  unfold rg
  cases t with
  | true => exact nw_ex e
  | false => exact e
theorem rg_low {t t' : Bool} (h : t' = true → t = true) : Ex (rg t B A C H) (rg t' B A C H) := by
  cases t' with
  | true =>
    rw [h rfl]
    exact Evl.Ex.refl _
  | false => exact rg_sub
/-- what goes on: the owned ones have more places, what is not owned stays -/
structure Go (A : List Addr) (C : Cs) (H : Hp) (A' : List Addr) (C' : Cs) (H' : Hp) : Prop where
  pre : A <+: A'
  ex : Ex (fz A C H) (fz A' C' H')
theorem Go.refl : Go A C H A C H := ⟨List.prefix_rfl, Evl.Ex.refl _⟩
theorem Go.trans {A'' : List Addr} {C'' : Cs} {H'' : Hp} (x : Go A C H A' C' H') (y : Go A' C' H' A'' C'' H'') : Go A C H A'' C'' H'' := ⟨x.pre.trans y.pre, x.ex.trans y.ex⟩
theorem Go.of (e : Ex H H') : Go A C H A C H' := ⟨List.prefix_rfl, mk_ex e⟩
theorem pre_get {l r : List Addr} (h : l <+: r) {i : Nat} {a : Addr} (e : l[i]? = some a) : r[i]? = some a := by
  obtain ⟨x, rfl⟩ := h
  rw [List.getElem?_append_left ((List.getElem?_eq_some_iff.mp e).1)]
  exact e
theorem RepE.go (g : Go A C H A' C' H') {e : El} {x : V} (h : RepE B A C H e x) : RepE B A' C' H' e x := by
  cases e with
  | v t d => exact Rep.mono (rg_ex g.ex) h
  | «at» n =>
    obtain ⟨a, h1, h2⟩ := h
    exact ⟨a, pre_get g.pre h1, h2⟩
theorem SlotE.go (g : Go A C H A' C' H') {o : Option El} {x : Option V} (h : SlotE B A C H o x) : SlotE B A' C' H' o x := fun e he =>
  let ⟨v, h1, h2⟩ := h e he
  ⟨v, h1, h2.go g⟩
theorem CellOk.ex (e : Ex H H') {a : Addr} {o : Ob} (h : CellOk B A C H a o) : CellOk B A C H' a o := by
  have g : Go A C H A C H' := Go.of e
  cases o with
  | lst t l =>
    obtain ⟨vs, h1, h2⟩ := h
    exact ⟨vs, e _ _ h1, RepL.mono (rg_ex g.ex) h2⟩
  | dk t l =>
    obtain ⟨vs, h1, h2⟩ := h
    exact ⟨vs, e _ _ h1, RepK.mono (rg_ex g.ex) h2⟩
  | dt t l =>
    obtain ⟨vs, h1, h2⟩ := h
    exact ⟨vs, e _ _ h1, RepT.mono (rg_ex g.ex) h2⟩
  | tup l =>
    obtain ⟨vs, h1, h2⟩ := h
    exact ⟨vs, e _ _ h1, h2.imp fun _ _ r => r.go g⟩
  | ins K fs =>
    obtain ⟨dx, fvs, h1, h2⟩ := h
    exact ⟨dx, fvs, e _ _ h1, h2.imp fun _ _ r => ⟨r.1, r.2.go g⟩⟩
theorem Sat.ext (S : Sat b0 b A G C s H) (e : Ex H H') : Sat b0 b A G C s H' :=
  ⟨S.len, S.nd, S.bf, S.ex.trans (mk_ex e), S.pre, fun i a o h1 h2 => (S.cell i a o h1 h2).ex e, S.slot.imp fun _ _ r => r.go (Go.of e), S.lb⟩
theorem Sat.get (S : Sat b0 b A G C s H) {i : Nat} {r : El} (h : G[i]? = some (some r)) : ∃ v, s[i]? = some (some v) ∧ RepE b.B A C H r v := by
  obtain ⟨x, h1, h2⟩ := S.slot.get h
  obtain ⟨v, rfl, h3⟩ := h2 r rfl
  exact ⟨v, h1, h3⟩
theorem Sat.put (S : Sat b0 b A G C s H) {i : Nat} {r : El} {v : V} (h : RepE b.B A C H r v) : Sat b0 b A (G.set i (some r)) C (s.set i (some v)) H :=
  ⟨S.len, S.nd, S.bf, S.ex, S.pre, S.cell, S.slot.set (fun e he => ⟨v, rfl, by cases he; exact h⟩) i, S.lb⟩
theorem Sat.base {c : Bs} (S : Sat b0 c A G C s H) (l : b.le c) (bf : Ex b.B b.F) (lb : b0.le b) : Sat b0 b A G C s H := by
  have e := l.B
  obtain ⟨B1, F1, A1⟩ := b
  obtain ⟨B2, F2, A2⟩ := c
  cases e
  exact ⟨S.len, S.nd, bf, l.F.trans S.ex, l.A.trans S.pre, S.cell, S.slot, lb⟩
/-- the base laid anew here -/
def Bs.now (b : Bs) (A : List Addr) (C : Cs) (H : Hp) : Bs := ⟨b.B, fz A C H, A⟩
theorem Sat.now (S : Sat b0 b A G C s H) : Sat b0 (b.now A C H) A G C s H := ⟨S.len, S.nd, S.bf.trans S.ex, Evl.Ex.refl _, List.prefix_rfl, S.cell, S.slot, S.lb.trans ⟨rfl, S.ex, S.pre⟩⟩
theorem Sat.le (S : Sat b0 b A G C s H) : b.le (b.now A C H) := ⟨rfl, S.ex, S.pre⟩
theorem Sat.fresh (S : Sat b0 b A G C s H) {p : Addr} (h : H p = none) : p ∉ live A C := fun q => by
  obtain ⟨i, o, h1, h2⟩ := live_mem.mp q
  have c := S.cell i p o h1 h2
  cases o with
  | lst t l => obtain ⟨vs, h3, _⟩ := c; rw [h] at h3; cases h3
  | dk t l => obtain ⟨vs, h3, _⟩ := c; rw [h] at h3; cases h3
  | dt t l => obtain ⟨vs, h3, _⟩ := c; rw [h] at h3; cases h3
  | tup l => obtain ⟨vs, h3, _⟩ := c; rw [h] at h3; cases h3
  | ins K fs => obtain ⟨dx, vs, h3, _⟩ := c; rw [h] at h3; cases h3
theorem Sat.freshB (S : Sat b0 b A G C s H) {p : Addr} (h : H p = none) : b.B p = none := by
  cases e : b.B p with
  | none => rfl
  | some o =>
    have q := mk_of (S.ex p o (S.bf p o e))
    rw [h] at q
    cases q
/-- a new object is in each region -/
theorem Sat.newAt (S : Sat b0 b A G C s H) {p : Addr} {o : HO} (h : H p = none) : rg t b.B A C (upd H p o) p = some o := by
  have e : fz A C (upd H p o) p = some o := by rw [mk_at (S.fresh h)]; exact upd_same
  unfold rg
  cases t with
  | true =>
    show (if (b.B p).isNone = true then _ else _) = _
    rw [S.freshB h]
    exact e
  | false => exact e
end
end Q
namespace Q
open PySem L2

/-! ### what an expression tells: EP a value as it is known, EV a flat value, ET a test, EA arguments -/
def EP (X : Cx) (b0 : Bs) (G : List (Option El)) (C : Cs) (e : Expr) (r : El) : Prop := ∀ (b : Bs) (A : List Addr) (s : St) (H : Hp), Sat b0 b A G C s H → ∀ k : VK, (∀ v H', Ex H H' → RepE b.B A C H' r v → k v H') → wE X e s H k
def EV (X : Cx) (b0 : Bs) (G : List (Option El)) (C : Cs) (e : Expr) (x : V) : Prop := ∀ (b : Bs) (A : List Addr) (s : St) (H : Hp), Sat b0 b A G C s H → ∀ k : VK, (∀ H', Ex H H' → k x H') → wE X e s H k
def ET (X : Cx) (b0 : Bs) (G : List (Option El)) (C : Cs) (e : Expr) (c : Bool) : Prop := ∀ (b : Bs) (A : List Addr) (s : St) (H : Hp), Sat b0 b A G C s H → ∀ k : Bool → Hp → Prop, (∀ H', Ex H H' → k c H') → wT X e s H k
def EA (X : Cx) (b0 : Bs) (G : List (Option El)) (C : Cs) (es : List Expr) (rs : List El) : Prop := ∀ (b : Bs) (A : List Addr) (s : St) (H : Hp), Sat b0 b A G C s H → ∀ k : List V → Hp → Prop, (∀ vs H', Ex H H' → All2 (RepE b.B A C H') rs vs → k vs H') → wA X es s H k

def flat : D → Option V
  | .non => some .non
  | .bl b => some (.bl b)
  | .int i => some (.int i)
  | .str s => some (.str s)
  | .ref a => some (.ref a)
  | .ty n => some (.ty n)
  | _ => none
theorem flat_rep {d : D} {x : V} (h : flat d = some x) {M : Hp} {v : V} : Rep M d v ↔ v = x := by
  cases d <;> simp [flat] at h <;> subst h <;> simp [Rep]
@[reducible] def I (i : Int) : El := .v true (.int i)
@[reducible] def Bo (b : Bool) : El := .v true (.bl b)
@[reducible] def S (s : Str) : El := .v true (.str s)
@[reducible] def No : El := .v true .non
section
variable {X : Cx} {G : List (Option El)} {C : Cs} {a b c e : Expr} {p : Pos} {t u : Bool} {x y z : V} {d d' : D} {r r' : El} {i j : Int}
theorem EP.ev (h : EP X b0 G C e (.v t d)) (f : flat d = some x) : EV X b0 G C e x := fun b A s H S k q => h b A s H S k fun v H' e r => by
  have q' := (flat_rep f).mp r
  subst q'
  exact q H' e
theorem EV.ep (h : EV X b0 G C e x) (f : flat d = some x) : EP X b0 G C e (.v t d) := fun b A s H S k q => h b A s H S k fun H' e => q x H' e ((flat_rep f).mpr rfl)
theorem EP.low (h : EP X b0 G C e (.v t d)) (l : u = true → t = true) : EP X b0 G C e (.v u d) := fun b A s H S k q => h b A s H S k fun v H' e r => q v H' e (Rep.mono (rg_low l) r)
theorem EP.is (h : EP X b0 G C e r) (q : r = r') : EP X b0 G C e r' := q ▸ h
theorem ET.is {c c' : Bool} (h : ET X b0 G C e c) (q : c = c') : ET X b0 G C e c' := q ▸ h
/-- a name -/
theorem ep_var (n : Nat) {w : Str} (hN : X.N[n]? = some w) (hv : Vis X.env.scope w) (g : G[n]? = some (some r)) (hd : (w == ("__debug__" : Str)) = false := by decide) (hcd : (w == ("__classdict__" : Str)) = false := by decide) : EP X b0 G C (.Name w p) r :=
  fun b A s H S k q => ⟨_, pe_var hN hv hd hcd, by
    obtain ⟨v, h1, h2⟩ := S.get g
    exact ⟨v, h1, q v H (Evl.Ex.refl H) h2⟩⟩
theorem ev_int {j : Nat} : EV X b0 G C (.Constant (.int i) j p) (.int i) := fun b A s H S k q => ⟨_, pe_int, q H (Evl.Ex.refl H)⟩
theorem ep_int {j : Nat} : EP X b0 G C (.Constant (.int i) j p) (I i) := ev_int.ep rfl
theorem ep_bl {w : Bool} {j : Nat} : EP X b0 G C (.Constant (.bool w) j p) (Bo w) := fun b A s H S k q => ⟨_, pe_bl, q _ H (Evl.Ex.refl H) rfl⟩
theorem ep_non {j : Nat} : EP X b0 G C (.Constant .none j p) No := fun b A s H S k q => ⟨_, pe_non, q _ H (Evl.Ex.refl H) rfl⟩
theorem ep_str {w : Str} {j : Nat} : EP X b0 G C (.Constant (.str w) j p) (S w) := fun b A s H S k q => ⟨_, pe_str, q _ H (Evl.Ex.refl H) rfl⟩
/-- a module's constant -/
theorem ep_glob {w : Str} {v : Value} (hg : Gl X w) (hm : X.mg w = some v) (f : flat d = some x) (rv : RelV x v) (hd : (w == ("__debug__" : Str)) = false := by decide) : EP X b0 G C (.Name w p) (.v true d) :=
  EV.ep (x := x) (fun b A s H S k q => ⟨_, pe_glob hg hm rv hd, q H (Evl.Ex.refl H)⟩) f
/-- two operands -/
theorem ep_op {op : Operator} {R : R2} (ho : OpR X (binaryOp op) R) (ha : EP X b0 G C a r) (hb : EP X b0 G C b r') {r3 : El}
    (h : ∀ (c : Bs) (A : List Addr) (s : St) (H : Hp) (x y : V), Sat b0 c A G C s H → RepE c.B A C H r x → RepE c.B A C H r' y → ∀ k : VK, (∀ v H', Ex H H' → RepE c.B A C H' r3 v → k v H') → R x y H k) : EP X b0 G C (.BinOp a op b p) r3 :=
  fun c A s H S k q => ⟨_, pe_op ho wE_ok wE_ok, ha c A s H S _ fun x H1 e1 r1 => hb c A s H1 (S.ext e1) _ fun y H2 e2 r2 =>
    h c A s H2 x y ((S.ext e1).ext e2) (r1.go (Go.of e2)) r2 k fun v H3 e3 r3 => q v H3 ((e1.trans e2).trans e3) r3⟩
theorem ep_opI {op : Operator} {P : Int → Int → Prop} {g : Int → Int → Int} (ho : OpR X (binaryOp op) (rI P fun i j => .int (g i j))) (ha : EP X b0 G C a (.v t (.int i))) (hb : EP X b0 G C b (.v u (.int j))) (hp : P i j) : EP X b0 G C (.BinOp a op b p) (I (g i j)) :=
  ep_op ho ha hb fun c A s H x y _ rx ry k q => ⟨i, j, rx, ry, hp, q _ H (Evl.Ex.refl H) rfl⟩
theorem ep_op0 {op : Operator} {g : Int → Int → Int} (ho : OpR X (binaryOp op) (rI0 fun i j => .int (g i j))) (ha : EP X b0 G C a (.v t (.int i))) (hb : EP X b0 G C b (.v u (.int j))) : EP X b0 G C (.BinOp a op b p) (I (g i j)) :=
  ep_op ho ha hb fun c A s H x y _ rx ry k q => ⟨i, j, rx, ry, q _ H (Evl.Ex.refl H) rfl⟩
theorem ep_add (ha : EP X b0 G C a (.v t (.int i))) (hb : EP X b0 G C b (.v u (.int j))) : EP X b0 G C (.BinOp a .Add b p) (I (i + j)) := ep_op0 (g := fun i j => i + j) op_add ha hb
theorem ep_sub (ha : EP X b0 G C a (.v t (.int i))) (hb : EP X b0 G C b (.v u (.int j))) : EP X b0 G C (.BinOp a .Sub b p) (I (i - j)) := ep_op0 (g := fun i j => i - j) op_sub ha hb
theorem ep_mul (ha : EP X b0 G C a (.v t (.int i))) (hb : EP X b0 G C b (.v u (.int j))) (hp : CMul i j) : EP X b0 G C (.BinOp a .Mult b p) (I (i * j)) := ep_opI (g := fun i j => i * j) op_mul ha hb hp
theorem ep_mod (ha : EP X b0 G C a (.v t (.int i))) (hb : EP X b0 G C b (.v u (.int j))) (hp : 0 < j) : EP X b0 G C (.BinOp a .Mod b p) (I (i % j)) := ep_opI (g := fun i j => i % j) op_mod ha hb hp
theorem ep_div (ha : EP X b0 G C a (.v t (.int i))) (hb : EP X b0 G C b (.v u (.int j))) (hp : 0 < j ∧ j < 1073741824) : EP X b0 G C (.BinOp a .FloorDiv b p) (I (i / j)) := ep_opI (g := fun i j => i / j) op_fdiv ha hb hp
theorem ep_pow (ha : EP X b0 G C a (.v t (.int i))) (hb : EP X b0 G C b (.v u (.int j))) (hp : CPow i j) : EP X b0 G C (.BinOp a .Pow b p) (I (i ^ j.toNat)) := ep_opI (g := fun i j => i ^ j.toNat) op_pow ha hb hp
theorem ep_addS {v w : Str} (ha : EP X b0 G C a (.v t (.str v))) (hb : EP X b0 G C b (.v u (.str w))) (hp : v.length + w.length ≤ sizeLine) : EP X b0 G C (.BinOp a .Add b p) (S (v ++ w)) :=
  ep_op op_add_str ha hb fun c A s H x y _ rx ry k q => ⟨v, w, rx, ry, hp, q _ H (Evl.Ex.refl H) rfl⟩
/-- comparisons of flat values -/
theorem ep_cmp {op : CmpOp} {R : R2} (ho : OpR X (compareOp op) R) (hm : behindInMarks op b = false) (ha : EP X b0 G C a r) (hb : EP X b0 G C b r') {c : Bool}
    (h : ∀ (f : Bs) (A : List Addr) (s : St) (H : Hp) (x y : V), Sat b0 f A G C s H → RepE f.B A C H r x → RepE f.B A C H r' y → ∀ k : VK, (∀ H', Ex H H' → k (.bl c) H') → R x y H k) : EP X b0 G C (.Compare a [op] [b] p) (Bo c) :=
  fun f A s H S k q => ⟨_, pe_cmpR ho wE_ok wE_ok hm, ha f A s H S _ fun x H1 e1 r1 => hb f A s H1 (S.ext e1) _ fun y H2 e2 r2 =>
    h f A s H2 x y ((S.ext e1).ext e2) (r1.go (Go.of e2)) r2 k fun H3 e3 => q _ H3 ((e1.trans e2).trans e3) rfl⟩
theorem et_cmp {op : CmpOp} {R : R2} (ho : OpR X (compareOp op) R) (hm : behindInMarks op b = false) (ha : EP X b0 G C a r) (hb : EP X b0 G C b r') {c : Bool}
    (h : ∀ (f : Bs) (A : List Addr) (s : St) (H : Hp) (x y : V), Sat b0 f A G C s H → RepE f.B A C H r x → RepE f.B A C H r' y → ∀ k : VK, (∀ H', Ex H H' → k (.bl c) H') → R x y H k) : ET X b0 G C (.Compare a [op] [b] p) c :=
  fun f A s H S k q => ⟨_, pt_cmpR ho wE_ok wE_ok hm, ha f A s H S _ fun x H1 e1 r1 => hb f A s H1 (S.ext e1) _ fun y H2 e2 r2 =>
    h f A s H2 x y ((S.ext e1).ext e2) (r1.go (Go.of e2)) r2 _ fun H3 e3 => ⟨c, rfl, q H3 ((e1.trans e2).trans e3)⟩⟩
/-- the rule of a comparison, in one: as a value, as a test -/
structure Cmp (X : Cx) (op : CmpOp) (r r' : El) (C : Cs) (c : Bool) : Prop where
  run : ∃ R, OpR X (compareOp op) R ∧ ∀ (f : Bs) (A : List Addr) (G : List (Option El)) (s : St) (H : Hp) (x y : V), Sat b0 f A G C s H → RepE f.B A C H r x → RepE f.B A C H r' y → ∀ k : VK, (∀ H', Ex H H' → k (.bl c) H') → R x y H k
theorem ep_c {op : CmpOp} {c : Bool} (h : Cmp X op r r' C c) (ha : EP X b0 G C a r) (hb : EP X b0 G C b r') (hm : behindInMarks op b = false := by first | exact nomark _ | rfl) : EP X b0 G C (.Compare a [op] [b] p) (Bo c) := by
  obtain ⟨R, ho, q⟩ := h.run
  exact ep_cmp ho hm ha hb fun f A s H x y => q f A G s H x y
theorem et_c {op : CmpOp} {c : Bool} (h : Cmp X op r r' C c) (ha : EP X b0 G C a r) (hb : EP X b0 G C b r') (hm : behindInMarks op b = false := by first | exact nomark _ | rfl) : ET X b0 G C (.Compare a [op] [b] p) c := by
  obtain ⟨R, ho, q⟩ := h.run
  exact et_cmp ho hm ha hb fun f A s H x y => q f A G s H x y
theorem c_int {op : CmpOp} {g : Int → Int → Bool} (ho : OpR X (compareOp op) (rI0 fun i j => .bl (g i j))) : Cmp X op (.v t (.int i)) (.v u (.int j)) C (g i j) :=
  ⟨_, ho, fun f A G s H x y _ rx ry k q => ⟨i, j, rx, ry, q H (Evl.Ex.refl H)⟩⟩
theorem c_lt : Cmp X .Lt (.v t (.int i)) (.v u (.int j)) C (decide (i < j)) := c_int (g := fun i j => decide (i < j)) op_lt
theorem c_le : Cmp X .LtE (.v t (.int i)) (.v u (.int j)) C (decide (i ≤ j)) := c_int (g := fun i j => decide (i ≤ j)) op_le
theorem c_gt : Cmp X .Gt (.v t (.int i)) (.v u (.int j)) C (decide (j < i)) := c_int (g := fun i j => decide (j < i)) op_gt
theorem c_ge : Cmp X .GtE (.v t (.int i)) (.v u (.int j)) C (decide (j ≤ i)) := c_int (g := fun i j => decide (j ≤ i)) op_ge
theorem c_eqV {d d' : D} {x y : V} (f1 : flat d = some x) (f2 : flat d' = some y) (hs : scal x y = true) : Cmp X .Eq (.v t d) (.v u d') C (decide (x = y)) :=
  ⟨_, op_eq, fun f A G s H v w _ rx ry k q => by
    rw [(flat_rep f1).mp rx, (flat_rep f2).mp ry]
    exact ⟨hs, q H (Evl.Ex.refl H)⟩⟩
theorem c_neV {d d' : D} {x y : V} (f1 : flat d = some x) (f2 : flat d' = some y) (hs : scal x y = true) : Cmp X .NotEq (.v t d) (.v u d') C (!decide (x = y)) :=
  ⟨_, op_ne, fun f A G s H v w _ rx ry k q => by
    rw [(flat_rep f1).mp rx, (flat_rep f2).mp ry]
    exact ⟨hs, q H (Evl.Ex.refl H)⟩⟩
theorem dec_of {p q : Prop} [Decidable p] [Decidable q] (h : p ↔ q) : decide p = decide q := by
  by_cases c : p
  · rw [decide_eq_true c, decide_eq_true (h.mp c)]
  · rw [decide_eq_false c, decide_eq_false (fun z => c (h.mpr z))]
theorem vint_eq {i j : Int} : (V.int i = V.int j) ↔ i = j := ⟨fun h => by injection h, fun h => by rw [h]⟩
theorem vstr_eq {i j : Str} : (V.str i = V.str j) ↔ i = j := ⟨fun h => by injection h, fun h => by rw [h]⟩
theorem vbl_eq {i j : Bool} : (V.bl i = V.bl j) ↔ i = j := ⟨fun h => by injection h, fun h => by rw [h]⟩
theorem Cmp.is {op : CmpOp} {c c' : Bool} (h : Cmp X op r r' C c) (e : c = c') : Cmp X op r r' C c' := e ▸ h
theorem c_eq : Cmp X .Eq (.v t (.int i)) (.v u (.int j)) C (decide (i = j)) := (c_eqV rfl rfl rfl).is (dec_of vint_eq)
theorem c_ne : Cmp X .NotEq (.v t (.int i)) (.v u (.int j)) C (!decide (i = j)) := (c_neV rfl rfl rfl).is (congrArg _ (dec_of vint_eq))
theorem c_eqS {v w : Str} : Cmp X .Eq (.v t (.str v)) (.v u (.str w)) C (decide (v = w)) := (c_eqV rfl rfl rfl).is (dec_of vstr_eq)
theorem c_neS {v w : Str} : Cmp X .NotEq (.v t (.str v)) (.v u (.str w)) C (!decide (v = w)) := (c_neV rfl rfl rfl).is (congrArg _ (dec_of vstr_eq))
theorem c_eqB {v w : Bool} : Cmp X .Eq (.v t (.bl v)) (.v u (.bl w)) C (decide (v = w)) := (c_eqV rfl rfl rfl).is (dec_of vbl_eq)
theorem c_neB {v w : Bool} : Cmp X .NotEq (.v t (.bl v)) (.v u (.bl w)) C (!decide (v = w)) := (c_neV rfl rfl rfl).is (congrArg _ (dec_of vbl_eq))
def isNon : D → Bool
  | .non => true
  | _ => false
theorem rep_non {M : Hp} {v : V} (h : Rep M d v) : decide (v = .non) = isNon d := by
  cases d with
  | non => rw [show v = .non from h] <;> rfl
  | bl b => rw [show v = .bl b from h] <;> rfl
  | int b => rw [show v = .int b from h] <;> rfl
  | str b => rw [show v = .str b from h] <;> rfl
  | lst l => obtain ⟨a, _, rfl, _⟩ := h; rfl
  | tup l => obtain ⟨a, _, rfl, _⟩ := h; rfl
  | dk l => obtain ⟨a, _, rfl, _⟩ := h; rfl
  | dt l => obtain ⟨a, _, rfl, _⟩ := h; rfl
  | ins K l => obtain ⟨a, _, _, rfl, _⟩ := h; rfl
  | ref a => rw [show v = .ref a from h] <;> rfl
  | ty n => rw [show v = .ty n from h] <;> rfl
  | scr K l => obtain ⟨a, rfl, _⟩ := h; rfl
theorem c_isN : Cmp X .Is (.v t d) (.v u .non) C (isNon d) := ⟨_, op_isN, fun f A G s H v w _ rx ry k q => ⟨ry, by rw [rep_non rx]; exact q H (Evl.Ex.refl H)⟩⟩
theorem c_notN : Cmp X .IsNot (.v t d) (.v u .non) C (!isNon d) := ⟨_, op_notN, fun f A G s H v w _ rx ry k q => ⟨ry, by rw [rep_non rx]; exact q H (Evl.Ex.refl H)⟩⟩

/-! ### and, or, not, if else; as values, as tests -/
theorem ep_not {c : Bool} (h : EP X b0 G C a (.v t (.bl c))) : EP X b0 G C (.UnaryOp .Not a p) (Bo (!c)) := fun b A s H S k q => ⟨_, pe_not wE_ok, h b A s H S _ fun v H1 e r => ⟨c, r, q _ H1 e rfl⟩⟩
theorem ep_one {op : BoolOp} (h : EP X b0 G C a r) : EP X b0 G C (.BoolOp op [a] p) r := fun b A s H S k q => ⟨_, pe_one wE_ok, h b A s H S k q⟩
theorem ep_and {rest : List Expr} {c c' : Bool} (ha : EP X b0 G C a (.v t (.bl c))) (hb : c = true → EP X b0 G C (.BoolOp .And (b :: rest) p) (.v u (.bl c'))) : EP X b0 G C (.BoolOp .And (a :: b :: rest) p) (Bo (c && c')) :=
  fun f A s H S k q => ⟨_, pe_and wE_ok wE_ok, ha f A s H S _ fun v H1 e r => ⟨c, r, by
    cases c with
    | true => exact hb rfl f A s H1 (S.ext e) k fun v H2 e2 r2 => q v H2 (e.trans e2) r2
    | false => exact q _ H1 e rfl⟩⟩
theorem ep_or {rest : List Expr} {c c' : Bool} (ha : EP X b0 G C a (.v t (.bl c))) (hb : c = false → EP X b0 G C (.BoolOp .Or (b :: rest) p) (.v u (.bl c'))) : EP X b0 G C (.BoolOp .Or (a :: b :: rest) p) (Bo (c || c')) :=
  fun f A s H S k q => ⟨_, pe_or wE_ok wE_ok, ha f A s H S _ fun v H1 e r => ⟨c, r, by
    cases c with
    | false => exact hb rfl f A s H1 (S.ext e) k fun v H2 e2 r2 => q v H2 (e.trans e2) r2
    | true => exact q _ H1 e rfl⟩⟩
theorem et_val {c : Bool} (h : EP X b0 G C e (.v t (.bl c))) (he : ∀ whole, isTrue e X.env whole = (do let v ← whole; standAt e.pos; holding [v] (truthy v)) := by intro _; rfl) : ET X b0 G C e c :=
  fun b A s H S k q => ⟨_, pt_val wE_ok he, h b A s H S _ fun v H1 e r => ⟨c, r, q H1 e⟩⟩
theorem et_not {c : Bool} (h : ET X b0 G C a c) : ET X b0 G C (.UnaryOp .Not a p) (!c) := fun b A s H S k q => ⟨_, pt_not wT_ok, h b A s H S _ fun H1 e => q H1 e⟩
def wW (X : Cx) (e : Expr) : TT := fun s H k => ∃ t, PW X e t ∧ t s H k
theorem wW_ok {X : Cx} {e : Expr} : PW X e (wW X e) := ⟨fun w pins s q H k I ⟨_, h, z⟩ => h.run w pins s q H k I z⟩
def EW (X : Cx) (b0 : Bs) (G : List (Option El)) (C : Cs) (e : Expr) (c : Bool) : Prop := ∀ (b : Bs) (A : List Addr) (s : St) (H : Hp), Sat b0 b A G C s H → ∀ k : Bool → Hp → Prop, (∀ H', Ex H H' → k c H') → wW X e s H k
theorem EW.et {c : Bool} (h : EW X b0 G C e c) : ET X b0 G C e c := fun b A s H S k q => ⟨_, PW.pt wW_ok, h b A s H S k q⟩
theorem ew_and1 {c : Bool} (h : ET X b0 G C a c) : EW X b0 G C (.BoolOp .And [a] p) c := fun b A s H S k q => ⟨_, pw_and1 wT_ok, h b A s H S k q⟩
theorem ew_or1 {c : Bool} (h : ET X b0 G C a c) : EW X b0 G C (.BoolOp .Or [a] p) c := fun b A s H S k q => ⟨_, pw_or1 wT_ok, h b A s H S k q⟩
theorem ew_and {rest : List Expr} {c c' : Bool} (ha : ET X b0 G C a c) (hb : c = true → EW X b0 G C (.BoolOp .And (b :: rest) p) c') : EW X b0 G C (.BoolOp .And (a :: b :: rest) p) (c && c') :=
  fun f A s H S k q => ⟨_, pw_and wT_ok wW_ok, ha f A s H S _ fun H1 e => by
    cases c with
    | true => exact hb rfl f A s H1 (S.ext e) k fun H2 e2 => q H2 (e.trans e2)
    | false => exact q H1 e⟩
theorem ew_or {rest : List Expr} {c c' : Bool} (ha : ET X b0 G C a c) (hb : c = false → EW X b0 G C (.BoolOp .Or (b :: rest) p) c') : EW X b0 G C (.BoolOp .Or (a :: b :: rest) p) (c || c') :=
  fun f A s H S k q => ⟨_, pw_or wT_ok wW_ok, ha f A s H S _ fun H1 e => by
    cases c with
    | false => exact hb rfl f A s H1 (S.ext e) k fun H2 e2 => q H2 (e.trans e2)
    | true => exact q H1 e⟩
theorem ep_if {c : Bool} (hc : ET X b0 G C e c) (ha : c = true → EP X b0 G C a r) (hb : c = false → EP X b0 G C b r) : EP X b0 G C (.IfExp e a b p) r :=
  fun f A s H S k q => ⟨_, pe_ifExp wT_ok wE_ok wE_ok, hc f A s H S _ fun H1 e => by
    cases c with
    | true => exact ha rfl f A s H1 (S.ext e) k fun v H2 e2 => q v H2 (e.trans e2)
    | false => exact hb rfl f A s H1 (S.ext e) k fun v H2 e2 => q v H2 (e.trans e2)⟩

/-! ### arguments, displays -/
variable {es : List Expr} {rs : List El}
theorem ea_nil : EA X b0 G C [] [] := fun b A s H S k q => ⟨_, pa_nil, q [] H (Evl.Ex.refl H) .nil⟩
theorem ea_cons (h : EP X b0 G C e r) (ht : EA X b0 G C es rs) (hs : starEach (e :: es) X.env = (false, eval e X.env) :: starEach es X.env := by rfl) : EA X b0 G C (e :: es) (r :: rs) :=
  fun b A s H S k q => ⟨_, pa_cons wE_ok wA_ok hs, h b A s H S _ fun v H1 e1 r1 => ht b A s H1 (S.ext e1) _ fun vs H2 e2 r2 => q (v :: vs) H2 (e1.trans e2) (.cons (r1.go (Go.of e2)) r2)⟩
/-- known values as plain data of one kind t -/
inductive Dat (t : Bool) : List El → List D → Prop
  | nil : Dat t [] []
  | cons {u d rs ds} (h : t = true → u = true) (r : Dat t rs ds) : Dat t (El.v u d :: rs) (d :: ds)
theorem Dat.rep {b : Bs} {A : List Addr} {H : Hp} : ∀ {rs : List El} {ds : List D} {vs : List V}, Dat t rs ds → All2 (RepE b.B A C H) rs vs → RepL (rg t b.B A C H) ds vs
  | _, _, _, .nil, .nil => rfl
  | _, _, _, .cons h r, .cons a q => ⟨_, _, rfl, Rep.mono (rg_low h) a, r.rep q⟩
theorem RepL.len {M : Hp} : ∀ {ds : List D} {vs : List V}, RepL M ds vs → ds.length = vs.length
  | [], _, h => by rw [show _ = [] from h] <;> rfl
  | d :: ds, _, ⟨v, r, e, _, h⟩ => by rw [e, List.length_cons, List.length_cons, h.len]
theorem Sat.newL {b : Bs} {A : List Addr} {s : St} {H : Hp} {q : Addr} {ds : List D} {vs : List V} (S : Sat b0 b A G C s H) (hq : H q = none) (h : RepL (rg t b.B A C H) ds vs) : RepE b.B A C (upd H q (.lst vs)) (.v t (.lst ds)) (.ref q) :=
  ⟨q, vs, rfl, S.newAt hq, RepL.mono (rg_ex (mk_ex (Evl.Ex.new hq))) h⟩
theorem Sat.newT {b : Bs} {A : List Addr} {s : St} {H : Hp} {q : Addr} {ds : List D} {vs : List V} (S : Sat b0 b A G C s H) (hq : H q = none) (h : RepL (rg t b.B A C H) ds vs) : RepE b.B A C (upd H q (.tup vs)) (.v t (.tup ds)) (.ref q) :=
  ⟨q, vs, rfl, S.newAt hq, RepL.mono (rg_ex (mk_ex (Evl.Ex.new hq))) h⟩
theorem ep_lst {ds : List D} (h : EA X b0 G C es rs) (hd : Dat t rs ds) (hl : ds.length ≤ sizeLine := by decide) : EP X b0 G C (.List es p) (.v t (.lst ds)) :=
  fun b A s H S k q => ⟨_, pe_lst wA_ok, h b A s H S _ fun vs H1 e1 r1 => ⟨by rw [← (hd.rep r1).len]; exact hl, fun w hw => q _ _ (e1.trans (Evl.Ex.new hw)) ((S.ext e1).newL hw (hd.rep r1))⟩⟩
theorem ep_tup {ds : List D} {x1} (h : EA X b0 G C es rs) (hd : Dat t rs ds) (hl : ds.length ≤ sizeLine := by decide) : EP X b0 G C (.Tuple es x1 p) (.v t (.tup ds)) :=
  fun b A s H S k q => ⟨_, pe_tup wA_ok, h b A s H S _ fun vs H1 e1 r1 => ⟨by rw [← (hd.rep r1).len]; exact hl, fun w hw => q _ _ (e1.trans (Evl.Ex.new hw)) ((S.ext e1).newT hw (hd.rep r1))⟩⟩

/-! ### calls of a built-in by its name -/
theorem ep_blt {x id : String} {R : List V → Hp → VK → Prop} (hc : CallR X (.builtin id) R) {w : Str} (hg : Gl X w) (hm : X.mg w = none) (hv : bootBuiltins w = some (.builtin id)) (ha : EA X b0 G C (e :: es) rs)
    (h : ∀ (f : Bs) (A : List Addr) (s : St) (H : Hp) (vs : List V), Sat b0 f A G C s H → All2 (RepE f.B A C H) rs vs → ∀ k : VK, (∀ v H', Ex H H' → RepE f.B A C H' r v → k v H') → R vs H k)
    {p2 : Pos} (hn : w ≠ "__name__" := by decide) (hdb : (w == ("__debug__" : Str)) = false := by decide) (he : starEach (e :: es) X.env = (false, eval e X.env) :: starEach es X.env := by rfl) (hpl : (backTo p (starEach es X.env)).any (·.1) = false := by rfl) : EP X b0 G C (.Call (.Name w p2) (e :: es) [] p) r :=
  fun f A s H S k q => ⟨_, pe_callB hc hg hm hv wA_ok hn hdb he hpl, ha f A s H S _ fun vs H1 e1 r1 => h f A s H1 vs (S.ext e1) r1 k fun v H2 e2 r2 => q v H2 (e1.trans e2) r2⟩
theorem ep_bty {T : String} {R : List V → Hp → VK → Prop} (hc : CallR X (.type T) R) {w : Str} (hg : Gl X w) (hm : X.mg w = none) (hv : bootBuiltins w = some (.type T)) (ha : EA X b0 G C (e :: es) rs)
    (h : ∀ (f : Bs) (A : List Addr) (s : St) (H : Hp) (vs : List V), Sat b0 f A G C s H → All2 (RepE f.B A C H) rs vs → ∀ k : VK, (∀ v H', Ex H H' → RepE f.B A C H' r v → k v H') → R vs H k)
    {p2 : Pos} (hn : w ≠ "__name__" := by decide) (hdb : (w == ("__debug__" : Str)) = false := by decide) (he : starEach (e :: es) X.env = (false, eval e X.env) :: starEach es X.env := by rfl) (hpl : (backTo p (starEach es X.env)).any (·.1) = false := by rfl) : EP X b0 G C (.Call (.Name w p2) (e :: es) [] p) r :=
  fun f A s H S k q => ⟨_, pe_callTy hc hg hm hv wA_ok hn hdb he hpl, ha f A s H S _ fun vs H1 e1 r1 => h f A s H1 vs (S.ext e1) r1 k fun v H2 e2 r2 => q v H2 (e1.trans e2) r2⟩
end
end Q
namespace Q
open PySem L2

/-- what is wanted at the ends, over the base -/
abbrev De := Bs → Ends
/-- a block runs, from a state, to these ends -/
def WB (X : Cx) (b0 : Bs) (G : List (Option El)) (C : Cs) (ss : List Stmt) (W : De) : Prop :=
  ∀ (b : Bs) (A : List Addr) (s : St) (H : Hp), b0.le b → Sat b0 b A G C s H → wB X ss (W b) s H
/-- the state G, C (and what stands since the base) holds here -/
def Nx (b0 b : Bs) (G : List (Option El)) (C : Cs) : St → Hp → Prop := fun s H => ∃ A, Sat b0 b A G C s H

section
variable {X : Cx} {b0 : Bs} {G G' : List (Option El)} {C C' : Cs} {W : De} {st : Stmt} {rest body ss : List Stmt} {e tg iter : Expr} {p : Pos} {r : El} {t u : Bool} {d : D} {i j : Int}
theorem WB.is (h : WB X b0 G C ss W) (q : G = G') : WB X b0 G' C ss W := q ▸ h
theorem wb_nil (h : ∀ b A s H, b0.le b → Sat b0 b A G C s H → (W b).nx s H) : WB X b0 G C [] W := fun b A s H l S => ⟨_, pss_nil, h b A s H l S⟩
/-- at the end of a turn -/
theorem wb_turn (h : ∀ b, (W b).nx = Nx b0 b G C) : WB X b0 G C [] W := wb_nil fun b A s H _ S => by
  rw [h b]
  exact ⟨A, S⟩
theorem wb_cons (h : ∀ b A s H, b0.le b → Sat b0 b A G C s H → wS X st { W b with nx := wB X rest (W b) } s H) : WB X b0 G C (st :: rest) W := fun b A s H l S =>
  ⟨_, pss_cons wS_ok wB_ok, h b A s H l S⟩
/-- a statement that goes on -/
def ST (X : Cx) (b0 : Bs) (G : List (Option El)) (C : Cs) (st : Stmt) (G' : List (Option El)) (C' : Cs) : Prop :=
  ∀ (b : Bs) (A : List Addr) (s : St) (H : Hp) (W : Ends), Sat b0 b A G C s H → (∀ A' s' H', Sat b0 b A' G' C' s' H' → W.nx s' H') → wS X st W s H
theorem wb_st (h : ST X b0 G C st G' C') (k : WB X b0 G' C' rest W) : WB X b0 G C (st :: rest) W := wb_cons fun b A s H l S => h b A s H _ S fun A' s' H' S' => k b A' s' H' l S'
theorem st_asg (n : Nat) {x : Str} {p' : Pos} (he : EP X b0 G C e r) (hN : X.N.Nodup) (hi : X.N[n]? = some x) (hx : Loc X.env.scope x) (hs : swapsWith e (some (.Name x p')) p.line X.env = pure false := by rfl)
    (hf : X.fn x = true ∨ X.env.scope.names.lookup x = some .local := by first | exact .inl rfl | exact .inr rfl | assumption) : ST X b0 G C (.Assign [.Name x p'] e p) (G.set n (some r)) C :=
  fun b A s H W S k => ⟨_, ps_set hN hi hx wE_ok hs hf, he b A s H S _ fun v H1 e1 r1 => k A _ _ ((S.ext e1).put r1)⟩
theorem st_drop (he : EP X b0 G C e r) (hs : swapsWith e none p.line X.env = pure false := by rfl) : ST X b0 G C (.Expr e p) G C :=
  fun b A s H W S k => ⟨_, ps_expr wE_ok hs, he b A s H S _ fun v H1 e1 r1 => k A _ _ (S.ext e1)⟩
theorem st_doc {x : Str} {j : Nat} {p' : Pos} : ST X b0 G C (.Expr (.Constant (.str x) j p) p') G C := fun b A s H W S k => ⟨_, ps_doc, k A s H S⟩
theorem st_pass : ST X b0 G C (.Pass p) G C := fun b A s H W S k => ⟨_, ps_pass, k A s H S⟩
/-- x += e, x -= e -/
theorem st_aug (n : Nat) {x : Str} {op : Operator} {f : Int → Int → Int} {p' : Pos} (ho : PIp X op (ipI f)) (g : G[n]? = some (some (.v t (.int i)))) (he : EP X b0 G C e (.v u (.int j))) (hN : X.N.Nodup) (hi : X.N[n]? = some x) (hx : Loc X.env.scope x)
    (hf : X.fn x = true ∨ X.env.scope.names.lookup x = some .local := by first | exact .inl rfl | exact .inr rfl | assumption) : ST X b0 G C (.AugAssign (.Name x p') op e p) (G.set n (some (I (f i j)))) C :=
  fun b A s H W S k => ⟨_, ps_aug hN hi hx wE_ok ho hf, by
    obtain ⟨v, h1, h2⟩ := S.get g
    have h2' : v = .int i := h2
    subst h2'
    exact ⟨.int i, h1, he b A s H S _ fun w H1 e1 r1 => ⟨i, j, rfl, r1, k A _ _ ((S.ext e1).put rfl)⟩⟩⟩
theorem wb_ret (he : EP X b0 G C e r) (h : ∀ b A v s H, b0.le b → Sat b0 b A G C s H → RepE b.B A C H r v → (W b).rt v H) : WB X b0 G C (.Return (some e) p :: rest) W :=
  wb_cons fun b A s H l S => ⟨_, ps_ret wE_ok, he b A s H S _ fun v H1 e1 r1 => h b A v s H1 l (S.ext e1) r1⟩
theorem wb_retN (h : ∀ b A s H, b0.le b → Sat b0 b A G C s H → (W b).rt .non H) : WB X b0 G C (.Return none p :: rest) W :=
  wb_cons fun b A s H l S => ⟨_, ps_retN, h b A s H l S⟩
theorem wb_break (h : ∀ b A s H, b0.le b → Sat b0 b A G C s H → (W b).bk s H) : WB X b0 G C (.Break p :: rest) W := wb_cons fun b A s H l S => ⟨_, ps_break, h b A s H l S⟩
theorem wb_cont (h : ∀ b A s H, b0.le b → Sat b0 b A G C s H → (W b).ct s H) : WB X b0 G C (.Continue p :: rest) W := wb_cons fun b A s H l S => ⟨_, ps_continue, h b A s H l S⟩
/-- what is wanted behind a statement: the rest -/
def Dr (X : Cx) (rest : List Stmt) (W : De) : De := fun b => { W b with nx := wB X rest (W b) }
theorem wb_go {Y : Cx} (h : WB X b0 G C rest W) : WB Y b0 G C [] (Dr X rest W) := wb_nil fun b A s H l S => h b A s H l S
theorem wb_if {c : Bool} {x y : List Stmt} (hc : ET X b0 G C e c) (h1 : c = true → WB X b0 G C x (Dr X rest W)) (h2 : c = false → WB X b0 G C y (Dr X rest W)) : WB X b0 G C (.If e x y p :: rest) W :=
  wb_cons fun b A s H l S => ⟨_, ps_if wT_ok wB_ok wB_ok, hc b A s H S _ fun H1 e1 => by
    cases c with
    | true => exact h1 rfl b A s H1 l (S.ext e1)
    | false => exact h2 rfl b A s H1 l (S.ext e1)⟩
/-- an if without else whose way of yes ends elsewhere, or goes on alike -/
theorem wb_if1 {c : Bool} {x : List Stmt} (hc : ET X b0 G C e c) (h1 : c = true → WB X b0 G C x (Dr X rest W)) (h2 : c = false → WB X b0 G C rest W) : WB X b0 G C (.If e x [] p :: rest) W := wb_if hc h1 fun h => wb_go (h2 h)
theorem wb_yes {c : Bool} {x y : List Stmt} (hc : ET X b0 G C e c) (hk : c = true) (h1 : WB X b0 G C x (Dr X rest W)) : WB X b0 G C (.If e x y p :: rest) W := wb_if hc (fun _ => h1) fun h => by rw [hk] at h; cases h
theorem wb_no {c : Bool} {x y : List Stmt} (hc : ET X b0 G C e c) (hk : c = false) (h1 : WB X b0 G C y (Dr X rest W)) : WB X b0 G C (.If e x y p :: rest) W := wb_if hc (fun h => by rw [hk] at h; cases h) fun _ => h1
/-- less is known from here on -/
theorem wb_weak (h : ∀ b A s H, Sat b0 b A G C s H → ∃ A', Sat b0 b A' G' C' s H) (k : WB X b0 G' C' ss W) : WB X b0 G C ss W := fun b A s H l S => by
  obtain ⟨A', S'⟩ := h b A s H S
  exact k b A' s H l S'
theorem RepE.low {B : Hp} {A : List Addr} {H : Hp} {v : V} (h : RepE B A C H (.v t d) v) (l : u = true → t = true) : RepE B A C H (.v u d) v := Rep.mono (rg_low l) h
/-- a turn of a loop ends in the state G, C -/
def Dt (b0 : Bs) (W : De) (G : List (Option El)) (C : Cs) : De := fun b => { W b with nx := Nx b0 b G C, ct := Nx b0 b G C, bk := (W b).nx }
theorem wb_end : WB X b0 G C [] (Dt b0 W G C) := wb_nil fun b A s H l S => ⟨A, S⟩
theorem wb_contT : WB X b0 G C (.Continue p :: rest) (Dt b0 W G C) := wb_cont fun b A s H l S => ⟨A, S⟩
/-- where the ends' returns and raises ask only what stands since the base, the base may be laid anew -/
def Down (b0 : Bs) (W : De) : Prop := ∀ b c, b0.le b → b.le c → (∀ v H, (W c).rt v H → (W b).rt v H)
/-- while: a state told by a datum, a measure -/
theorem wb_while {α : Type} (Gs : α → List (Option El)) (Cf : α → Cs) (Inv : α → Prop) (μ : α → Nat) (cnd : α → Bool) (a0 : α) (h0 : Inv a0) (hG : G = Gs a0) (hC : C = Cf a0)
    (hc : ∀ a, Inv a → ET X b0 (Gs a) (Cf a) e (cnd a))
    (hb : ∀ a, Inv a → cnd a = true → WB X b0 (Gs a) (Cf a) body (fun b => { Dr X rest W b with nx := fun s H => ∃ a', Inv a' ∧ μ a' < μ a ∧ Nx b0 b (Gs a') (Cf a') s H, ct := fun s H => ∃ a', Inv a' ∧ μ a' < μ a ∧ Nx b0 b (Gs a') (Cf a') s H, bk := wB X rest (W b) }))
    (hd : ∀ a, Inv a → cnd a = false → WB X b0 (Gs a) (Cf a) rest W) (hp : PassesOwn (model X.prog X.w) X.A X.env X.xe) : WB X b0 G C (.While e body [] p :: rest) W :=
  wb_cons fun b A s H l S => ⟨_, ps_while hp wT_ok wB_ok, by
    subst hG
    subst hC
    refine ⟨fun m s H => ∃ a, Inv a ∧ μ a = m ∧ ∃ A, Sat b0 b A (Gs a) (Cf a) s H, ⟨_, a0, h0, rfl, A, S⟩, fun m s H ⟨a, ha, hm, A, S⟩ => hc a ha b A s H S _ fun H1 e1 => ?_⟩
    cases hk : cnd a with
    | false => exact hd a ha hk b A s H1 l (S.ext e1)
    | true =>
      refine ⟨fun s H => ∃ a', Inv a' ∧ μ a' < μ a ∧ Nx b0 b (Gs a') (Cf a') s H, fun s' H' ⟨a', h1, h2, h3⟩ => ⟨μ a', by omega, a', h1, rfl, h3⟩, ?_⟩
      exact hb a ha hk b A s H1 l (S.ext e1)⟩
/-- the end of a while's turn -/
theorem wb_again {α : Type} {Gs : α → List (Option El)} {Cf : α → Cs} {Inv : α → Prop} {μ : α → Nat} {a : α} {W : De} (a' : α) (h : Inv a') (hm : μ a' < μ a) (hG : G = Gs a') (hC : C = Cf a') (hn : ∀ b, (W b).nx = fun s H => ∃ a', Inv a' ∧ μ a' < μ a ∧ Nx b0 b (Gs a') (Cf a') s H) :
    WB X b0 G C [] W := wb_nil fun b A s H l S => by
  rw [hn b]
  subst hG
  subst hC
  exact ⟨a', h, hm, A, S⟩
end
end Q
namespace Q
open PySem L2

/-! ### owned objects written, made -/
section
variable {b : Bs} {A A' : List Addr} {G : List (Option El)} {C : Cs} {s : St} {H H' : Hp} {t u : Bool} {o o' : Ob} {n : Nat} {a : Addr} {ho : HO}
theorem live_set : ∀ {A : List Addr} {C : Cs} {n : Nat} {o o' : Ob}, C[n]? = some (some o) → live A (C.set n (some o')) = live A C
  | [], _, _, _, _, _ => by simp [live]
  | x :: A, [], _, _, _, _ => by simp [live]
  | x :: A, c :: C, 0, o, o', h => by
    have e : c = some o := by simpa using h
    subst e
    rfl
  | x :: A, c :: C, n + 1, o, o', h => by
    have ih := live_set (A := A) (C := C) (n := n) (o := o) (o' := o') (by simpa using h)
    cases c with
    | none => simpa [live] using ih
    | some c => simpa [live] using ih
theorem live_new : ∀ {A : List Addr} {C : Cs} {p : Addr} {o : Ob}, A.length = C.length → live (A ++ [p]) (C ++ [some o]) = live A C ++ [p]
  | [], [], p, o, _ => rfl
  | [], _ :: _, _, _, h => by cases h
  | _ :: _, [], _, _, h => by cases h
  | x :: A, c :: C, p, o, h => by
    have ih := live_new (A := A) (C := C) (p := p) (o := o) (by simpa using h)
    cases c with
    | none => simpa [live] using ih
    | some c => simpa [live] using ih
theorem nodup_get {l : List Addr} (h : l.Nodup) {i j : Nat} {x : Addr} (a : l[i]? = some x) (b : l[j]? = some x) : i = j := nd_ix h a b
theorem live_inj : ∀ {A : List Addr} {C : Cs}, (live A C).Nodup → ∀ {i j : Nat} {a : Addr} {o o' : Ob}, A[i]? = some a → C[i]? = some (some o) → A[j]? = some a → C[j]? = some (some o') → i = j
  | [], _, _, i, _, _, _, _, h, _, _, _ => by simp at h
  | x :: A, [], _, i, _, _, _, _, _, h, _, _ => by simp at h
  | x :: A, none :: C, hn, i, j, a, o, o', h1, h2, h3, h4 => by
    cases i with
    | zero => simp at h2
    | succ i => cases j with
      | zero => simp at h4
      | succ j =>
        have q := live_inj (A := A) (C := C) (by simpa [live] using hn) (by simpa using h1) (by simpa using h2) (by simpa using h3) (by simpa using h4)
        omega
  | x :: A, some c :: C, hn, i, j, a, o, o', h1, h2, h3, h4 => by
    have hn' : x ∉ live A C ∧ (live A C).Nodup := by simpa [live] using hn
    cases i with
    | zero => cases j with
      | zero => rfl
      | succ j =>
        have e : x = a := by simpa using h1
        subst e
        exact absurd (live_mem.mpr ⟨j, o', by simpa using h3, by simpa using h4⟩) hn'.1
    | succ i => cases j with
      | zero =>
        have e : x = a := by simpa using h3
        subst e
        exact absurd (live_mem.mpr ⟨i, o, by simpa using h1, by simpa using h2⟩) hn'.1
      | succ j =>
        have q := live_inj (A := A) (C := C) hn'.2 (by simpa using h1) (by simpa using h2) (by simpa using h3) (by simpa using h4)
        omega
theorem mk_set (hA : A[n]? = some a) (hC : C[n]? = some (some o)) : fz A (C.set n (some o')) (upd H a ho) = fz A C H := by
  funext c
  unfold fz
  rw [live_set hC]
  split
  · rfl
  · rename_i hn
    have : c ≠ a := fun e => hn (e ▸ live_mem.mpr ⟨n, o, hA, hC⟩)
    rw [upd_ne this]
theorem mk_new {p : Addr} (hl : A.length = C.length) (hp : p ∉ live A C) (hn : H p = none) : fz (A ++ [p]) (C ++ [some o]) (upd H p ho) = fz A C H := by
  funext c
  unfold fz
  rw [live_new hl]
  by_cases e : c = p
  · subst e
    rw [if_pos (by simp), if_neg hp, hn]
  · rw [upd_ne e]
    by_cases q : c ∈ live A C
    · rw [if_pos (by simp [q]), if_pos q]
    · rw [if_neg (by simp [q, e]), if_neg q]
theorem Sat.cellSet (S : Sat b0 b A G C s H) (hA : A[n]? = some a) (hC : C[n]? = some (some o)) (h : CellOk b.B A (C.set n (some o')) (upd H a ho) a o') : Sat b0 b A G (C.set n (some o')) s (upd H a ho) := by
  have e := mk_set (ho := ho) (H := H) (o' := o') hA hC
  have g : Go A C H A (C.set n (some o')) (upd H a ho) := ⟨List.prefix_rfl, by rw [e]; exact Evl.Ex.refl _⟩
  refine ⟨by rw [List.length_set]; exact S.len, by rw [live_set hC]; exact S.nd, S.bf, by rw [e]; exact S.ex, S.pre, fun i a' o2 h1 h2 => ?_, S.slot.imp fun _ _ r => r.go g, S.lb⟩
  by_cases hi : i = n
  · subst hi
    rw [hA] at h1
    cases h1
    have : o2 = o' := by
      rw [List.getElem?_set_self ((List.getElem?_eq_some_iff.mp hC).1)] at h2
      exact (Option.some.inj (Option.some.inj h2)).symm
    subst this
    exact h
  · rw [List.getElem?_set_ne (Ne.symm hi)] at h2
    have ne : a' ≠ a := fun q => hi (live_inj S.nd h1 h2 (q ▸ hA) hC)
    have c := S.cell i a' o2 h1 h2
    have up : upd H a ho a' = H a' := upd_ne ne
    cases o2 with
    | lst t l =>
      obtain ⟨vs, h3, h4⟩ := c
      exact ⟨vs, up.trans h3, RepL.mono (rg_ex g.ex) h4⟩
    | dk t l =>
      obtain ⟨vs, h3, h4⟩ := c
      exact ⟨vs, up.trans h3, RepK.mono (rg_ex g.ex) h4⟩
    | dt t l =>
      obtain ⟨vs, h3, h4⟩ := c
      exact ⟨vs, up.trans h3, RepT.mono (rg_ex g.ex) h4⟩
    | tup l =>
      obtain ⟨vs, h3, h4⟩ := c
      exact ⟨vs, up.trans h3, h4.imp fun _ _ r => r.go g⟩
    | ins K fs =>
      obtain ⟨dx, vs, h3, h4⟩ := c
      exact ⟨dx, vs, up.trans h3, h4.imp fun _ _ r => ⟨r.1, r.2.go g⟩⟩
theorem CellOk.go {B : Hp} {C' : Cs} (g : Go A C H A' C' H') (e : H' a = H a) {o : Ob} (c : CellOk B A C H a o) : CellOk B A' C' H' a o := by
  cases o with
  | lst t l =>
    obtain ⟨vs, h3, h4⟩ := c
    exact ⟨vs, e.trans h3, RepL.mono (rg_ex g.ex) h4⟩
  | dk t l =>
    obtain ⟨vs, h3, h4⟩ := c
    exact ⟨vs, e.trans h3, RepK.mono (rg_ex g.ex) h4⟩
  | dt t l =>
    obtain ⟨vs, h3, h4⟩ := c
    exact ⟨vs, e.trans h3, RepT.mono (rg_ex g.ex) h4⟩
  | tup l =>
    obtain ⟨vs, h3, h4⟩ := c
    exact ⟨vs, e.trans h3, h4.imp fun _ _ r => r.go g⟩
  | ins K fs =>
    obtain ⟨dx, vs, h3, h4⟩ := c
    exact ⟨dx, vs, e.trans h3, h4.imp fun _ _ r => ⟨r.1, r.2.go g⟩⟩
theorem Sat.goNew (S : Sat b0 b A G C s H) {p : Addr} (hp : H p = none) : Go A C H (A ++ [p]) (C ++ [some o]) (upd H p ho) :=
  ⟨List.prefix_append _ _, by rw [mk_new S.len (S.fresh hp) hp]; exact Evl.Ex.refl _⟩
theorem Sat.cellNew (S : Sat b0 b A G C s H) {p : Addr} (hp : H p = none) (h : CellOk b.B (A ++ [p]) (C ++ [some o]) (upd H p ho) p o) : Sat b0 b (A ++ [p]) G (C ++ [some o]) s (upd H p ho) := by
  have g : Go A C H (A ++ [p]) (C ++ [some o]) (upd H p ho) := S.goNew hp
  have pl := S.fresh hp
  refine ⟨by simp [S.len], ?_, S.bf, by rw [mk_new S.len pl hp]; exact S.ex, S.pre.trans g.pre, fun i a' o2 h1 h2 => ?_, S.slot.imp fun _ _ r => r.go g, S.lb⟩
  · rw [live_new S.len, List.nodup_append]
    refine ⟨S.nd, by simp, fun x hx y hy e => ?_⟩
    have hy' : y = p := by simpa using hy
    exact pl (by rw [← hy', ← e]; exact hx)
  · by_cases hi : i < A.length
    · rw [List.getElem?_append_left hi] at h1
      rw [List.getElem?_append_left (by rw [← S.len]; exact hi)] at h2
      have c := S.cell i a' o2 h1 h2
      refine c.go g (upd_ne fun q => pl (q ▸ live_mem.mpr ⟨i, o2, h1, h2⟩))
    · have l1 := (List.getElem?_eq_some_iff.mp h1).1
      have hi' : i = A.length := by simp at l1; omega
      subst hi'
      have e1 : p = a' := by simpa using h1
      have e2 : o = o2 := by
        rw [S.len] at h2
        simpa using h2
      subst e1
      subst e2
      exact h
/-- a value is laid by -/
theorem Sat.atNew (S : Sat b0 b A G C s H) {p : Addr} : RepE b.B (A ++ [p]) (C ++ [some o]) H' (.at C.length) (.ref p) := ⟨p, by rw [← S.len]; simp, rfl⟩
end

/-! ### fields -/
def putE (f : Str) (r : El) : List (Str × El) → List (Str × El)
  | [] => [(f, r)]
  | (g, x) :: q => if g = f then (g, r) :: q else (g, x) :: putE f r q
theorem putE_rep {R : El → V → Prop} {f : Str} {r : El} {v : V} (h : R r v) : ∀ {fs : List (Str × El)} {gs : List (Str × V)}, All2 (fun p q => p.1 = q.1 ∧ R p.2 q.2) fs gs → All2 (fun p q => p.1 = q.1 ∧ R p.2 q.2) (putE f r fs) (putF f v gs)
  | _, _, .nil => .cons ⟨rfl, h⟩ .nil
  | (g, x) :: fs, (g', y) :: gs, .cons ⟨e, q⟩ t => by
    have e' : g = g' := e
    subst e'
    unfold putE putF
    split
    · exact .cons ⟨rfl, h⟩ t
    · exact .cons ⟨rfl, q⟩ (putE_rep h t)
theorem look_rep {R : El → V → Prop} {f : Str} {r : El} : ∀ {fs : List (Str × El)} {gs : List (Str × V)}, All2 (fun p q => p.1 = q.1 ∧ R p.2 q.2) fs gs → fs.lookup f = some r → ∃ v, gs.lookup f = some v ∧ R r v
  | _, _, .nil, h => by simp at h
  | (g, x) :: fs, (g', y) :: gs, .cons ⟨e, q⟩ t, h => by
    have e' : g = g' := e
    subst e'
    rw [List.lookup_cons] at h ⊢
    by_cases hc : f == g
    · rw [hc] at h ⊢
      cases h
      exact ⟨y, rfl, q⟩
    · have hc' : (f == g) = false := by simpa using hc
      rw [hc'] at h ⊢
      exact look_rep t h
theorem look_none {R : El → V → Prop} {f : Str} : ∀ {fs : List (Str × El)} {gs : List (Str × V)}, All2 (fun p q => p.1 = q.1 ∧ R p.2 q.2) fs gs → fs.lookup f = none → gs.lookup f = none
  | _, _, .nil, _ => rfl
  | (g, x) :: fs, (g', y) :: gs, .cons ⟨e, q⟩ t, h => by
    have e' : g = g' := e
    subst e'
    rw [List.lookup_cons] at h ⊢
    by_cases hc : f == g
    · rw [hc] at h
      cases h
    · have hc' : (f == g) = false := by simpa using hc
      rw [hc'] at h ⊢
      exact look_none t h
theorem lookF_rep {M : Hp} {f : Str} {d : D} : ∀ {fs : List (Str × D)} {gs : List (Str × V)}, RepF M fs gs → fs.lookup f = some d → ∃ v, gs.lookup f = some v ∧ Rep M d v
  | [], _, _, h => by simp at h
  | (g, x) :: fs, _, ⟨v, r, e, h1, h2⟩, h => by
    subst e
    rw [List.lookup_cons] at h ⊢
    by_cases hc : f == g
    · rw [hc] at h
      cases h
      exact ⟨v, by simp [hc], h1⟩
    · have hc' : (f == g) = false := by simpa using hc
      rw [hc'] at h
      simp only [hc']
      exact lookF_rep h2 h
theorem lookF_none {M : Hp} {f : Str} : ∀ {fs : List (Str × D)} {gs : List (Str × V)}, RepF M fs gs → fs.lookup f = none → gs.lookup f = none
  | [], _, h, _ => by rw [show _ = [] from h] <;> rfl
  | (g, x) :: fs, _, ⟨v, r, e, h1, h2⟩, h => by
    subst e
    rw [List.lookup_cons] at h ⊢
    by_cases hc : f == g
    · rw [hc] at h
      cases h
    · have hc' : (f == g) = false := by simpa using hc
      rw [hc'] at h
      simp only [hc']
      exact lookF_none h2 h
section
variable {X : Cx} {b0 : Bs} {G : List (Option El)} {C : Cs} {e o : Expr} {p p' : Pos} {r : El} {t : Bool} {d : D} {f : Str} {K : Addr}
/-- o.f, o a plain instance -/
theorem ep_fld {fs : List (Str × D)} (ho : EP X b0 G C o (.v t (.ins K fs))) (c : Cls X.K K) (n : NoAttr X.K K f) (h : fs.lookup f = some d) (hb : attributeBase o f X.env (eval o X.env) = eval o X.env := by rfl) : EP X b0 G C (.Attribute o f p) (.v t d) :=
  fun b A s H S k q => ⟨_, pe_fld wE_ok hb, ho b A s H S _ fun v H1 e1 ⟨a, dx, fvs, ev, ea, hf⟩ => by
    obtain ⟨y, h1, h2⟩ := lookF_rep hf h
    exact ⟨a, K, dx, fvs, y, ev, mk_of (rg_sub _ _ ea), c, n, h1, q y H1 e1 h2⟩⟩
/-- o.f, o an owned instance -/
theorem ep_fldC {fs : List (Str × El)} {m : Nat} (ho : EP X b0 G C o (.at m)) (hC : C[m]? = some (some (.ins K fs))) (c : Cls X.K K) (n : NoAttr X.K K f) (h : fs.lookup f = some r) (hb : attributeBase o f X.env (eval o X.env) = eval o X.env := by rfl) : EP X b0 G C (.Attribute o f p) r :=
  fun b A s H S k q => ⟨_, pe_fld wE_ok hb, ho b A s H S _ fun v H1 e1 ⟨a, ea, ev⟩ => by
    obtain ⟨dx, fvs, h3, h4⟩ := (S.ext e1).cell m a _ ea hC
    obtain ⟨y, h1, h2⟩ := look_rep (R := RepE b.B A C H1) h4 h
    exact ⟨a, K, dx, fvs, y, ev, h3, c, n, h1, q y H1 e1 h2⟩⟩
/-- o.f = e, o an owned instance -/
theorem st_fld {fs : List (Str × El)} {m : Nat} (he : EP X b0 G C e r) (ho : EP X b0 G C o (.at m)) (hC : C[m]? = some (some (.ins K fs))) (c : Cls X.K K) (n : NoAttr X.K K f) (hl : fs.length < 1000 := by decide)
    (hs : swapsWith e (some (.Attribute o f p')) p.line X.env = pure false := by rfl) : ST X b0 G C (.Assign [.Attribute o f p'] e p) G (C.set m (some (.ins K (putE f r fs)))) :=
  fun b A s H D S k => ⟨_, ps_fld wE_ok wE_ok hs, he b A s H S _ fun v H1 e1 r1 => ho b A s H1 (S.ext e1) _ fun w H2 e2 ⟨a, ea, ev⟩ => by
    have S2 := (S.ext e1).ext e2
    obtain ⟨dx, fvs, h3, h4⟩ := S2.cell m a _ ea hC
    have hl' : fvs.length < 1000 := by rw [← h4.length]; exact hl
    refine ⟨a, K, dx, fvs, ev, h3, c, n, hl', k A s _ (S2.cellSet ea hC ?_)⟩
    have e := mk_set (H := H2) (ho := .ins K dx (putF f v fvs)) (o' := .ins K (putE f r fs)) ea hC
    have g : Go A C H2 A (C.set m (some (.ins K (putE f r fs)))) (upd H2 a (.ins K dx (putF f v fvs))) := ⟨List.prefix_rfl, by rw [e]; exact Evl.Ex.refl _⟩
    exact ⟨dx, putF f v fvs, upd_same, (putE_rep (R := RepE b.B A C H2) (r1.go (Go.of e2)) h4).imp fun _ _ z => ⟨z.1, z.2.go g⟩⟩⟩
end
end Q
namespace Q
open PySem L2

/-! ### what is known as plain data -/
/-- the heap's part since B -/
def nu (B H : Hp) : Hp := fun a => if (B a).isNone = true then H a else none
def vw (t : Bool) (B H : Hp) : Hp := if t = true then nu B H else H
theorem nu_sub {B H : Hp} : Ex (nu B H) H := fun a o h => by
  unfold nu at h
  split at h
  · exact h
  · cases h
theorem vw_sub {t : Bool} {B H : Hp} : Ex (vw t B H) H := by
  unfold vw
  cases t with
  | true => exact nu_sub
  | false => exact Evl.Ex.refl _
def toD (t : Bool) (C : Cs) : Nat → El → Option D
  | _, .v u d => if (!t || u || (flat d).isSome) = true then some d else none
  | 0, .at _ => none
  | k + 1, .at n => match C[n]? with
    | some (some (.lst u l)) => if (!t || u) = true then some (.lst l) else none
    | some (some (.dk u l)) => if (!t || u) = true then some (.dk l) else none
    | some (some (.dt u l)) => if (!t || u) = true then some (.dt l) else none
    | some (some (.tup l)) => (l.mapM (toD t C k)).map D.tup
    | some (some (.ins K fs)) => (fs.mapM fun p => (toD t C k p.2).map fun d => (p.1, d)).map (D.ins K)
    | _ => none
section
variable {b : Bs} {A : List Addr} {G : List (Option El)} {C : Cs} {s : St} {H : Hp} {t u : Bool}
theorem vw_rg (h : (!t || u) = true) : Ex (rg u b.B A C H) (vw t b.B H) := fun a o e => by
  unfold vw
  cases t with
  | false => exact mk_of (rg_sub _ _ e)
  | true =>
    have hu : u = true := by simpa using h
    subst hu
    have e' : nw b.B A C H a = some o := e
    unfold nw at e'
    show nu b.B H a = some o
    unfold nu
    split at e'
    · rename_i hb
      rw [if_pos hb]
      exact mk_of e'
    · cases e'
theorem Sat.liveB (S : Sat b0 b A G C s H) {n : Nat} {a : Addr} {o : Ob} (hA : A[n]? = some a) (hC : C[n]? = some (some o)) : b.B a = none := by
  cases e : b.B a with
  | none => rfl
  | some o' => exact absurd (live_mem.mpr ⟨n, o, hA, hC⟩) (mk_not (S.ex a o' (S.bf a o' e)))
theorem Sat.vwAt (S : Sat b0 b A G C s H) {n : Nat} {a : Addr} {o : Ob} {ho : HO} (hA : A[n]? = some a) (hC : C[n]? = some (some o)) (h : H a = some ho) : vw t b.B H a = some ho := by
  unfold vw
  cases t with
  | false => exact h
  | true =>
    show (if (b.B a).isNone = true then _ else _) = _
    rw [S.liveB hA hC]
    exact h
theorem mapM_some {α β : Type} {f : α → Option β} : ∀ {l : List α} {r : List β}, l.mapM f = some r → All2 (fun a b => f a = some b) l r
  | [], r, h => by
    have e : r = [] := by simpa using h.symm
    subst e
    exact .nil
  | a :: l, r, h => by
    rw [List.mapM_cons] at h
    cases e : f a with
    | none => rw [e] at h; cases h
    | some b =>
      rw [e] at h
      cases e2 : l.mapM f with
      | none =>
        rw [e2] at h
        cases h
      | some r' =>
        rw [e2] at h
        have e3 : b :: r' = r := by simpa using h
        subst e3
        exact .cons e (mapM_some e2)
theorem toD_ok (S : Sat b0 b A G C s H) : ∀ {k : Nat} {r : El} {d : D} {v : V}, toD t C k r = some d → RepE b.B A C H r v → Rep (vw t b.B H) d v
  | k, .v u d, d', v, h, q => by
    have h' : (if (!t || u || (flat d).isSome) = true then some d else none) = some d' := by cases k <;> exact h
    split at h'
    · rename_i hc
      cases h'
      rcases Bool.or_eq_true_iff.mp hc with hc | hc
      · exact Rep.mono (vw_rg hc) q
      · obtain ⟨x, hx⟩ := Option.isSome_iff_exists.mp hc
        exact (flat_rep hx).mpr ((flat_rep hx).mp q)
    · cases h'
  | 0, .at _, _, _, h, _ => by cases h
  | k + 1, .at n, d, v, h, ⟨a, ea, ev⟩ => by
    subst ev
    unfold toD at h
    cases hC : C[n]? with
    | none => rw [hC] at h; cases h
    | some x =>
      cases x with
      | none => rw [hC] at h; cases h
      | some o =>
        rw [hC] at h
        have c := S.cell n a o ea hC
        cases o with
        | lst u l =>
          obtain ⟨vs, h1, h2⟩ := c
          dsimp only at h
          split at h
          · rename_i hc
            cases h
            exact ⟨a, vs, rfl, S.vwAt ea hC h1, RepL.mono (vw_rg hc) h2⟩
          · cases h
        | dk u l =>
          obtain ⟨vs, h1, h2⟩ := c
          dsimp only at h
          split at h
          · rename_i hc
            cases h
            exact ⟨a, vs, rfl, .inl (S.vwAt ea hC h1), RepK.mono (vw_rg hc) h2⟩
          · cases h
        | dt u l =>
          obtain ⟨vs, h1, h2⟩ := c
          dsimp only at h
          split at h
          · rename_i hc
            cases h
            exact ⟨a, vs, rfl, .inl (S.vwAt ea hC h1), RepT.mono (vw_rg hc) h2⟩
          · cases h
        | tup l =>
          obtain ⟨vs, h1, h2⟩ := c
          dsimp only at h
          cases e : l.mapM (toD t C k) with
          | none => rw [e] at h; cases h
          | some ds =>
            rw [e] at h
            cases h
            refine ⟨a, vs, rfl, S.vwAt ea hC h1, ?_⟩
            have go : ∀ {l : List El} {ds : List D} {vs : List V}, All2 (fun x d => toD t C k x = some d) l ds → All2 (RepE b.B A C H) l vs → RepL (vw t b.B H) ds vs := by
              intro l ds vs h1
              induction h1 generalizing vs with
              | nil =>
                intro h2
                cases h2
                rfl
              | cons hx _ ih =>
                intro h2
                cases h2 with
                | cons r1 r2 => exact ⟨_, _, rfl, toD_ok S hx r1, ih r2⟩
            exact go (mapM_some e) h2
        | ins K fs =>
          obtain ⟨dx, vs, h1, h2⟩ := c
          dsimp only at h
          cases e : fs.mapM (fun p => (toD t C k p.2).map fun d => (p.1, d)) with
          | none => rw [e] at h; cases h
          | some ds =>
            rw [e] at h
            cases h
            refine ⟨a, dx, vs, rfl, S.vwAt ea hC h1, ?_⟩
            have go : ∀ {l : List (Str × El)} {ds : List (Str × D)} {vs : List (Str × V)}, All2 (fun (p : Str × El) (q : Str × D) => ((toD t C k p.2).map fun d => (p.1, d)) = some q) l ds → All2 (FldE b.B A C H) l vs → RepF (vw t b.B H) ds vs := by
              intro l ds vs h1
              induction h1 generalizing vs with
              | nil =>
                intro h2
                cases h2
                rfl
              | @cons p q l' r' hx _ ih =>
                intro h2
                cases h2 with
                | cons r1 r2 =>
                  rename_i y vs'
                  obtain ⟨g, x⟩ := p
                  obtain ⟨g', y⟩ := y
                  obtain ⟨r0, r1⟩ := r1
                  have r0' : g = g' := r0
                  subst r0'
                  cases e5 : toD t C k x with
                  | none => rw [e5] at hx; cases hx
                  | some d5 =>
                    rw [e5] at hx
                    cases hx
                    exact ⟨_, _, rfl, toD_ok S e5 r1, ih r2⟩
            exact go (mapM_some e) h2
/-- what arguments are, as plain data -/
inductive Vw (C : Cs) : List El → List D → Prop
  | nil : Vw C [] []
  | v {t d rs ds} (r : Vw C rs ds) : Vw C (El.v t d :: rs) (d :: ds)
  | at {n d rs ds} (k : Nat) (h : toD false C k (.at n) = some d) (r : Vw C rs ds) : Vw C (El.at n :: rs) (d :: ds)
theorem Vw.rep (S : Sat b0 b A G C s H) : ∀ {rs : List El} {ds : List D} {vs : List V}, Vw C rs ds → All2 (RepE b.B A C H) rs vs → RepL H ds vs
  | _, _, _, .nil, .nil => rfl
  | _, _, _, .v r, .cons h q => ⟨_, _, rfl, Rep.mono (fun _ _ e => mk_of (rg_sub _ _ e)) h, r.rep S q⟩
  | _, _, _, .at k e r, .cons h q => ⟨_, _, rfl, toD_ok (t := false) S e h, r.rep S q⟩
end

/-! ### promises -/
/-- what is handed back: d, all of it made since H -/
def PP (H : Hp) (d : D) (k : VK) : Prop := ∀ v H', Ex H H' → Rep (nu H H') d v → k v H'
/-- a def that changes nothing: from data a, told as args a, where pre, hands back res a -/
def spP {α : Type} (args : α → List D) (pre : α → Prop) (res : α → D) : Sp := fun vs H k _ => ∃ a, RepL H (args a) vs ∧ pre a ∧ PP H (res a) k
/-- .. or raises an error of the class at bad a, without fields -/
def spR {α : Type} (args : α → List D) (pre : α → Prop) (bad : α → Option Addr) (res : α → D) : Sp := fun vs H k E => ∃ a, RepL H (args a) vs ∧ pre a ∧
  match bad a with
  | none => PP H (res a) k
  | some c => ∀ H', Ex H H' → E (.ref c) none H'
structure Gf (P : Program) (w : World) (K : PySem.W.Frag) (mg : Str → Option Value) (base : Heap) (x : Str) (k : Nat) (dd : List D) (sp : Sp) : Prop where
  ex : ∃ (f : Addr) (fd : FuncData) (ps : List Str) (ds : List Value) (dvs : List V), FnOk P w K mg base (L2.CX P w) k f fd ps sp ∧ mg x = some (.ref f) ∧ PySem.W.keepIn K (.ref f) = true ∧ Binds K fd ps ds ∧ Vals dvs ds ∧ ∀ H, RepL H dd dvs
structure Gm (P : Program) (w : World) (K : PySem.W.Frag) (mg : Str → Option Value) (base : Heap) (c : Addr) (m : Str) (k : Nat) (dd : List D) (sp : Sp) : Prop where
  cl : Cls K c
  ex : ∃ (f : Addr) (fd : FuncData) (ps : List Str) (ds : List Value) (dvs : List V), FnOk P w K mg base (L2.CX P w) k f fd ps sp ∧ Meth K c m f ∧ Binds K fd ps ds ∧ Vals dvs ds ∧ ∀ H, RepL H dd dvs
/-- a class called: sp its promise as a whole -/
def spMake (c : Addr) (spi : Sp) : Sp := fun vs H k E => ∀ x dx, H x = none → H dx = none → dx ≠ x → spi (.ref x :: vs) (upd (upd H dx (.own x)) x (.ins c dx [])) (fun v H2 => v = .non ∧ k (.ref x) H2) E
structure Gc (P : Program) (w : World) (K : PySem.W.Frag) (mg : Str → Option Value) (base : Heap) (x : Str) (k : Nat) (dd : List D) (sp : Sp) : Prop where
  ex : ∃ (c f : Addr) (fd : FuncData) (ps : List Str) (ds : List Value) (dvs : List V) (spi : Sp), FnOk P w K mg base (L2.CX P w) k f fd ps spi ∧ Mk K c f ∧ mg x = some (.ref c) ∧ Binds K fd ps ds ∧ Vals dvs ds ∧ (∀ H, RepL H dd dvs) ∧ ∀ vs H k E, sp vs H k E → spMake c spi vs H k E
section
variable {X : Cx} {G : List (Option El)} {C : Cs} {e o : Expr} {es : List Expr} {rs : List El} {p apos : Pos} {r ro : El} {k : Nat} {sp : Sp} {dd : List D} {x m : Str} {c : Addr}
theorem pe_methSD {pl : Sem Bool} {CX : CXT} {k : Nat} {f C : Addr} {fd : FuncData} {ps : List Str} {sp : Sp} {dvs : List V} {ds : List Value} {E : St → XK} {ta : TE} {t : TA} {pos : Pos} (he : PE X o ta) (c : Cls X.K C) (hm : Meth X.K C m f) (F : FnOk X.prog X.w X.K X.mg X.base CX k f fd ps sp) (hr : Room k X.A) (hb : Binds X.K fd ps ds) (hd : Vals dvs ds) (hx : ∀ σ, PassesAt CX X σ (E σ)) (ha : PA X (e :: es) t)
    (hst : starEach (e :: es) X.env = (false, eval e X.env) :: starEach es X.env := by rfl) (hpl : (backTo pos (starEach es X.env)).any (·.1) = false := by rfl)
    (ht : eval (.Call (.Attribute o m apos) (e :: es) [] pos) X.env = (do
      let ov ← eval o X.env
      standAt apos.atName
      let (f, first) ← holding [ov] (getMethod ov m pl)
      callWith pos f first (backTo pos (starEach (e :: es) X.env)) (backToKw pos (keywordEach [] X.env))) := by rfl) :
    PE X (.Call (.Attribute o m apos) (e :: es) [] pos) (fun σ H Q => ta σ H fun x H1 => ∃ a dx fs, x = .ref a ∧ H1 a = some (.ins C dx fs) ∧ fs.lookup m = none ∧ t σ H1 fun vs H2 => sp (x :: (vs ++ dvs)) H2 Q (E σ)) := by
  refine ⟨fun pins s σ H Q I h => ?_⟩
  refine PySem.W.methodCall_KW (pl := pl) (thn (he.run pins s σ H _ I h) fun u s1 ⟨x, H1, I1, rx, a, dx, fs, ex, ea, l, q⟩ => ?_) ht
  subst ex
  obtain rfl : u = Value.ref a := rx
  refine getmeth_ok I1 ea c hm l ?_
  refine PySem.W.callWith_K (first := [.ref a]) (h₀ := X.base) I.ok.mod.kin hm.kp (thn (ha.run pos pins s1 σ H1 _ I1 q) fun us s2 ⟨vs, H2, I2, r, q2⟩ => ⟨I2.kIn, ?_⟩) hst hpl
  exact run_fnSD (us := .ref a :: us) (vs := .ref a :: vs) F hr hb hd (hx σ) I2 (.cons rfl r) q2
theorem pe_methSD0 {pl : Sem Bool} {CX : CXT} {k : Nat} {f C : Addr} {fd : FuncData} {ps : List Str} {sp : Sp} {dvs : List V} {ds : List Value} {E : St → XK} {ta : TE} {pos : Pos} (he : PE X o ta) (c : Cls X.K C) (hm : Meth X.K C m f) (F : FnOk X.prog X.w X.K X.mg X.base CX k f fd ps sp) (hr : Room k X.A) (hb : Binds X.K fd ps ds) (hd : Vals dvs ds) (hx : ∀ σ, PassesAt CX X σ (E σ))
    (ht : eval (.Call (.Attribute o m apos) [] [] pos) X.env = (do
      let ov ← eval o X.env
      standAt apos.atName
      let (f, first) ← holding [ov] (getMethod ov m pl)
      callWith pos f first (backTo pos (starEach [] X.env)) (backToKw pos (keywordEach [] X.env))) := by rfl) :
    PE X (.Call (.Attribute o m apos) [] [] pos) (fun σ H Q => ta σ H fun x H1 => ∃ a dx fs, x = .ref a ∧ H1 a = some (.ins C dx fs) ∧ fs.lookup m = none ∧ sp (x :: dvs) H1 Q (E σ)) := by
  refine ⟨fun pins s σ H Q I h => ?_⟩
  refine PySem.W.methodCall_KW (pl := pl) (thn (he.run pins s σ H _ I h) fun u s1 ⟨x, H1, I1, rx, a, dx, fs, ex, ea, l, q⟩ => ?_) ht
  subst ex
  obtain rfl : u = Value.ref a := rx
  refine getmeth_ok I1 ea c hm l ?_
  exact PySem.W.callWith_K0 (first := [.ref a]) I1.kIn hm.kp (run_fnSD (us := [.ref a]) (vs := [.ref a]) F hr hb hd (hx σ) I1 (.cons rfl .nil) q)
theorem run_makeSD {CX : CXT} {k : Nat} {f C : Addr} {fd : FuncData} {ps : List Str} {sp : Sp} {dvs : List V} {ds : List Value} {E : St → XK} {pins : List (Addr × Obj)} {σ : St} {H : Hp} {s : Shared} {Q : VK} {us : List Value} {vs : List V} (M : Mk X.K C f) (F : FnOk X.prog X.w X.K X.mg X.base CX k f fd ps sp) (hr : Room (k + 1) X.A) (hb : Binds X.K fd ps ds) (hd : Vals dvs ds)
    (hx : ∀ σ, PassesAt CX X σ (E σ)) (I : Inv X pins σ H s) (r : Vals vs us)
    (h : spMake C sp (vs ++ dvs) H Q (E σ)) :
    wpAny (model X.prog X.w) X.A (call (.ref C) us) (L2.EP X pins σ Q) X.xe s := by
  have hq := h (s.heap.objs.size + 1) s.heap.objs.size (I.hok.fresh (Nat.le_succ _)) (I.hok.fresh (Nat.le_refl _)) (Nat.ne_of_lt (Nat.lt_succ_self _))
  have I2 := Inv.made (C := C) I
  have r2 : Vals (V.ref (s.heap.objs.size + 1) :: (vs ++ dvs)) (Value.ref (s.heap.objs.size + 1) :: (us ++ ds)) := .cons rfl (r.append hd)
  have hl : (Value.ref (s.heap.objs.size + 1) :: us ++ ds).length = ps.length := by
    have e := r2.length
    rw [F.len _ _ _ _ hq] at e
    exact e.symm
  refine wpAny_call (make_map (f := f) I.kIn M.makes M.init (beq_iff_eq.mp M.fn) (codeAny_mono (F.run _ X.stack _ _ ⟨Value.ref (s.heap.objs.size + 1) :: us, []⟩ (Value.ref (s.heap.objs.size + 1) :: (us ++ ds)) _ _ (E σ) (hr.make C us [])
    (I2.env0.make C us []) (hb _ (Value.ref (s.heap.objs.size + 1) :: us) I2.kIn hl) r2 hq) fun r s' hq' => ?_))
  cases r with
  | error e => exact hx σ pins _ _ e s' I2 hq'
  | ok fl =>
    cases fl with
    | ret u =>
      obtain ⟨v, H', I3, rv, ev, q3⟩ := I2.after hq'
      subst ev
      exact ⟨rv, ⟨V.ref (s.heap.objs.size + 1), H', I3, rfl, q3⟩⟩
    | next => exact False.elim hq'
    | brk => exact False.elim hq'
    | cont => exact False.elim hq'
end
end Q
namespace Q
open PySem L2
theorem RepL.append {M : Hp} : ∀ {ds es : List D} {vs ws : List V}, RepL M ds vs → RepL M es ws → RepL M (ds ++ es) (vs ++ ws)
  | [], _, _, _, h, q => by rw [show _ = [] from h]; exact q
  | d :: ds, es, _, ws, ⟨v, r, e, h1, h2⟩, q => by
    subst e
    exact ⟨v, r ++ ws, rfl, h1, h2.append q⟩
/-- what is new since H is new since the base, and not owned -/
theorem Sat.nuRg {b0 b : Bs} {A : List Addr} {G : List (Option El)} {C : Cs} {s : St} {H H' : Hp} {t : Bool} (S : Sat b0 b A G C s H) : Ex (nu H H') (rg t b.B A C H') := fun a o h => by
  unfold nu at h
  split at h
  · rename_i hb
    have hn : H a = none := by simpa using hb
    have e1 : fz A C H' a = some o := by rw [mk_at (S.fresh hn)]; exact h
    unfold rg
    cases t with
    | false => exact e1
    | true =>
      show (if (b.B a).isNone = true then _ else _) = _
      rw [S.freshB hn]
      exact e1
  · cases h
/-- no exception is let out of here, or what is wanted of it is W -/
abbrev WX := L2.WX
section
variable {X : Cx} {W : WX} {G : List (Option El)} {C : Cs} {e o : Expr} {es : List Expr} {rs : List El} {p apos : Pos} {r ro : El} {k : Nat} {sp : Sp} {dd : List D} {x m : Str} {c : Addr} {t : Bool}
/-- what a call by values tells: a value r -/
def CT (b0 : Bs) (W : WX) (G : List (Option El)) (C : Cs) (rs : List El) (dd : List D) (sp : Sp) (r : El) : Prop :=
  ∀ (b : Bs) (A : List Addr) (s : St) (H : Hp) (vs dvs : List V), Sat b0 b A G C s H → All2 (RepE b.B A C H) rs vs → RepL H dd dvs → ∀ k : VK, (∀ v H', Ex H H' → RepE b.B A C H' r v → k v H') → sp (vs ++ dvs) H k fun cls d H' => W cls d s H'
/-- f(e, ..), f an own def -/
theorem ep_call (tk : Takes X W) (F : Gf X.prog X.w X.K X.mg X.base x k dd sp) (hr : Room k X.A) (hg : Gl X x) (ha : EA X b0 G C (e :: es) rs) (h : CT b0 W G C rs dd sp r) {p2 : Pos}
    (hdb : (x == ("__debug__" : Str)) = false := by decide) (he : starEach (e :: es) X.env = (false, eval e X.env) :: starEach es X.env := by rfl) (hpl : (backTo p (starEach es X.env)).any (·.1) = false := by rfl) : EP X b0 G C (.Call (.Name x p2) (e :: es) [] p) r := by
  obtain ⟨f, fd, ps, ds, dvs, F, hm, hk, hb, hd, hD⟩ := F.ex
  exact fun b A s H S q hq => ⟨_, pe_callSD F hr hg hm hk hb hd (passAt tk) wA_ok hdb he hpl, ha b A s H S _ fun vs H1 e1 r1 => h b A s H1 vs dvs (S.ext e1) r1 (hD H1) q fun v H2 e2 r2 => hq v H2 (e1.trans e2) r2⟩
/-- C(e, ..), C an own class -/
theorem ep_make (tk : Takes X W) (F : Gc X.prog X.w X.K X.mg X.base x k dd sp) (hr : Room (k + 1) X.A) (hg : Gl X x) (ha : EA X b0 G C (e :: es) rs) (h : CT b0 W G C rs dd sp r) {p2 : Pos}
    (hdb : (x == ("__debug__" : Str)) = false := by decide) (he : starEach (e :: es) X.env = (false, eval e X.env) :: starEach es X.env := by rfl) (hpl : (backTo p (starEach es X.env)).any (·.1) = false := by rfl) : EP X b0 G C (.Call (.Name x p2) (e :: es) [] p) r := by
  obtain ⟨c, f, fd, ps, ds, dvs, spi, F, M, hm, hb, hd, hD, hi⟩ := F.ex
  have pe : PE X (.Call (.Name x p2) (e :: es) [] p) (fun s H q => wA X (e :: es) s H fun vs H1 => spMake c spi (vs ++ dvs) H1 q (WE W s)) := by
    refine ⟨fun pins s σ H Q I h => ?_⟩
    refine wpAny_Call_Name_kw (ld_glob I hg hm ?_ hdb)
    refine PySem.W.callWith_K (h₀ := X.base) I.ok.mod.kin M.kp (thn (wA_ok.run p pins s σ H _ I h) fun us s1 ⟨vs, H1, I1, r, q⟩ => ⟨I1.kIn, ?_⟩) he hpl
    exact run_makeSD M F hr hb hd (passAt tk) I1 r q
  exact fun b A s H S q hq => ⟨_, pe, ha b A s H S _ fun vs H1 e1 r1 => hi _ _ _ _ (h b A s H1 vs dvs (S.ext e1) r1 (hD H1) q fun v H2 e2 r2 => hq v H2 (e1.trans e2) r2)⟩
theorem ep_make0 (tk : Takes X W) (F : Gc X.prog X.w X.K X.mg X.base x k dd sp) (hr : Room (k + 1) X.A) (hg : Gl X x) (h : CT b0 W G C [] dd sp r) {p2 : Pos}
    (hdb : (x == ("__debug__" : Str)) = false := by decide) : EP X b0 G C (.Call (.Name x p2) [] [] p) r := by
  obtain ⟨c, f, fd, ps, ds, dvs, spi, F, M, hm, hb, hd, hD, hi⟩ := F.ex
  have pe : PE X (.Call (.Name x p2) [] [] p) (fun s H q => spMake c spi dvs H q (WE W s)) := by
    refine ⟨fun pins s σ H Q I h => ?_⟩
    refine wpAny_Call_Name_kw (ld_glob I hg hm ?_ hdb)
    exact PySem.W.callWith_K0 I.kIn M.kp (run_makeSD (us := []) (vs := []) M F hr hb hd (passAt tk) I .nil h)
  exact fun b A s H S q hq => ⟨_, pe, hi _ _ _ _ (h b A s H [] dvs S .nil (hD H) q hq)⟩
/-- what the object o is: an instance of the class at c, without an attribute m -/
def Inst (C : Cs) (ro : El) (c : Addr) (m : Str) : Prop :=
  (∃ t fs, ro = .v t (.ins c fs) ∧ fs.lookup m = none) ∨ ∃ n fs, ro = .at n ∧ C[n]? = some (some (.ins c fs)) ∧ fs.lookup m = none
theorem Inst.at_ {b : Bs} {A : List Addr} {s : St} {H : Hp} {v : V} (i : Inst C ro c m) (S : Sat b0 b A G C s H) (h : RepE b.B A C H ro v) : ∃ a dx fs, v = .ref a ∧ H a = some (.ins c dx fs) ∧ fs.lookup m = none := by
  rcases i with ⟨t, fs, rfl, hl⟩ | ⟨n, fs, rfl, hC, hl⟩
  · obtain ⟨a, dx, fvs, ev, ea, hf⟩ := h
    exact ⟨a, dx, fvs, ev, mk_of (rg_sub _ _ ea), lookF_none hf hl⟩
  · obtain ⟨a, ea, ev⟩ := h
    obtain ⟨dx, fvs, h3, h4⟩ := S.cell n a _ ea hC
    exact ⟨a, dx, fvs, ev, h3, look_none (R := RepE b.B A C H) h4 hl⟩
/-- o.m(e, ..) -/
theorem ep_meth {pl : Sem Bool} (tk : Takes X W) (F : Gm X.prog X.w X.K X.mg X.base c m k dd sp) (hr : Room k X.A) (ho : EP X b0 G C o ro) (hi : Inst C ro c m) (ha : EA X b0 G C (e :: es) rs) (h : CT b0 W G C (ro :: rs) dd sp r)
    (hst : starEach (e :: es) X.env = (false, eval e X.env) :: starEach es X.env := by rfl) (hpl : (backTo p (starEach es X.env)).any (·.1) = false := by rfl)
    (ht : eval (.Call (.Attribute o m apos) (e :: es) [] p) X.env = (do
      let ov ← eval o X.env
      standAt apos.atName
      let (f, first) ← holding [ov] (getMethod ov m pl)
      callWith p f first (backTo p (starEach (e :: es) X.env)) (backToKw p (keywordEach [] X.env))) := by rfl) : EP X b0 G C (.Call (.Attribute o m apos) (e :: es) [] p) r := by
  obtain ⟨f, fd, ps, ds, dvs, F', hm, hb, hd, hD⟩ := F.ex
  exact fun b A s H S q hq => ⟨_, pe_methSD (pl := pl) wE_ok F.cl hm F' hr hb hd (passAt tk) wA_ok hst hpl ht, ho b A s H S _ fun v H1 e1 r1 => by
    obtain ⟨a, dx, fs, ev, ea, el⟩ := hi.at_ (S.ext e1) r1
    exact ⟨a, dx, fs, ev, ea, el, ha b A s H1 (S.ext e1) _ fun vs H2 e2 r2 => h b A s H2 (v :: vs) dvs ((S.ext e1).ext e2) (.cons (r1.go (Go.of e2)) r2) (hD H2) q fun w H3 e3 r3 => hq w H3 ((e1.trans e2).trans e3) r3⟩⟩
theorem ep_meth0 {pl : Sem Bool} (tk : Takes X W) (F : Gm X.prog X.w X.K X.mg X.base c m k dd sp) (hr : Room k X.A) (ho : EP X b0 G C o ro) (hi : Inst C ro c m) (h : CT b0 W G C [ro] dd sp r)
    (ht : eval (.Call (.Attribute o m apos) [] [] p) X.env = (do
      let ov ← eval o X.env
      standAt apos.atName
      let (f, first) ← holding [ov] (getMethod ov m pl)
      callWith p f first (backTo p (starEach [] X.env)) (backToKw p (keywordEach [] X.env))) := by rfl) : EP X b0 G C (.Call (.Attribute o m apos) [] [] p) r := by
  obtain ⟨f, fd, ps, ds, dvs, F', hm, hb, hd, hD⟩ := F.ex
  exact fun b A s H S q hq => ⟨_, pe_methSD0 (pl := pl) wE_ok F.cl hm F' hr hb hd (passAt tk) ht, ho b A s H S _ fun v H1 e1 r1 => by
    obtain ⟨a, dx, fs, ev, ea, el⟩ := hi.at_ (S.ext e1) r1
    exact ⟨a, dx, fs, ev, ea, el, h b A s H1 [v] dvs (S.ext e1) (.cons r1 .nil) (hD H1) q fun w H3 e3 r3 => hq w H3 (e1.trans e3) r3⟩⟩
/-- a promise by data -/
theorem ct_P {α : Type} {args : α → List D} {pre : α → Prop} {res : α → D} {ds : List D} (a : α) (hv : Vw C rs ds) (hd : ds ++ dd = args a) (hp : pre a) : CT b0 W G C rs dd (spP args pre res) (.v true (res a)) :=
  fun b A s H vs dvs S r1 rd q hq => ⟨a, hd ▸ (hv.rep S r1).append rd, hp, fun v H' e h => hq v H' e (Rep.mono (S.nuRg (t := true)) h)⟩
theorem ct_R {α : Type} {args : α → List D} {pre : α → Prop} {bad : α → Option Addr} {res : α → D} {ds : List D} (a : α) (hv : Vw C rs ds) (hd : ds ++ dd = args a) (hp : pre a) (hb : bad a = none) : CT b0 W G C rs dd (spR args pre bad res) (.v true (res a)) :=
  fun b A s H vs dvs S r1 rd q hq => ⟨a, hd ▸ (hv.rep S r1).append rd, hp, by rw [hb]; exact fun v H' e h => hq v H' e (Rep.mono (S.nuRg (t := true)) h)⟩
/-- it is raised -/
theorem ct_bad {α : Type} {args : α → List D} {pre : α → Prop} {bad : α → Option Addr} {res : α → D} {ds : List D} {cx : Addr} (a : α) (hv : Vw C rs ds) (hd : ds ++ dd = args a) (hp : pre a) (hb : bad a = some cx)
    (hW : ∀ b A s H, Sat b0 b A G C s H → W (.ref cx) none s H) : CT b0 W G C rs dd (spR args pre bad res) r :=
  fun b A s H vs dvs S r1 rd q hq => ⟨a, hd ▸ (hv.rep S r1).append rd, hp, by rw [hb]; exact fun H' e => hW b A s H' (S.ext e)⟩
/-- defs of data -/
theorem vwZ {n : El} {d : D} : True := trivial
end

/-! ### a def keeps its promise -/
section
variable {P : Program} {w : World} {K : PySem.W.Frag} {mg : Str → Option Value} {base : Heap} {x qual : Str} {params : Arguments} {body : List Stmt} {scope : Scope} {dvs : List V} {kws : List (Str × V)} {f : Addr} {fd : FuncData}
theorem fz_nil {H : Hp} : fz [] [] H = H := by
  funext a
  rfl
theorem slots_rest {B : Hp} {A : List Addr} {C : Cs} {H : Hp} : ∀ n : Nat, All2 (SlotE B A C H) (List.replicate n none) (List.replicate n none)
  | 0 => .nil
  | n + 1 => .cons (fun _ h => by cases h) (slots_rest n)
theorem slots_of {H : Hp} : ∀ {ds : List D} {vs : List V}, RepL H ds vs → All2 (SlotE H [] [] H) (ds.map fun d => some (El.v false d)) (vs.map some)
  | [], _, h => by rw [show _ = [] from h]; exact .nil
  | d :: ds, _, ⟨v, r, e, h1, h2⟩ => by
    subst e
    exact .cons (fun e he => ⟨v, rfl, by cases he; exact h1⟩) (slots_of h2)
/-- the state at a def's entry -/
theorem sat0 {b0 : Bs} {H : Hp} {ds : List D} {vs : List V} {N : List Str} (h : RepL H ds vs) (lb : b0.le ⟨H, H, []⟩) : Sat b0 ⟨H, H, []⟩ [] ((ds.map fun d => some (El.v false d)) ++ List.replicate (N.length - ds.length) none) [] (L2.start N vs) H := by
  refine ⟨rfl, .nil, Evl.Ex.refl _, Evl.Ex.refl _, List.prefix_rfl, fun i a o h1 => by simp at h1, ?_, lb⟩
  unfold L2.start
  rw [← RepL.len h]
  exact (slots_of h).append (slots_rest _)
/-- the wish of a body -/
abbrev Wd (E : XK) : WX := fun cls d _ H => E cls d H
abbrev Dd (k : VK) : De := fun _ => { nx := fun _ H => k .non H, rt := k }
theorem fn_P {α : Type} {args : α → List D} {pre : α → Prop} {res : α → D} {N ps : List Str} {k : Nat} (F : FunD K x qual params body scope dvs kws f fd) (Sc : FnScope N ps scope) (hl : ∀ a, (args a).length = ps.length)
    (h : ∀ (cdv : Value) (A : Around) (outer : List Env) (s : Shared) (H : Hp) (q : VK) (E : XK) (a : α), Room k (A.deeper (PyProof.Rows.envOfC qual scope s.heap.objs.size f cdv)) → pre a → PP H (res a) q →
      WB (cxOf (L2.CX P w) P w K mg base N qual scope f cdv A outer s H E) ⟨H, H, []⟩ (((args a).map fun d => some (El.v false d)) ++ List.replicate (N.length - (args a).length) none) [] body (Dd q)) :
    FnOk P w K mg base (L2.CX P w) (k + 1) f fd ps (spP args pre res) :=
  F.ok Sc (fun vs H Q E ⟨a, ha, _⟩ => by rw [← ha.len]; exact hl a) fun cdv A outer s H vs q E hr ⟨a, ha, hp, hq⟩ =>
    h cdv A outer s H q E a hr hp hq _ _ _ _ (Bs.le.refl _) (sat0 ha (Bs.le.refl _))
theorem fn_R {α : Type} {args : α → List D} {pre : α → Prop} {bad : α → Option Addr} {res : α → D} {N ps : List Str} {k : Nat} (F : FunD K x qual params body scope dvs kws f fd) (Sc : FnScope N ps scope) (hl : ∀ a, (args a).length = ps.length)
    (h : ∀ (cdv : Value) (A : Around) (outer : List Env) (s : Shared) (H : Hp) (q : VK) (E : XK) (a : α), Room k (A.deeper (PyProof.Rows.envOfC qual scope s.heap.objs.size f cdv)) → pre a → (bad a = none → PP H (res a) q) → (∀ c, bad a = some c → ∀ H', Ex H H' → E (.ref c) none H') →
      WB (cxOf (L2.CX P w) P w K mg base N qual scope f cdv A outer s H E) ⟨H, H, []⟩ (((args a).map fun d => some (El.v false d)) ++ List.replicate (N.length - (args a).length) none) [] body (Dd q)) :
    FnOk P w K mg base (L2.CX P w) (k + 1) f fd ps (spR args pre bad res) :=
  F.ok Sc (fun vs H Q E ⟨a, ha, _⟩ => by rw [← ha.len]; exact hl a) fun cdv A outer s H vs q E hr ⟨a, ha, hp, hq⟩ =>
    h cdv A outer s H q E a hr hp (fun e => by rw [e] at hq; exact hq) (fun c e => by rw [e] at hq; exact hq) _ _ _ _ (Bs.le.refl _) (sat0 ha (Bs.le.refl _))
end
section
variable {X : Cx} {H : Hp} {b0 : Bs} {G : List (Option El)} {C : Cs} {W : De} {rest : List Stmt} {e : Expr} {p : Pos} {r : El} {d d' : D} {q : VK}
theorem Sat.exH {b : Bs} {A : List Addr} {s : St} {H' : Hp} (S : Sat b0 b A G C s H') (l : (⟨H, H, []⟩ : Bs).le b0) : Ex H H' := fun a o h => mk_of (S.ex a o ((l.trans S.lb).F a o h))
/-- return e -/
theorem wb_retP (k : Nat) (he : EP X b0 G C e r) (hd : toD true C k r = some d) (hq : PP H d q) (hW : ∀ b, (W b).rt = q := by intro _; rfl) (lb : (⟨H, H, []⟩ : Bs).le b0 := by first | exact Bs.le.refl _ | assumption) : WB X b0 G C (.Return (some e) p :: rest) W :=
  wb_ret he fun b A v s H' l S hr => by
    rw [hW b]
    have e := (lb.trans S.lb).B
    have z := toD_ok (t := true) S hd hr
    have e' : b.B = H := e
    rw [e'] at z
    exact hq v H' (S.exH lb) z
/-- a def's end without a return -/
theorem wb_endP (hq : PP H .non q) (hW : ∀ b, (W b).nx = fun _ H => q .non H) (lb : (⟨H, H, []⟩ : Bs).le b0 := by first | exact Bs.le.refl _ | assumption) : WB X b0 G C [] W :=
  wb_nil fun b A s H' l S => by
    rw [hW b]
    exact hq .non H' (S.exH lb) rfl
theorem wb_retPN (hq : PP H .non q) (hW : ∀ b, (W b).rt = q := by intro _; rfl) (lb : (⟨H, H, []⟩ : Bs).le b0 := by first | exact Bs.le.refl _ | assumption) : WB X b0 G C (.Return none p :: rest) W :=
  wb_retN fun b A s H' l S => by
    rw [hW b]
    exact hq .non H' (S.exH lb) rfl
end
end Q
namespace Q
open PySem L2

def wG (X : Cx) (tg : Expr) : TG := fun v s H k => ∃ g, PG X tg g ∧ g v s H k
theorem wG_ok {X : Cx} {tg : Expr} : PG X tg (wG X tg) := ⟨fun pins s q H v u k I r ⟨_, h, z⟩ => h.run pins s q H v u k I r z⟩
def wGs (X : Cx) (tgs : List Expr) : TGs := fun v s H k => ∃ g, PGs X tgs g ∧ g v s H k
theorem wGs_ok {X : Cx} {tgs : List Expr} : PGs X tgs (wGs X tgs) := ⟨fun pins s q H v u k I r ⟨_, h, z⟩ => h.run pins s q H v u k I r z⟩
def wI (X : Cx) (tg iter : Expr) : TI := fun s H R => ∃ w, PI X tg iter w ∧ w s H R
theorem wI_ok {X : Cx} {tg iter : Expr} : PI X tg iter (wI X tg iter) := ⟨fun pins s q H R I ⟨_, h, z⟩ => h.run pins s q H R I z⟩
def wTs (X : Cx) (ifs : List Expr) : TT := fun s H k => ∃ t, PTs X ifs t ∧ t s H k
theorem wTs_ok {X : Cx} {ifs : List Expr} : PTs X ifs (wTs X ifs) := ⟨fun pins s q H k I ⟨_, h, z⟩ => h.run pins s q H k I z⟩

/-! ### targets -/
/-- r is laid to the target: the slots at ns alone change -/
def AG (X : Cx) (b0 : Bs) (G : List (Option El)) (C : Cs) (tg : Expr) (r : El) (ns : List Nat) (G' : List (Option El)) : Prop :=
  ∀ (b : Bs) (A : List Addr) (s : St) (H : Hp) (v : V), Sat b0 b A G C s H → RepE b.B A C H r v → ∀ k : St → Hp → Prop, (∀ s', Sat b0 b A G' C s' H → (∀ i, i ∉ ns → s'[i]? = s[i]?) → s'.length = s.length → k s' H) → wG X tg v s H k
def AGs (X : Cx) (b0 : Bs) (G : List (Option El)) (C : Cs) (tgs : List Expr) (rs : List El) (ns : List Nat) (G' : List (Option El)) : Prop :=
  ∀ (b : Bs) (A : List Addr) (s : St) (H : Hp) (vs : List V), Sat b0 b A G C s H → All2 (RepE b.B A C H) rs vs → ∀ k : St → Hp → Prop, (∀ s', Sat b0 b A G' C s' H → (∀ i, i ∉ ns → s'[i]? = s[i]?) → s'.length = s.length → k s' H) → wGs X tgs vs s H k
section
variable {X : Cx} {G G1 G' : List (Option El)} {C : Cs} {tg e : Expr} {tgs : List Expr} {r : El} {rs : List El} {ns ms : List Nat} {p : Pos} {t : Bool} {ds : List D}
theorem ag_name (n : Nat) {x : Str} (hN : X.N.Nodup) (hi : X.N[n]? = some x) (hx : Loc X.env.scope x) (hf : X.fn x = true ∨ X.env.scope.names.lookup x = some .local := by first | exact .inl rfl | exact .inr rfl | assumption) : AG X b0 G C (.Name x p) r [n] (G.set n (some r)) :=
  fun b A s H v S h k q => ⟨_, pg_name hN hi hx hf, q _ (S.put h) (fun i hi => by
    rw [List.getElem?_set_ne]
    intro z
    exact hi (by simp [z])) (by simp)⟩
theorem ags_nil : AGs X b0 G C [] [] [] G := fun b A s H vs S h k q => ⟨_, pgs_nil, by
  cases h
  exact ⟨rfl, q s S (fun _ _ => rfl) rfl⟩⟩
theorem ags_cons (h1 : AG X b0 G C tg r ns G1) (h2 : AGs X b0 G1 C tgs rs ms G') (hs : (assignEach (tg :: tgs) X.env).map (·.2) = assign tg X.env :: (assignEach tgs X.env).map (·.2) := by rfl) : AGs X b0 G C (tg :: tgs) (r :: rs) (ns ++ ms) G' := fun b A s H vs S h k q => by
  cases h with
  | cons a l =>
    refine ⟨_, pgs_cons wG_ok wGs_ok hs, _, _, rfl, h1 b A s H _ S a _ fun s1 S1 f1 l1 => h2 b A s1 H _ S1 l _ fun s2 S2 f2 l2 => q s2 S2 (fun i hi => ?_) (l2.trans l1)⟩
    rw [List.mem_append, not_or] at hi
    rw [f2 i hi.2, f1 i hi.1]
theorem rep_all {b : Bs} {A : List Addr} {H : Hp} : ∀ {ds : List D} {vs : List V}, RepL (rg t b.B A C H) ds vs → All2 (RepE b.B A C H) (ds.map (El.v t)) vs
  | [], _, h => by rw [show _ = [] from h]; exact .nil
  | d :: ds, _, ⟨v, r, e, h1, h2⟩ => by
    subst e
    exact .cons h1 (rep_all h2)
theorem ag_tup {k : Nat} (hc : X.calm = true) (h : AGs X b0 G C tgs (ds.map (El.v t)) ns G') (hl : (assignEach tgs X.env).length = ds.length := by rfl) (hst : (assignEach tgs X.env).findIdx? (·.1) = none := by rfl) : AG X b0 G C (.Tuple tgs k p) (.v t (.tup ds)) ns G' :=
  fun b A s H v S hr q hq => by
    obtain ⟨a, vs, e, rd, hv⟩ := hr
    exact ⟨_, pg_tup hc wGs_ok hl hst, a, vs, e, .inl (.inl (mk_of (rg_sub _ _ rd))), hv.len.symm, h b A s H vs S (rep_all hv) q hq⟩
theorem ag_tupC {k n : Nat} {l : List El} (hc : X.calm = true) (hC : C[n]? = some (some (.tup l))) (h : AGs X b0 G C tgs l ns G') (hl : (assignEach tgs X.env).length = l.length := by rfl) (hst : (assignEach tgs X.env).findIdx? (·.1) = none := by rfl) : AG X b0 G C (.Tuple tgs k p) (.at n) ns G' :=
  fun b A s H v S hr q hq => by
    obtain ⟨a, ea, ev⟩ := hr
    obtain ⟨vs, h1, h2⟩ := S.cell n a _ ea hC
    exact ⟨_, pg_tup hc wGs_ok hl hst, a, vs, ev, .inl (.inl h1), h2.length.symm, h b A s H vs S h2 q hq⟩
/-- target = e -/
theorem st_to (he : EP X b0 G C e r) (hg : AG X b0 G C tg r ns G') (hs : swapsWithSole [tg] e p.line X.env = pure false := by rfl) (hw : swappedStores [tg] e X.env = pure none := by rfl) (h1 : (assignEach [tg] X.env).map (·.2) = [assign tg X.env] := by rfl) : ST X b0 G C (.Assign [tg] e p) G' C :=
  fun b A s H D S k => ⟨_, ps_asg wE_ok wG_ok hs hw h1, he b A s H S _ fun v H1 e1 r1 => hg b A s H1 v (S.ext e1) r1 _ fun s' S' _ _ => k A s' H1 S'⟩
/-- a, b = x, y (two local names) -/
theorem st_par (i j : Nat) {x y : Str} {a b : Expr} {px py pt : Pos} {kt k2 pt2} {r1 r2 : El} (hc : X.calm = true) (ha : EA X b0 G C [a, b] [r1, r2]) {t : TA → Prop}
    (hps : ∀ ta, PA X [a, b] ta → PS X (.Assign [.Tuple [.Name x px, .Name y py] kt pt] (.Tuple [a, b] k2 pt2) p) (tPar i j ta)) : ST X b0 G C (.Assign [.Tuple [.Name x px, .Name y py] kt pt] (.Tuple [a, b] k2 pt2) p) ((G.set i (some r1)).set j (some r2)) C :=
  fun b A s H D S k => ⟨_, hps _ wA_ok, ha b A s H S _ fun vs H1 e1 q => by
    cases q with
    | cons q1 q =>
      cases q with
      | cons q2 q =>
        cases q
        exact ⟨_, _, rfl, k A _ _ (((S.ext e1).put q1).put q2)⟩⟩
end

/-! ### what is walked -/
structure Wk (b0 b : Bs) (A : List Addr) (C : Cs) (H : Hp) (J : It) (t : Bool) (ds : List D) : Prop where
  go : ∀ A' C' H', Go A C H A' C' H' → ∀ i, i < ds.length → J.go i H'
  stop : ∀ A' C' H', Go A C H A' C' H' → J.stop ds.length H'
  yld : ∀ (b' : Bs) A' C' G' s' H' (i : Nat) d x H'', b'.B = b.B → Go A C H A' C' H' → Sat b0 b' A' G' C' s' H' → ds[i]? = some d → J.yld i H' x H'' → Ex H' H'' ∧ RepE b.B A' C' H'' (.v t d) x
def IT (X : Cx) (b0 : Bs) (G : List (Option El)) (C : Cs) (tg iter : Expr) (t : Bool) (ds : List D) : Prop :=
  ∀ (b : Bs) (A : List Addr) (s : St) (H : Hp), Sat b0 b A G C s H → ∀ R : It → Hp → Prop, (∀ J H1, Ex H H1 → Wk b0 b A C H1 J t ds → R J H1) → wI X tg iter s H R
section
variable {X : Cx} {G : List (Option El)} {C : Cs} {tg e e2 : Expr} {p : Pos} {t u : Bool} {ds ds2 : List D} {r : El}
theorem RepL.get {M : Hp} : ∀ {ds : List D} {vs : List V} {i : Nat} {d : D}, RepL M ds vs → ds[i]? = some d → ∃ v, vs[i]? = some v ∧ Rep M d v
  | [], _, _, _, _, h => by simp at h
  | d :: ds, _, 0, d', ⟨v, r, e, h1, h2⟩, h => by
    subst e
    have : d = d' := by simpa using h
    subst this
    exact ⟨v, rfl, h1⟩
  | d :: ds, _, i + 1, d', ⟨v, r, e, h1, h2⟩, h => by
    subst e
    obtain ⟨w, e1, e2⟩ := h2.get (i := i) (d := d') (by simpa using h)
    exact ⟨w, by simpa using e1, e2⟩
/-- a list's place, as its data -/
theorem lst_at {b : Bs} {A : List Addr} {H : Hp} {K : PySem.W.Frag} {v : V} (h : RepE b.B A C H (.v t (.lst ds)) v) : ∃ a vs, v = .ref a ∧ SqL K H a vs ∧ RepL (rg t b.B A C H) ds vs := by
  obtain ⟨a, vs, e, rd, hv⟩ := h
  exact ⟨a, vs, e, .inl (.inl (mk_of (rg_sub _ _ rd))), hv⟩
theorem tup_at {b : Bs} {A : List Addr} {H : Hp} {K : PySem.W.Frag} {v : V} (h : RepE b.B A C H (.v t (.tup ds)) v) : ∃ a vs, v = .ref a ∧ SqT K H a vs ∧ RepL (rg t b.B A C H) ds vs := by
  obtain ⟨a, vs, e, rd, hv⟩ := h
  exact ⟨a, vs, e, .inl (.inl (mk_of (rg_sub _ _ rd))), hv⟩
theorem lst_go {b : Bs} {A A' : List Addr} {C' : Cs} {H H' : Hp} {K : PySem.W.Frag} {a : Addr} {vs : List V} (rd : rg t b.B A C H a = some (.lst vs)) (g : Go A C H A' C' H') : SqL K H' a vs :=
  .inl (.inl (mk_of (rg_sub _ _ (rg_ex g.ex _ _ rd))))
theorem tup_go {b : Bs} {A A' : List Addr} {C' : Cs} {H H' : Hp} {K : PySem.W.Frag} {a : Addr} {vs : List V} (rd : rg t b.B A C H a = some (.tup vs)) (g : Go A C H A' C' H') : SqT K H' a vs :=
  .inl (.inl (mk_of (rg_sub _ _ (rg_ex g.ex _ _ rd))))
theorem wk_list {b : Bs} {A : List Addr} {H : Hp} {K : PySem.W.Frag} {a : Addr} {vs : List V} (rd : rg t b.B A C H a = some (.lst vs)) (hv : RepL (rg t b.B A C H) ds vs) : Wk b0 b A C H (Itl K a) t ds where
  go := fun A' C' H' g i hi => by
    have l : i < vs.length := by rw [← hv.len]; exact hi
    exact ⟨vs, vs[i], lst_go rd g, by simp [l]⟩
  stop := fun A' C' H' g => ⟨vs, lst_go rd g, by rw [hv.len]; exact Nat.le_refl _⟩
  yld := fun b' A' C' G' s' H' i d x H'' _ g S' hd y => by
    obtain ⟨e, y⟩ := y
    subst e
    obtain ⟨v, h1, h2⟩ := hv.get hd
    have q := y vs (lst_go rd g)
    rw [h1] at q
    cases q
    exact ⟨Evl.Ex.refl _, Rep.mono (rg_ex g.ex) h2⟩
theorem it_list (h : EP X b0 G C e (.v t (.lst ds))) : IT X b0 G C tg e t ds := fun b A s H S R k => ⟨_, pi_list wE_ok, h b A s H S _ fun v H1 e1 r1 => by
  obtain ⟨a, vs, ev, rd, hv⟩ := r1
  exact ⟨a, ev, ⟨vs, lst_go rd Go.refl⟩, k _ H1 e1 (wk_list rd hv)⟩⟩
theorem it_tuple (h : EP X b0 G C e (.v t (.tup ds))) (hp : PI X tg e (iTup X.K (wE X e))) : IT X b0 G C tg e t ds := fun b A s H S R k => ⟨_, hp, h b A s H S _ fun v H1 e1 r1 => by
  obtain ⟨a, vs, ev, rd, hv⟩ := r1
  refine ⟨a, ev, ⟨vs, tup_go rd Go.refl⟩, k _ H1 e1 ⟨fun A' C' H' g i hi => ?_, fun A' C' H' g => ⟨vs, tup_go rd g, by rw [hv.len]; exact Nat.le_refl _⟩, fun b' A' C' G' s' H' i d x H'' _ g S' hd y => ?_⟩⟩
  · have l : i < vs.length := by rw [← hv.len]; exact hi
    exact ⟨vs, vs[i], tup_go rd g, by simp [l]⟩
  · obtain ⟨e, y⟩ := y
    subst e
    obtain ⟨v, h1, h2⟩ := hv.get hd
    have q := y vs (tup_go rd g)
    rw [h1] at q
    cases q
    exact ⟨Evl.Ex.refl _, Rep.mono (rg_ex g.ex) h2⟩⟩
def rngD (lo : Int) (n : Nat) : List D := (List.range n).map fun (i : Nat) => D.int (lo + (i : Int))
theorem rngD_len {lo : Int} {n : Nat} : (rngD lo n).length = n := by simp [rngD]
theorem rngD_get {lo : Int} {n i : Nat} {d : D} (h : (rngD lo n)[i]? = some d) : i < n ∧ d = .int (lo + (i : Int)) := by
  unfold rngD at h
  rw [List.getElem?_map] at h
  cases e : (List.range n)[i]? with
  | none => rw [e] at h; cases h
  | some j =>
    rw [e] at h
    obtain ⟨h1, h2⟩ := List.getElem?_eq_some_iff.mp e
    have : j = i := by simpa using h2.symm
    subst this
    exact ⟨by simpa using h1, by simpa using h.symm⟩
theorem wk_rng {b : Bs} {A : List Addr} {H : Hp} {lo : Int} {n : Nat} : Wk b0 b A C H (Itr lo n) true (rngD lo n) where
  go := fun A' C' H' g i hi => by rw [rngD_len] at hi; exact hi
  stop := fun A' C' H' g => by rw [rngD_len]; exact Nat.le_refl n
  yld := fun b' A' C' G' s' H' i d x H'' _ g S' hd y => by
    obtain ⟨e, y⟩ := y
    subst e y
    obtain ⟨_, e⟩ := rngD_get hd
    subst e
    exact ⟨Evl.Ex.refl _, rfl⟩
theorem it_range1 {n : Int} {q : Pos} (hg : Gl X "range") (hm : X.mg "range" = none) (h : EA X b0 G C [e] [.v t (.int n)]) (h1 : -(2 ^ 62) ≤ n ∧ n < 2 ^ 62) (hs : starEach [e] X.env = [(false, eval e X.env)] := by rfl) : IT X b0 G C tg (.Call (.Name "range" q) [e] [] p) true (rngD 0 n.toNat) :=
  fun b A s H S R k => ⟨_, pi_range1 hg hm wA_ok hs, h b A s H S _ fun vs H1 e1 r1 => by
    cases r1 with
    | cons a l =>
      cases l
      exact ⟨n, by rw [show _ = V.int n from a], h1.1, h1.2, k _ H1 e1 wk_rng⟩⟩
theorem it_range2 {m n : Int} {q : Pos} (hg : Gl X "range") (hm : X.mg "range" = none) (h : EA X b0 G C [e, e2] [.v t (.int m), .v u (.int n)]) (h1 : -(2 ^ 62) ≤ m ∧ m < 2 ^ 62 ∧ -(2 ^ 62) ≤ n ∧ n < 2 ^ 62) (hs : starEach [e, e2] X.env = [(false, eval e X.env), (false, eval e2 X.env)] := by rfl) (hs2 : starEach [e2] X.env = [(false, eval e2 X.env)] := by rfl) : IT X b0 G C tg (.Call (.Name "range" q) [e, e2] [] p) true (rngD m (n - m).toNat) :=
  fun b A s H S R k => ⟨_, pi_range2 hg hm wA_ok hs hs2, h b A s H S _ fun vs H1 e1 r1 => by
    cases r1 with
    | cons a l =>
      cases l with
      | cons a2 l =>
        cases l
        exact ⟨m, n, by rw [show _ = V.int m from a, show _ = V.int n from a2], h1, k _ H1 e1 wk_rng⟩⟩
theorem rep_pair {b b' : Bs} {A : List Addr} {G : List (Option El)} {s : St} {H : Hp} {T : Addr} {x y : V} {d d' : D} (S : Sat b0 b' A G C s H) (hb : b'.B = b.B) (hT : H T = none) (h1 : Rep (rg t b.B A C H) d x) (h2 : Rep (rg t b.B A C H) d' y) :
    Ex H (upd H T (.tup [x, y])) ∧ RepE b.B A C (upd H T (.tup [x, y])) (.v t (.tup [d, d'])) (.ref T) := by
  refine ⟨Evl.Ex.new hT, ?_⟩
  rw [← hb] at h1 h2 ⊢
  exact S.newT hT ⟨x, _, rfl, h1, y, _, rfl, h2, rfl⟩
theorem it_enum {q tpos : Pos} {elts : List Expr} {kk : Nat} (hg : Gl X "enumerate") (hm : X.mg "enumerate" = none) (h : EA X b0 G C [e] [.v t (.lst ds)]) (hs : starEach [e] X.env = [(false, eval e X.env)] := by rfl) :
    IT X b0 G C (.Tuple elts kk tpos) (.Call (.Name "enumerate" q) [e] [] p) t (ds.mapIdx fun i d => D.tup [.int (i : Int), d]) :=
  fun b A s H S R k => ⟨_, pi_enum hg hm wA_ok hs, h b A s H S _ fun vs H1 e1 r1 => by
    cases r1 with
    | cons a l =>
      cases l
      obtain ⟨a, vs, ev, rd, hv⟩ := a
      subst ev
      refine ⟨a, vs, rfl, lst_go rd Go.refl, k _ H1 e1 ⟨fun A' C' H' g i hi => ?_, fun A' C' H' g => ⟨vs, lst_go rd g, by rw [List.length_mapIdx, hv.len]; exact Nat.le_refl _⟩, fun b' A' C' G' s' H' i d x H'' hb g S' hd y => ?_⟩⟩
      · rw [List.length_mapIdx] at hi
        have l : i < vs.length := by rw [← hv.len]; exact hi
        exact ⟨vs, vs[i], lst_go rd g, by simp [l]⟩
      · rw [List.getElem?_mapIdx] at hd
        cases e5 : ds[i]? with
        | none => rw [e5] at hd; cases hd
        | some d0 =>
          rw [e5] at hd
          cases hd
          obtain ⟨v, h1, h2⟩ := hv.get e5
          obtain ⟨T, x0, ex, hT, eH, y⟩ := y
          subst ex eH
          have q := y vs (lst_go rd g)
          rw [h1] at q
          cases q
          exact rep_pair S' hb hT rfl (Rep.mono (rg_ex g.ex) h2)⟩
theorem it_zip {q tpos : Pos} {elts : List Expr} {kk : Nat} (hg : Gl X "zip") (hm : X.mg "zip" = none) (h : EA X b0 G C [e, e2] [.v t (.lst ds), .v u (.lst ds2)]) (hs : starEach [e, e2] X.env = (false, eval e X.env) :: starEach [e2] X.env := by rfl) (hpl : (backTo p (starEach [e2] X.env)).any (·.1) = false := by rfl) :
    IT X b0 G C (.Tuple elts kk tpos) (.Call (.Name "zip" q) [e, e2] [] p) (t && u) (List.zipWith (fun x y => D.tup [x, y]) ds ds2) :=
  fun b A s H S R k => ⟨_, pi_zip hg hm wA_ok hs hpl, h b A s H S _ fun vs H1 e1 r1 => by
    cases r1 with
    | cons a l =>
      cases l with
      | cons a2 l =>
        cases l
        obtain ⟨a, vs, ev, rd, hv⟩ := a
        obtain ⟨a2, vs2, ev2, rd2, hv2⟩ := a2
        subst ev ev2
        refine ⟨a, a2, vs, vs2, rfl, lst_go rd Go.refl, lst_go rd2 Go.refl, k _ H1 e1 ⟨fun A' C' H' g i hi => ?_, fun A' C' H' g => ⟨vs, vs2, lst_go rd g, lst_go rd2 g, ?_⟩, fun b' A' C' G' s' H' i d x H'' hb g S' hd y => ?_⟩⟩
        · rw [List.length_zipWith] at hi
          have l1 := hv.len
          have l2 := hv2.len
          have h1 : i < vs.length := by omega
          have h2 : i < vs2.length := by omega
          exact ⟨vs, vs2, vs[i], vs2[i], lst_go rd g, lst_go rd2 g, by simp [h1], by simp [h2]⟩
        · rw [List.length_zipWith]
          have l1 := hv.len
          have l2 := hv2.len
          omega
        · rw [List.getElem?_zipWith] at hd
          cases e5 : ds[i]? with
          | none => rw [e5] at hd; simp at hd
          | some d0 =>
            cases e6 : ds2[i]? with
            | none => rw [e5, e6] at hd; simp at hd
            | some d1 =>
              rw [e5, e6] at hd
              have hd' : d = .tup [d0, d1] := by simpa using hd.symm
              subst hd'
              obtain ⟨v, h1, h2⟩ := hv.get e5
              obtain ⟨v2, h3, h4⟩ := hv2.get e6
              obtain ⟨T, x0, y0, ex, hT, eH, y, y'⟩ := y
              subst ex eH
              have q := y vs (lst_go rd g)
              rw [h1] at q
              cases q
              have q := y' vs2 (lst_go rd2 g)
              rw [h3] at q
              cases q
              exact rep_pair S' hb hT (Rep.mono (rg_low fun z => (Bool.and_eq_true_iff.mp z).1) (Rep.mono (rg_ex g.ex) h2)) (Rep.mono (rg_low fun z => (Bool.and_eq_true_iff.mp z).2) (Rep.mono (rg_ex g.ex) h4))⟩
theorem it_str {x : Str} (h : EP X b0 G C e (.v t (.str x))) : IT X b0 G C tg e true (x.cps.toList.map fun c => D.str ⟨#[c]⟩) :=
  fun b A s H S R k => ⟨_, pi_str wE_ok, h b A s H S _ fun v H1 e1 r1 => ⟨x, r1, k _ H1 e1 ⟨fun A' C' H' g i hi => by show i < x.cps.size; simpa using hi, fun A' C' H' g => by show x.cps.size ≤ _; simp, fun b' A' C' G' s' H' i d y H'' _ g S' hd yl => by
    obtain ⟨e, c, hc, ev⟩ := yl
    subst e ev
    have : x.cps.toList[i]? = some c := by simpa using hc
    rw [List.getElem?_map, this] at hd
    cases hd
    exact ⟨Evl.Ex.refl _, rfl⟩⟩⟩⟩
end
end Q
namespace Q
open PySem L2

/-! ### for -/
/-- the ends of a for's turn: N what the next turn wants -/
def Df (D : De) (b : Bs) (bp : St → Hp → Prop) (N : Bs → St → Hp → Prop) : De := fun b' => { nx := N b', rt := (D b).rt, bk := bp, ct := N b' }
section
variable {X : Cx} {b0 : Bs} {G : List (Option El)} {C : Cs} {W : De} {body rest : List Stmt} {tg iter : Expr} {p : Pos} {t : Bool}
/-- for tg in iter: body. The states between the turns are told by a datum: Gs, Cf; Inv i of it holds behind i items -/
theorem wb_for {α β : Type} (Gs : α → List (Option El)) (Cf : α → Cs) (Inv : Nat → α → Prop) (items : List β) (enc : β → D) (Gt : α → β → List (Option El)) {ns : List Nat} (a0 : α) (h0 : Inv 0 a0) (hG : G = Gs a0) (hC : C = Cf a0)
    {ds : List D} (hi : IT X b0 G C tg iter t ds) (hds : ds = items.map enc) (hg : ∀ a x, AG X b0 (Gs a) (Cf a) tg (.v t (enc x)) ns (Gt a x))
    (hb : ∀ (b : Bs) (bp : St → Hp → Prop) (i : Nat) (a : α) (x : β), Inv i a → items[i]? = some x → WB X b0 (Gt a x) (Cf a) body (Df W b bp fun b' s H => ∃ a', Inv (i + 1) a' ∧ Nx b0 b' (Gs a') (Cf a') s H))
    (hd : ∀ a, Inv items.length a → WB X b0 (Gs a) (Cf a) rest W) (hc : X.calm = true) (hp : PassesOwn (model X.prog X.w) X.A X.env X.xe)
    (hs : ∀ x, foldedSetIterable iter X.env x = pure x := by intro _; rfl) : WB X b0 G C (.For tg iter body [] p :: rest) W :=
  wb_cons fun b A s H l S => ⟨_, ps_for hp hc wI_ok wG_ok wB_ok hs, by
    subst hG
    subst hC
    subst hds
    refine hi b A s H S _ fun J H1 e1 w => ?_
    have S1 := S.ext e1
    have l1 : b0.le (b.now A (Cf a0) H1) := l.trans S1.le
    refine ⟨fun i m s H => m = items.length - i ∧ i ≤ items.length ∧ ∃ a, Inv i a ∧ ∃ A', Sat b0 (b.now A (Cf a0) H1) A' (Gs a) (Cf a) s H, ⟨_, rfl, Nat.zero_le _, a0, h0, A, S1.now⟩, ?_⟩
    rintro i m s2 H2 ⟨rfl, hi2, a, ha, A2, S2⟩
    have g : Go A (Cf a0) H1 A2 (Cf a) H2 := ⟨S2.pre, S2.ex⟩
    by_cases hlt : i < items.length
    · refine .inr ⟨w.go _ _ _ g i (by simpa using hlt), fun s H => ∃ a', Inv (i + 1) a' ∧ Nx b0 (b.now A (Cf a0) H1) (Gs a') (Cf a') s H, fun s' H' ⟨a', h1, A', h2⟩ => ⟨items.length - (i + 1), by omega, rfl, hlt, a', h1, A', h2⟩, fun x H' y => ?_⟩
      have hx : items[i]? = some items[i] := by simp [hlt]
      obtain ⟨e3, r3⟩ := w.yld (b.now A (Cf a0) H1) A2 _ _ s2 H2 i _ x H' rfl g S2 (by rw [List.getElem?_map, hx]; rfl) y
      refine hg a items[i] _ A2 s2 H' x (S2.ext e3) r3 _ fun s3 S3 _ _ => ?_
      exact hb b _ i a _ ha hx _ A2 s3 H' l1 S3
    · have e : i = items.length := by omega
      subst e
      refine .inl ⟨?_, ?_⟩
      · have := w.stop _ _ _ g
        rw [List.length_map] at this
        exact this
      · exact hd a ha b A2 s2 H2 l (S2.base S1.le S.bf S.lb)⟩
theorem wb_next {α : Type} {Gs : α → List (Option El)} {Cf : α → Cs} {P : α → Prop} {b : Bs} {bp : St → Hp → Prop} (a' : α) (h : P a') (hG : G = Gs a') (hC : C = Cf a') : WB X b0 G C [] (Df W b bp fun b' s H => ∃ a', P a' ∧ Nx b0 b' (Gs a') (Cf a') s H) :=
  wb_nil fun b2 A s H l S => by
    subst hG
    subst hC
    exact ⟨a', h, A, S⟩
end

/-! ### comprehensions -/
def wipeG (G : List (Option El)) : List Nat → List (Option El)
  | [] => G
  | v :: vs => (wipeG G vs).set v none
theorem wipe_slots {B : Hp} {A : List Addr} {C : Cs} {H : Hp} {G : List (Option El)} {s : St} (h : All2 (SlotE B A C H) G s) : ∀ vs : List Nat, All2 (SlotE B A C H) (wipeG G vs) (wipe s vs)
  | [] => h
  | v :: vs => (wipe_slots h vs).set (fun _ z => by cases z) v
theorem wipe_get {s : St} {i : Nat} : ∀ {vs : List Nat}, i ∈ vs → i < s.length → (wipe s vs)[i]? = some none
  | [], h, _ => by cases h
  | v :: vs, h, hl => by
    unfold wipe
    by_cases hi : v = i
    · subst hi
      rw [List.getElem?_set_self (by rw [wipe_length]; exact hl)]
    · rw [List.getElem?_set_ne hi]
      exact wipe_get (by
        rcases List.mem_cons.mp h with z | z
        · exact absurd z.symm hi
        · exact z) hl
theorem wipe_same {s s' : St} {vs ns : List Nat} (hn : ∀ i ∈ ns, i ∈ vs) (f : ∀ i, i ∉ ns → s'[i]? = s[i]?) (hl : s'.length = s.length) : wipe s' vs = wipe s vs := by
  apply List.ext_getElem?
  intro i
  by_cases hi : i ∈ vs
  · by_cases h : i < s.length
    · rw [wipe_get hi h, wipe_get hi (by rw [hl]; exact h)]
    · rw [List.getElem?_eq_none (by rw [wipe_length]; omega), List.getElem?_eq_none (by rw [wipe_length]; omega)]
  · rw [wipe_out hi, wipe_out hi]
    exact f i fun z => hi (hn i z)
theorem wipe_twice {s : St} {vs : List Nat} : wipe (wipe s vs) vs = wipe s vs := by
  apply List.ext_getElem?
  intro i
  by_cases hi : i ∈ vs
  · by_cases h : i < s.length
    · rw [wipe_get hi h, wipe_get hi (by rw [wipe_length]; exact h)]
    · rw [List.getElem?_eq_none (by rw [wipe_length, wipe_length]; omega), List.getElem?_eq_none (by rw [wipe_length]; omega)]
  · rw [wipe_out hi]
/-- the tests of a clause -/
def ETs (X : Cx) (b0 : Bs) (G : List (Option El)) (C : Cs) (ifs : List Expr) (c : Bool) : Prop := ∀ (b : Bs) (A : List Addr) (s : St) (H : Hp), Sat b0 b A G C s H → ∀ k : Bool → Hp → Prop, (∀ H', Ex H H' → k c H') → wTs X ifs s H k
section
variable {X : Cx} {G : List (Option El)} {C : Cs} {e elt tg iter : Expr} {ifs : List Expr} {p : Pos} {t u : Bool} {r : El} {c : Bool}
theorem ets_nil : ETs X b0 G C [] true := fun b A s H S k q => ⟨_, pts_nil, q H (Evl.Ex.refl H)⟩
theorem ets_one (h : ET X b0 G C e c) : ETs X b0 G C [e] c := fun b A s H S k q => ⟨_, pts_one wT_ok, h b A s H S k q⟩
theorem Sat.wiped {b : Bs} {A : List Addr} {s : St} {H : Hp} (S : Sat b0 b A G C s H) (vs : List Nat) : Sat b0 b A (wipeG G vs) C (wipe s vs) H := ⟨S.len, S.nd, S.bf, S.ex, S.pre, S.cell, wipe_slots S.slot vs, S.lb⟩
theorem fz_less {A : List Addr} {H : Hp} {D : Addr} {o : Ob} (hl : A.length = C.length) : Ex (fz (A ++ [D]) (C ++ [some o]) H) (fz A C H) := fun a ho h => by
  have h1 := mk_not h
  rw [live_new hl, List.mem_append, not_or] at h1
  rw [mk_at h1.1]
  exact mk_of h
/-- what a comprehension's parts tell, within its block -/
theorem lc_main {β : Type} {items : List β} {enc : β → D} {keep : β → Bool} {val : β → D} {Gt : β → List (Option El)} {vs ns : List Nat} (hn : ∀ i ∈ ns, i ∈ vs) (hl : items.length ≤ 100000)
    {g : TG} {tt : TT} {te : TE}
    (hg : ∀ (o : Ob) (x : β), x ∈ items → ∀ (b : Bs) (A : List Addr) (s : St) (H : Hp) (v : V), Sat b0 b A (wipeG G vs) (C ++ [some o]) s H → RepE b.B A (C ++ [some o]) H (.v u (enc x)) v → ∀ k : St → Hp → Prop, (∀ s', Sat b0 b A (Gt x) (C ++ [some o]) s' H → (∀ i, i ∉ ns → s'[i]? = s[i]?) → s'.length = s.length → k s' H) → g v s H k)
    (ht : ∀ (o : Ob) (x : β), x ∈ items → ∀ (b : Bs) (A : List Addr) (s : St) (H : Hp), Sat b0 b A (Gt x) (C ++ [some o]) s H → ∀ k : Bool → Hp → Prop, (∀ H', Ex H H' → k (keep x) H') → tt s H k)
    (he : ∀ (o : Ob) (x : β), x ∈ items → keep x = true → ∀ (b : Bs) (A : List Addr) (s : St) (H : Hp), Sat b0 b A (Gt x) (C ++ [some o]) s H → ∀ k : VK, (∀ v H', Ex H H' → RepE b.B A (C ++ [some o]) H' (.v t (val x)) v → k v H') → te s H k)
    (hi : IT X b0 G C tg iter u (items.map enc)) (b : Bs) (A : List Addr) (s : St) (H : Hp) (S : Sat b0 b A G C s H) (k : VK) (q : ∀ v H', Ex H H' → RepE b.B A C H' (.v t (.lst ((items.filter keep).map val))) v → k v H') : tLc (wI X tg iter) g tt te vs s H k := by
  refine hi b A s H S _ fun J H1 e1 w D hD => ?_
  have S1 := S.ext e1
  have hsz : (100000 : Nat) < sizeLine := by decide
  let acc (i : Nat) : List Q.D := ((items.take i).filter keep).map val
  have accl : ∀ i, (acc i).length ≤ items.length := fun i => by
    show (((items.take i).filter keep).map val).length ≤ _
    rw [List.length_map]
    refine Nat.le_trans (List.length_filter_le _ _) ?_
    rw [List.length_take]
    omega
  refine ⟨fun i m H' => m = items.length - i ∧ i ≤ items.length ∧ Ex H1 H' ∧ Sat b0 b (A ++ [D]) G (C ++ [some (.lst t (acc i))]) s H' ∧ Go A C H1 (A ++ [D]) (C ++ [some (.lst t (acc i))]) H', ⟨_, rfl, Nat.zero_le _, Evl.Ex.new hD, S1.cellNew (o := .lst t (acc 0)) hD ⟨[], upd_same, rfl⟩, S1.goNew hD⟩, ?_⟩
  rintro i m H2 ⟨rfl, hi2, e2, S2, g2⟩
  have hDl : (A ++ [D])[A.length]? = some D := by simp
  have hCl : ∀ o : Ob, (C ++ [some o])[A.length]? = some (some o) := fun o => by rw [S.len]; simp
  by_cases hlt : i < items.length
  · have hx : items[i]? = some items[i] := by simp [hlt]
    have hm : items[i] ∈ items := List.getElem_mem hlt
    refine .inr ⟨w.go _ _ _ g2 i (by simpa using hlt), fun H' => Ex H1 H' ∧ Sat b0 b (A ++ [D]) G (C ++ [some (.lst t (acc (i + 1)))]) s H' ∧ Go A C H1 (A ++ [D]) (C ++ [some (.lst t (acc (i + 1)))]) H', fun H' ⟨h1, h2, h3⟩ => ⟨items.length - (i + 1), by omega, rfl, hlt, h1, h2, h3⟩, fun x H3 y => ?_⟩
    obtain ⟨e3, r3⟩ := w.yld b _ _ _ s H2 i _ x H3 rfl g2 S2 (by rw [List.getElem?_map, hx]; rfl) y
    have S3 := S2.ext e3
    have step : acc (i + 1) = if keep items[i] = true then acc i ++ [val items[i]] else acc i := by
      show ((items.take (i + 1)).filter keep).map val = if keep items[i] = true then ((items.take i).filter keep).map val ++ [val items[i]] else ((items.take i).filter keep).map val
      rw [List.take_succ, hx, List.filter_append, List.map_append]
      cases hk : keep items[i] <;> simp [hk]
    refine hg _ items[i] hm b _ _ H3 x (S3.wiped vs) r3 _ fun s4 S4 f4 l4 => ?_
    refine ⟨by rw [wipe_same hn f4 l4]; exact wipe_twice, ?_⟩
    refine ht _ items[i] hm b _ s4 H3 S4 _ fun H5 e5 => ?_
    have S5 := S3.ext e5
    cases hk : keep items[i] with
    | false =>
      show _ ∧ _ ∧ _
      rw [hk] at step
      rw [show acc (i + 1) = acc i from step]
      exact ⟨(e2.trans e3).trans e5, S5, g2.trans (Go.of (e3.trans e5))⟩
    | true =>
      rw [hk] at step
      refine he _ items[i] hm hk b _ s4 H5 (S4.ext e5) _ fun v H6 e6 r6 => ?_
      have S6 := S5.ext e6
      obtain ⟨vs6, h1, h2⟩ := S6.cell A.length D _ hDl (hCl _)
      refine ⟨vs6, h1, ?_, ?_⟩
      · rw [← h2.len]
        have := accl i
        omega
      · rw [show acc (i + 1) = acc i ++ [val items[i]] from step]
        have e7 : (C ++ [some (Ob.lst t (acc i))]).set A.length (some (.lst t (acc i ++ [val items[i]]))) = C ++ [some (.lst t (acc i ++ [val items[i]]))] := by
          rw [S.len, List.set_append_right _ _ (Nat.le_refl _)]
          simp
        have mk7 := mk_set (H := H6) (ho := .lst (vs6 ++ [v])) (o' := .lst t (acc i ++ [val items[i]])) hDl (hCl (Ob.lst t (acc i)))
        rw [e7] at mk7
        have g7 : Go (A ++ [D]) (C ++ [some (.lst t (acc i))]) H6 (A ++ [D]) (C ++ [some (.lst t (acc i ++ [val items[i]]))]) (upd H6 D (.lst (vs6 ++ [v]))) := ⟨List.prefix_rfl, by rw [mk7]; exact Evl.Ex.refl _⟩
        have S7 := S6.cellSet (ho := .lst (vs6 ++ [v])) (o' := .lst t (acc i ++ [val items[i]])) hDl (hCl _) (by
          rw [e7]
          exact ⟨vs6 ++ [v], upd_same, RepL.mono (rg_ex g7.ex) (h2.append ⟨v, [], rfl, r6, rfl⟩)⟩)
        rw [e7] at S7
        exact ⟨Evl.Ex.mut (((e2.trans e3).trans e5).trans e6) hD, S7, (g2.trans (Go.of ((e3.trans e5).trans e6))).trans g7⟩
  · have e : i = items.length := by omega
    subst e
    refine .inl ⟨?_, ?_⟩
    · have := w.stop _ _ _ g2
      rw [List.length_map] at this
      exact this
    · obtain ⟨vs6, h1, h2⟩ := S2.cell A.length D _ hDl (hCl _)
      have ea : acc items.length = (items.filter keep).map val := by
        show ((items.take items.length).filter keep).map val = _
        rw [List.take_length]
      rw [ea] at h2
      have nl := S1.fresh hD
      have nB := S1.freshB hD
      refine q (.ref D) H2 (e1.trans e2) ⟨D, vs6, rfl, ?_, RepL.mono ?_ h2⟩
      · have z : fz A C H2 D = some (.lst vs6) := by rw [mk_at nl]; exact h1
        unfold rg
        cases t with
        | false => exact z
        | true =>
          show (if (b.B D).isNone = true then _ else _) = _
          rw [nB]
          exact z
      · exact rg_ex (fz_less S.len)
/-- the block's context -/
abbrev Blk (X : Cx) (scope : Scope) (P : Cx → Prop) : Prop := ∀ (s : Shared) (H : Hp) (c : Addr) (cl : List (Str × Addr)) (fp : List Addr), P (X.blk s H scope (compEnvC scope cl c X.env) fp)
def bG (X : Cx) (scope : Scope) (tg : Expr) : TG := fun v s H k => ∀ (s' : Shared) (H' : Hp) (c : Addr) (cl : List (Str × Addr)) (fp : List Addr), wG (X.blk s' H' scope (compEnvC scope cl c X.env) fp) tg v s H k
def bT (X : Cx) (scope : Scope) (ifs : List Expr) : TT := fun s H k => ∀ (s' : Shared) (H' : Hp) (c : Addr) (cl : List (Str × Addr)) (fp : List Addr), wTs (X.blk s' H' scope (compEnvC scope cl c X.env) fp) ifs s H k
def bE (X : Cx) (scope : Scope) (e : Expr) : TE := fun s H k => ∀ (s' : Shared) (H' : Hp) (c : Addr) (cl : List (Str × Addr)) (fp : List Addr), wE (X.blk s' H' scope (compEnvC scope cl c X.env) fp) e s H k
/-- [elt for tg in iter if ..] -/
theorem ep_lc {β : Type} (own : List (Str × Nat)) (items : List β) (enc : β → D) (keep : β → Bool) (val : β → D) (Gt : β → List (Option El)) {ns : List Nat} {scope : Scope} (hc : X.calm = true) (hN : X.N.Nodup) (ok : BlkOk X.N X.env.scope scope own)
    {ds : List D} (hi : IT X b0 G C tg iter u ds) (hds : ds = items.map enc) (hl : items.length ≤ 100000)
    (hg : ∀ (o : Ob) (x : β), x ∈ items → Blk X scope fun Y => AG Y b0 (wipeG G (own.map (·.2))) (C ++ [some o]) tg (.v u (enc x)) ns (Gt x))
    (ht : ∀ (o : Ob) (x : β), x ∈ items → Blk X scope fun Y => ETs Y b0 (Gt x) (C ++ [some o]) ifs (keep x))
    (he : ∀ (o : Ob) (x : β), x ∈ items → keep x = true → Blk X scope fun Y => EP Y b0 (Gt x) (C ++ [some o]) elt (.v t (val x)))
    (hn : ∀ i ∈ ns, i ∈ own.map (·.2) := by decide) (hs : ∀ x, foldedSetIterable iter X.env x = pure x := by intro _; rfl) : EP X b0 G C (.ListComp elt [⟨tg, iter, ifs, 0⟩] scope p) (.v t (.lst ((items.filter keep).map val))) :=
  fun b A s H S k q => ⟨_, pe_lc hc hN wI_ok ok (g := bG X scope tg) (tt := bT X scope ifs) (te := bE X scope elt) (fun s' H' c cl fp => ⟨fun pins s2 σ H2 v u Q I r h => wG_ok.run pins s2 σ H2 v u Q I r (h s' H' c cl fp)⟩)
      (fun s' H' c cl fp => ⟨fun pins s2 σ H2 Q I h => wTs_ok.run pins s2 σ H2 Q I (h s' H' c cl fp)⟩) (fun s' H' c cl fp => ⟨fun pins s2 σ H2 Q I h => wE_ok.run pins s2 σ H2 Q I (h s' H' c cl fp)⟩) hs,
    lc_main hn hl (fun o x hx b A s H v S r k q s' H' c cl fp => hg o x hx s' H' c cl fp b A s H v S r k q) (fun o x hx b A s H S k q s' H' c cl fp => ht o x hx s' H' c cl fp b A s H S k q) (fun o x hx hk b A s H S k q s' H' c cl fp => he o x hx hk s' H' c cl fp b A s H S k q) (hds ▸ hi) b A s H S k q⟩
/-- y = [elt for tg in iter if ..] -/
theorem st_lc {β : Type} (n : Nat) (own : List (Str × Nat)) (items : List β) (enc : β → D) (keep : β → Bool) (val : β → D) (Gt : β → List (Option El)) {ns : List Nat} {scope : Scope} {y : Str} {py sp : Pos} (hc : X.calm = true) (hN : X.N.Nodup) (hy : X.N[n]? = some y) (hyl : X.env.scope.names.lookup y = some .local)
    (ok : BlkOk X.N X.env.scope scope own) (hk : X.env.scope.kind = .function) (ha : (scope.names.any fun (n, k) => n == y && (k == .local || k == .cell)) = false)
    {ds : List D} (hi : IT X b0 G C tg iter u ds) (hds : ds = items.map enc) (hl : items.length ≤ 100000)
    (hg : ∀ (o : Ob) (x : β), x ∈ items → Blk X scope fun Y => AG Y b0 (wipeG G (own.map (·.2))) (C ++ [some o]) tg (.v u (enc x)) ns (Gt x))
    (ht : ∀ (o : Ob) (x : β), x ∈ items → Blk X scope fun Y => ETs Y b0 (Gt x) (C ++ [some o]) ifs (keep x))
    (he : ∀ (o : Ob) (x : β), x ∈ items → keep x = true → Blk X scope fun Y => EP Y b0 (Gt x) (C ++ [some o]) elt (.v t (val x)))
    (hn : ∀ i ∈ ns, i ∈ own.map (·.2) := by decide) (hs : ∀ x, foldedSetIterable iter X.env x = pure x := by intro _; rfl) (hli : (py.line == p.line) = true := by rfl) :
    ST X b0 G C (.Assign [.Name y py] (.ListComp elt [⟨tg, iter, ifs, 0⟩] scope p) sp) (G.set n (some (.v t (.lst ((items.filter keep).map val))))) C :=
  fun b A s H D S k => ⟨_, ps_setLc hc hN hy hyl (sw_true hk hyl hli ha) wI_ok ok (g := bG X scope tg) (tt := bT X scope ifs) (te := bE X scope elt) (fun s' H' c cl fp => ⟨fun pins s2 σ H2 v u Q I r h => wG_ok.run pins s2 σ H2 v u Q I r (h s' H' c cl fp)⟩)
      (fun s' H' c cl fp => ⟨fun pins s2 σ H2 Q I h => wTs_ok.run pins s2 σ H2 Q I (h s' H' c cl fp)⟩) (fun s' H' c cl fp => ⟨fun pins s2 σ H2 Q I h => wE_ok.run pins s2 σ H2 Q I (h s' H' c cl fp)⟩) hs,
    lc_main hn hl (fun o x hx b A s H v S r k q s' H' c cl fp => hg o x hx s' H' c cl fp b A s H v S r k q) (fun o x hx b A s H S k q s' H' c cl fp => ht o x hx s' H' c cl fp b A s H S k q) (fun o x hx hk b A s H S k q s' H' c cl fp => he o x hx hk s' H' c cl fp b A s H S k q) (hds ▸ hi) b A s H S _ fun v H' e r => k A _ _ ((S.ext e).put r)⟩
end
end Q
namespace Q
open PySem L2

/-- the built-ins' names are free -/
structure Bl (mg : Str → Option Value) : Prop where
  len : mg "len" = none
  range : mg "range" = none
  zip : mg "zip" = none
  enumerate : mg "enumerate" = none
  reversed : mg "reversed" = none
  int : mg "int" = none
  str : mg "str" = none
  bool : mg "bool" = none
  list : mg "list" = none
  tuple : mg "tuple" = none
  dict : mg "dict" = none
  set : mg "set" = none
  sorted : mg "sorted" = none
  min : mg "min" = none
  max : mg "max" = none
  sum : mg "sum" = none
  all : mg "all" = none
  any : mg "any" = none
  isinstance : mg "isinstance" = none
  divmod : mg "divmod" = none
  verr : mg "ValueError" = none

/-! ### subscripts -/
def cutL {α : Type} (xs : List α) (lo hi : Option Int) : List α := (xs.drop (HT.sIx xs.length 0 lo)).take (HT.sIx xs.length xs.length hi - HT.sIx xs.length 0 lo)
theorem RepL.drop {M : Hp} : ∀ {ds : List D} {vs : List V} (n : Nat), RepL M ds vs → RepL M (ds.drop n) (vs.drop n)
  | _, _, 0, h => h
  | [], _, n + 1, h => by rw [show _ = [] from h]; simp [RepL]
  | d :: ds, _, n + 1, ⟨v, r, e, h1, h2⟩ => by subst e; exact h2.drop n
theorem RepL.take {M : Hp} : ∀ {ds : List D} {vs : List V} (n : Nat), RepL M ds vs → RepL M (ds.take n) (vs.take n)
  | _, _, 0, h => by simp [RepL]
  | [], _, n + 1, h => by rw [show _ = [] from h]; simp [RepL]
  | d :: ds, _, n + 1, ⟨v, r, e, h1, h2⟩ => by subst e; exact ⟨v, r.take n, rfl, h1, h2.take n⟩
theorem RepL.cut {M : Hp} {ds : List D} {vs : List V} {lo hi : Option Int} (h : RepL M ds vs) : RepL M (cutL ds lo hi) (cutV vs lo hi) := by
  unfold cutL cutV
  rw [h.len]
  exact (h.drop _).take _
theorem RepL.atI {M : Hp} {ds : List D} {vs : List V} {i : Int} {d : D} (h : RepL M ds vs) (hd : L2.atI ds i = some d) : ∃ v, L2.atI vs i = some v ∧ Rep M d v := by
  unfold L2.atI at hd ⊢
  rw [← h.len]
  cases e : ixN ds.length i with
  | none => rw [e] at hd; cases hd
  | some j =>
    rw [e] at hd
    exact h.get hd
section
variable {X : Cx} {G : List (Option El)} {C : Cs} {a b e : Expr} {es : List Expr} {p p2 : Pos} {t u : Bool} {ds : List D} {d : D} {i : Int} {r : El}
theorem ep_ix (ha : EP X b0 G C a (.v t (.lst ds))) (hb : EP X b0 G C b (.v u (.int i))) (h : L2.atI ds i = some d) (hs : PlainIx b := by exact fun _ _ => rfl) : EP X b0 G C (.Subscript a b p) (.v t d) :=
  fun c A s H S k q => ⟨_, pe_ix ix_list wE_ok wE_ok hs, ha c A s H S _ fun x H1 e1 r1 => hb c A s H1 (S.ext e1) _ fun y H2 e2 r2 => by
    obtain ⟨l, vs, ev, rd, hv⟩ := r1
    obtain ⟨v, h1, h2⟩ := hv.atI h
    exact ⟨l, vs, i, v, ev, r2, lst_go rd (Go.of e2), h1, q v H2 (e1.trans e2) (Rep.mono (rg_ex (Go.of e2).ex) h2)⟩⟩
theorem ep_ixT (ha : EP X b0 G C a (.v t (.tup ds))) (hb : EP X b0 G C b (.v u (.int i))) (h : L2.atI ds i = some d) (hs : PlainIx b := by exact fun _ _ => rfl) : EP X b0 G C (.Subscript a b p) (.v t d) :=
  fun c A s H S k q => ⟨_, pe_ix ix_tup wE_ok wE_ok hs, ha c A s H S _ fun x H1 e1 r1 => hb c A s H1 (S.ext e1) _ fun y H2 e2 r2 => by
    obtain ⟨l, vs, ev, rd, hv⟩ := r1
    obtain ⟨v, h1, h2⟩ := hv.atI h
    exact ⟨l, vs, i, v, ev, r2, tup_go rd (Go.of e2), h1, q v H2 (e1.trans e2) (Rep.mono (rg_ex (Go.of e2).ex) h2)⟩⟩
theorem ep_ixS {w : Str} {c : Nat} (ha : EP X b0 G C a (.v t (.str w))) (hb : EP X b0 G C b (.v u (.int i))) (hl : w.length ≤ sizeLine) (h : L2.atI w.cps.toList i = some c) (hs : PlainIx b := by exact fun _ _ => rfl) : EP X b0 G C (.Subscript a b p) (S ⟨#[c]⟩) :=
  fun f A s H S k q => ⟨_, pe_ix ix_str wE_ok wE_ok hs, ha f A s H S _ fun x H1 e1 r1 => hb f A s H1 (S.ext e1) _ fun y H2 e2 r2 => ⟨w, i, c, r1, r2, hl, h, q _ H2 (e1.trans e2) rfl⟩⟩
/-- owned: a list, a tuple -/
theorem ep_ixC {n : Nat} (ha : EP X b0 G C a (.at n)) (hC : C[n]? = some (some (.lst t ds))) (hb : EP X b0 G C b (.v u (.int i))) (h : L2.atI ds i = some d) (hs : PlainIx b := by exact fun _ _ => rfl) : EP X b0 G C (.Subscript a b p) (.v t d) :=
  fun c A s H S k q => ⟨_, pe_ix ix_list wE_ok wE_ok hs, ha c A s H S _ fun x H1 e1 r1 => hb c A s H1 (S.ext e1) _ fun y H2 e2 r2 => by
    obtain ⟨l, ea, ev⟩ := r1
    obtain ⟨vs, h3, hv⟩ := ((S.ext e1).ext e2).cell n l _ ea hC
    obtain ⟨v, h1, h2⟩ := hv.atI h
    exact ⟨l, vs, i, v, ev, r2, .inl (.inl h3), h1, q v H2 (e1.trans e2) h2⟩⟩
/-- a slice's bound -/
def EO (X : Cx) (b0 : Bs) (G : List (Option El)) (C : Cs) (o : Option Expr) (v : Option Int) : Prop := ∀ (b : Bs) (A : List Addr) (s : St) (H : Hp), Sat b0 b A G C s H → ∀ k : Option Int → Hp → Prop, (∀ H', Ex H H' → k v H') → ∃ t, PO X o t ∧ t s H k
theorem eo_none : EO X b0 G C none none := fun b A s H S k q => ⟨_, po_none, q H (Evl.Ex.refl H)⟩
theorem eo_some (h : EP X b0 G C e (.v t (.int i))) : EO X b0 G C (some e) (some i) := fun b A s H S k q => ⟨_, po_some wE_ok, h b A s H S _ fun v H' e r => ⟨i, r, q H' e⟩⟩
def wO (X : Cx) (o : Option Expr) : TO := fun s H k => ∃ t, PO X o t ∧ t s H k
theorem wO_ok {X : Cx} {o : Option Expr} : PO X o (wO X o) := ⟨fun pins s q H k I ⟨_, h, z⟩ => h.run pins s q H k I z⟩
theorem ep_cut {lo hi : Option Expr} {x y : Option Int} (ha : EP X b0 G C a (.v t (.lst ds))) (hl : EO X b0 G C lo x) (hh : EO X b0 G C hi y) : EP X b0 G C (.Subscript a (.Slice lo hi none p2) p) (.v t (.lst (cutL ds x y))) :=
  fun c A s H S k q => ⟨_, pe_slice sl_list wE_ok wO_ok wO_ok, ha c A s H S _ fun v H1 e1 r1 => hl c A s H1 (S.ext e1) _ fun H2 e2 => hh c A s H2 ((S.ext e1).ext e2) _ fun H3 e3 => by
    obtain ⟨l, vs, ev, rd, hv⟩ := r1
    have S3 := ((S.ext e1).ext e2).ext e3
    have g : Go A C H1 A C H3 := Go.of (e2.trans e3)
    exact ⟨l, vs, ev, lst_go rd g, fun w hw => q _ _ (((e1.trans e2).trans e3).trans (Evl.Ex.new hw)) (S3.newL hw (RepL.mono (rg_ex g.ex) hv).cut)⟩⟩
/-- the script's slice, and whatever list stands by itself -/
theorem ep_cutC {n : Nat} {lo hi : Option Expr} {x y : Option Int} (ha : EP X b0 G C a (.at n)) (hC : C[n]? = some (some (.lst t ds))) (hl : EO X b0 G C lo x) (hh : EO X b0 G C hi y) : EP X b0 G C (.Subscript a (.Slice lo hi none p2) p) (.v t (.lst (cutL ds x y))) :=
  fun c A s H S k q => ⟨_, pe_slice sl_list wE_ok wO_ok wO_ok, ha c A s H S _ fun v H1 e1 r1 => hl c A s H1 (S.ext e1) _ fun H2 e2 => hh c A s H2 ((S.ext e1).ext e2) _ fun H3 e3 => by
    have S3 := ((S.ext e1).ext e2).ext e3
    obtain ⟨l, ea, ev⟩ := r1
    obtain ⟨vs, h3, hv⟩ := S3.cell n l _ ea hC
    exact ⟨l, vs, ev, .inl (.inl h3), fun w hw => q _ _ (((e1.trans e2).trans e3).trans (Evl.Ex.new hw)) (S3.newL hw hv.cut)⟩⟩

/-! ### built-ins -/
theorem one_ {b : Bs} {A : List Addr} {H : Hp} {vs : List V} (h : All2 (RepE b.B A C H) [r] vs) : ∃ v, vs = [v] ∧ RepE b.B A C H r v := by
  cases h with
  | cons a l =>
    cases l
    exact ⟨_, rfl, a⟩
theorem two_ {b : Bs} {A : List Addr} {H : Hp} {vs : List V} {r2 : El} (h : All2 (RepE b.B A C H) [r, r2] vs) : ∃ v w, vs = [v, w] ∧ RepE b.B A C H r v ∧ RepE b.B A C H r2 w := by
  cases h with
  | cons a l =>
    cases l with
    | cons a2 l =>
      cases l
      exact ⟨_, _, rfl, a, a2⟩
/-- len(x) -/
inductive LenE (Cc : Cs) : El → Nat → Prop
  | lst {t : Bool} {ds : List D} : LenE Cc (.v t (.lst ds)) ds.length
  | tup {t : Bool} {ds : List D} : LenE Cc (.v t (.tup ds)) ds.length
  | str {t : Bool} {w : Str} (h : w.length ≤ sizeLine) : LenE Cc (.v t (.str w)) w.length
  | cell {n : Nat} {t : Bool} {ds : List D} (h : Cc[n]? = some (some (.lst t ds))) : LenE Cc (.at n) ds.length
theorem ep_len (B : Bl X.mg) {n : Nat} (hg : Gl X "len") (ha : EP X b0 G C e r) (h : LenE C r n) (hs : starEach [e] X.env = (false, eval e X.env) :: starEach [] X.env := by rfl) : EP X b0 G C (.Call (.Name "len" p2) [e] [] p) (I n) :=
  ep_blt (x := "") call_len hg B.len boot_len (ea_cons ha ea_nil hs) (fun f A s H vs S ra k q => by
    obtain ⟨v, rfl, rb⟩ := one_ ra
    refine ⟨v, n, rfl, ?_, q _ H (Evl.Ex.refl H) rfl⟩
    cases h with
    | lst =>
      obtain ⟨l, ws, ev, rd, hv⟩ := rb
      subst ev
      exact .inl ⟨ws, lst_go rd Go.refl, hv.len⟩
    | tup =>
      obtain ⟨l, ws, ev, rd, hv⟩ := rb
      subst ev
      exact .inr ⟨ws, tup_go rd Go.refl, hv.len⟩
    | @str _ w h =>
      have e : v = .str w := rb
      subst e
      exact ⟨h, rfl⟩
    | cell hC =>
      obtain ⟨l, ea, ev⟩ := rb
      subst ev
      obtain ⟨ws, h3, hv⟩ := S.cell _ l _ ea hC
      exact .inl ⟨ws, .inl (.inl h3), hv.len⟩) (he := hs)
theorem ep_intB (B : Bl X.mg) {c : Bool} (hg : Gl X "int") (ha : EP X b0 G C e (.v t (.bl c))) (hs : starEach [e] X.env = (false, eval e X.env) :: starEach [] X.env := by rfl) : EP X b0 G C (.Call (.Name "int" p2) [e] [] p) (I (if c then 1 else 0)) :=
  ep_bty call_int1 hg B.int PyProof.Rows.boot_int (ea_cons ha ea_nil hs) (fun f A s H vs S ra k q => by
    obtain ⟨v, rfl, rb⟩ := one_ ra
    have e : v = .bl c := rb
    subst e
    exact .inr ⟨c, rfl, q _ H (Evl.Ex.refl H) rfl⟩) (he := hs)
theorem ep_min2 (B : Bl X.mg) {j : Int} (hc : X.calm = true) (hg : Gl X "min") (ha : EA X b0 G C [a, b] [.v t (.int i), .v u (.int j)]) (hs : starEach [a, b] X.env = (false, eval a X.env) :: starEach [b] X.env := by rfl) (hpl : (backTo p (starEach [b] X.env)).any (·.1) = false := by rfl) : EP X b0 G C (.Call (.Name "min" p2) [a, b] [] p) (I (if j < i then j else i)) :=
  ep_blt (x := "") (call_min2 hc) hg B.min PyProof.Rows.boot_min ha (fun f A s H vs S ra k q => by
    obtain ⟨v, w, rfl, r1, r2⟩ := two_ ra
    have e : v = .int i := r1
    have e2 : w = .int j := r2
    subst e e2
    exact ⟨i, j, rfl, q _ H (Evl.Ex.refl H) rfl⟩) (he := hs) (hpl := hpl)
theorem ep_max2 (B : Bl X.mg) {j : Int} (hc : X.calm = true) (hg : Gl X "max") (ha : EA X b0 G C [a, b] [.v t (.int i), .v u (.int j)]) (hs : starEach [a, b] X.env = (false, eval a X.env) :: starEach [b] X.env := by rfl) (hpl : (backTo p (starEach [b] X.env)).any (·.1) = false := by rfl) : EP X b0 G C (.Call (.Name "max" p2) [a, b] [] p) (I (if j > i then j else i)) :=
  ep_blt (x := "") (call_max2 hc) hg B.max PyProof.Rows.boot_max ha (fun f A s H vs S ra k q => by
    obtain ⟨v, w, rfl, r1, r2⟩ := two_ ra
    have e : v = .int i := r1
    have e2 : w = .int j := r2
    subst e e2
    exact ⟨i, j, rfl, q _ H (Evl.Ex.refl H) rfl⟩) (he := hs) (hpl := hpl)
theorem ep_divmod (B : Bl X.mg) {j : Int} (hg : Gl X "divmod") (ha : EA X b0 G C [a, b] [.v t (.int i), .v u (.int j)]) (hj : 0 < j ∧ j < 1073741824) (hs : starEach [a, b] X.env = (false, eval a X.env) :: starEach [b] X.env := by rfl) (hpl : (backTo p (starEach [b] X.env)).any (·.1) = false := by rfl) : EP X b0 G C (.Call (.Name "divmod" p2) [a, b] [] p) (.v true (.tup [.int (i / j), .int (i % j)])) :=
  ep_blt (x := "") call_divmod hg B.divmod PyProof.Rows.boot_divmod ha (fun f A s H vs S ra k q => by
    obtain ⟨v, w, rfl, r1, r2⟩ := two_ ra
    have e : v = .int i := r1
    have e2 : w = .int j := r2
    subst e e2
    exact ⟨i, j, rfl, hj, fun o ho => q _ _ (Evl.Ex.new ho) (S.newT ho ⟨_, _, rfl, rfl, _, _, rfl, rfl, rfl⟩)⟩) (he := hs) (hpl := hpl)
/-- the built-in type of plain data -/
def tyD : D → Option String
  | .non => some "NoneType"
  | .bl _ => some "bool"
  | .int _ => some "int"
  | .str _ => some "str"
  | .lst _ => some "list"
  | .tup _ => some "tuple"
  | .dk _ => some "dict"
  | _ => none
theorem tyD_ok {K : PySem.W.Frag} {H : Hp} {d : D} {v : V} {T : String} (h : Rep H d v) (e : tyD d = some T) : TyX K H v (.type T) := by
  cases d with
  | non => cases e; rw [show v = .non from h]; exact .base .non
  | bl b => cases e; rw [show v = .bl b from h]; exact .base (.bl b)
  | int b => cases e; rw [show v = .int b from h]; exact .base (.int b)
  | str b => cases e; rw [show v = .str b from h]; exact .base (.str b)
  | lst l =>
    cases e
    obtain ⟨a, vs, rfl, rd, _⟩ := h
    exact .base (.lst rd)
  | tup l =>
    cases e
    obtain ⟨a, vs, rfl, rd, _⟩ := h
    exact .base (.tup rd)
  | dk l =>
    cases e
    obtain ⟨a, vs, rfl, rd | ⟨o, rd⟩, _⟩ := h
    · exact .base (.dK rd)
    · exact .fDict rd
  | dt l => cases e
  | ins K l => cases e
  | ref a => cases e
  | ty n => cases e
  | scr K l => cases e
theorem scr_go {b : Bs} {A A' : List Addr} {C' : Cs} {H H' : Hp} {K : PySem.W.Frag} {a : Addr} {vs : List V} (rd : Rd (rg t b.B A C H) a (.lst vs) ∨ SqL K (fun _ => none) a vs) (g : Go A C H A' C' H') : SqL K H' a vs := by
  rcases rd with rd | (rd | ⟨_, rd⟩) | rd
  · exact .inl (Evl.ex_rd (fun _ _ z => mk_of (rg_sub _ _ z)) (Evl.ex_rd (rg_ex g.ex) rd))
  · cases rd
  · cases rd
  · exact .inr rd
theorem rep_ints {M : Hp} : ∀ {l : List Int}, RepL M (l.map D.int) (l.map V.int)
  | [] => rfl
  | i :: l => ⟨_, _, rfl, rfl, rep_ints⟩
/-- the script -/
theorem ep_ixR {l : List Int} {z : Int} (ha : EP X b0 G C a (.v t (.scr X.K l))) (hb : EP X b0 G C b (.v u (.int i))) (h : L2.atI l i = some z) (hs : PlainIx b := by exact fun _ _ => rfl) : EP X b0 G C (.Subscript a b p) (Q.I z) :=
  fun c A s H S k q => ⟨_, pe_ix ix_list wE_ok wE_ok hs, ha c A s H S _ fun x H1 e1 r1 => hb c A s H1 (S.ext e1) _ fun y H2 e2 r2 => by
    obtain ⟨o, ev, rd⟩ := r1
    refine ⟨o, l.map V.int, i, .int z, ev, r2, scr_go rd (Go.of e2), ?_, q _ H2 (e1.trans e2) rfl⟩
    unfold L2.atI at h ⊢
    rw [List.length_map]
    cases e : ixN l.length i with
    | none => rw [e] at h; cases h
    | some j =>
      rw [e] at h
      show (l.map V.int)[j]? = _
      rw [List.getElem?_map, show l[j]? = some z from h]
      rfl⟩
theorem ep_cutR {l : List Int} {lo hi : Option Expr} {x y : Option Int} (ha : EP X b0 G C a (.v t (.scr X.K l))) (hl : EO X b0 G C lo x) (hh : EO X b0 G C hi y) : EP X b0 G C (.Subscript a (.Slice lo hi none p2) p) (.v true (.lst ((cutL l x y).map D.int))) :=
  fun c A s H S k q => ⟨_, pe_slice sl_list wE_ok wO_ok wO_ok, ha c A s H S _ fun v H1 e1 r1 => hl c A s H1 (S.ext e1) _ fun H2 e2 => hh c A s H2 ((S.ext e1).ext e2) _ fun H3 e3 => by
    obtain ⟨o, ev, rd⟩ := r1
    have S3 := ((S.ext e1).ext e2).ext e3
    refine ⟨o, _, ev, scr_go rd (Go.of (e2.trans e3)), fun w hw => q _ _ (((e1.trans e2).trans e3).trans (Evl.Ex.new hw)) (S3.newL hw ?_)⟩
    have e : cutV (l.map V.int) x y = (cutL l x y).map V.int := by
      unfold cutV cutL
      rw [List.length_map, ← List.map_drop, ← List.map_take]
    rw [e]
    exact rep_ints⟩
theorem ep_lenR (B : Bl X.mg) {l : List Int} (hg : Gl X "len") (ha : EP X b0 G C e (.v t (.scr X.K l))) (hs : starEach [e] X.env = (false, eval e X.env) :: starEach [] X.env := by rfl) : EP X b0 G C (.Call (.Name "len" p2) [e] [] p) (Q.I l.length) :=
  ep_blt (x := "") call_len hg B.len boot_len (ea_cons ha ea_nil hs) (fun f A s H vs S ra k q => by
    obtain ⟨v, rfl, rb⟩ := one_ ra
    obtain ⟨o, ev, rd⟩ := rb
    subst ev
    exact ⟨.ref o, l.length, rfl, .inl ⟨l.map V.int, scr_go rd Go.refl, by rw [List.length_map]⟩, q _ H (Evl.Ex.refl H) rfl⟩) (he := hs)
end
end Q
namespace Q
open PySem L2

/-! ### raise -/
/-- an error class of one's own without an __init__ -/
structure Xc (K : PySem.W.Frag) (mg : Str → Option Value) (x : Str) (c : Addr) : Prop where
  g : mg x = some (.ref c)
  e : PySem.W.excIn K c He.veBase "ValueError.__new__" = true
  kp : PySem.W.keepIn K (.ref c) = true
  sb : PySem.W.subIn K (.ref c) (.type "BaseException") = some true
  ty : PySem.W.typeIn K (.ref c) = some (.type "type")
section
variable {X : Cx} {b0 : Bs} {G : List (Option El)} {C : Cs} {W : De} {W0 : WX} {rest : List Stmt} {p p2 p3 p4 : Pos} {x m : Str} {c : Addr} {j : Nat}
theorem wb_raise (tk : Takes X W0) (hc : X.calm = true) (E : Xc X.K X.mg x c) (hg : Gl X x) (h : ∀ b A s H, Sat b0 b A G C s H → W0 (.ref c) none s H) (hdb : (x == ("__debug__" : Str)) = false := by decide) :
    WB X b0 G C (.Raise (some (.Call (.Name x p) [.Constant (.str m) j p2] [] p3)) none p4 :: rest) W :=
  wb_cons fun b A s H l S => ⟨_, ps_raise hc tk (pmk_own PySem.F.excBase_ValueError E.e E.g E.kp (raises_own E.sb E.ty) hg hdb), h b A s H S⟩

/-! ### try .. except X as n -/
/-- the suite's ends: n is gone behind it -/
def Dsu (X : Cx) (rest : List Stmt) (W : De) (i : Nat) : De := fun b => { nx := fun s H => wB X rest (W b) (s.set i none) H, rt := (W b).rt, bk := fun s H => (W b).bk (s.set i none) H, ct := fun s H => (W b).ct (s.set i none) H }
theorem Sat.gone {b : Bs} {A : List Addr} {s : St} {H : Hp} (S : Sat b0 b A G C s H) (i : Nat) : Sat b0 b A (G.set i none) C (s.set i none) H :=
  ⟨S.len, S.nd, S.bf, S.ex, S.pre, S.cell, S.slot.set (fun e he => by cases he) i, S.lb⟩
theorem wb_suite {Y : Cx} {i : Nat} (h : WB X b0 (G.set i none) C rest W) : WB Y b0 G C [] (Dsu X rest W i) := wb_nil fun b A s H l S => h b A _ H l (S.gone i)
theorem WB.up {b1 : Bs} {ss : List Stmt} (h : WB X b0 G C ss W) (l : b0.le b1) : WB X b1 G C ss W := fun b A s H l1 S => h b A s H (l.trans l1) ⟨S.len, S.nd, S.bf, S.ex, S.pre, S.cell, S.slot, l.trans S.lb⟩
/-- what raising class cls (with d) in the body must see: the suite runs from there -/
def Caught (X : Cx) (b : Bs) (c : Value) (i : Nat) (suite rest : List Stmt) (W : De) (W0 W1 : WX) : Prop :=
  ∀ (cls : Value) (d : Option Addr) (k : Bool) (b' : Bs) (A : List Addr) (G : List (Option El)) (C : Cs) (s : St) (H : Hp), Sat b b' A G C s H → PySem.W.exmOne X.K cls c = some k →
    (k = true → ∀ (a : Addr) (oe : Obj) (pn : List (Addr × Obj)), Zc cls d oe → (∃ vs, oe.data = .fields vs) → WB (X.suite a ((a, oe) :: pn)) b (G.set i (some (.v true (.ref a)))) C suite (Dsu X rest W i)) → (k = false → W0 cls d s H) → W1 cls d s H
theorem wb_try_as (i : Nat) {n : Str} {b₀ : Stmt} {body suite : List Stmt} {np pos' pos : Pos} {cv : Value} (tk : Takes X W0) (hs : X.stack = X.env :: X.outer) (hf : X.env.frame = some X.env.locals) (hN : X.N.Nodup) (hi : X.N[i]? = some n) (hln : X.env.kindOf n = some .local) (hc : Names X x cv)
    (hb : ∀ (b : Bs) (pn : List (Addr × Obj)) (xe : Value → Shared → Prop) (W1 : WX), b0.le b → Takes (X.tr pn xe) W1 → PassesOwn (model X.prog X.w) X.A X.env xe → Caught X b cv i (b₀ :: suite) rest W W0 W1 → WB (X.tr pn xe) b G C body (Dr X rest W)) :
    WB X b0 G C (.Try body [.ExceptHandler (some (.Name x np)) (some n) (b₀ :: suite) pos'] [] [] pos :: rest) W :=
  wb_cons fun b A s H l S => by
    refine ⟨_, ps_try_as (i := i) (tb := fun W' D s H => ∀ pn xe, Takes (X.tr pn xe) W' → PassesOwn (model X.prog X.w) X.A X.env xe → wB (X.tr pn xe) body D s H)
      (ts := fun a cls d D s H => ∀ oe pn, Zc cls d oe → (∃ vs, oe.data = .fields vs) → wB (X.suite a ((a, oe) :: pn)) (b₀ :: suite) D s H) hs hf hN hi hln hc tk (fun W' pn xe t1 p1 => ⟨fun pins s2 q H2 D I h => wB_ok.run pins s2 q H2 D I (h pn xe t1 p1)⟩)
      (fun a oe cls d pn hz hv => ⟨fun pins s2 q H2 D I h => wB_ok.run pins s2 q H2 D I (h oe pn hz hv)⟩), fun pn xe t1 p1 => ?_⟩
    have S' : Sat b b A G C s H := ⟨S.len, S.nd, S.bf, S.ex, S.pre, S.cell, S.slot, Bs.le.refl b⟩
    refine hb b pn xe _ l t1 p1 ?_ b A s H (Bs.le.refl b) S'
    intro cls d k b' A2 G2 C2 s2 H2 S2 hm h1 h2
    refine ⟨k, hm, fun hk a _ oe pn2 hz hv => ?_, h2⟩
    have S3 : Sat b b A2 G2 C2 s2 H2 := S2.base S2.lb S.bf (Bs.le.refl b)
    exact h1 hk a oe pn2 hz hv b A2 _ H2 (Bs.le.refl b) (S3.put (r := .v true (.ref a)) rfl)
end

/-! ### isinstance -/
section
variable {X : Cx} {b0 : Bs} {G : List (Option El)} {C : Cs} {a b e : Expr} {es : List Expr} {p p2 : Pos} {t u : Bool} {ds : List D} {d : D} {r : El} {k : Bool}
/-- a built-in class's name as a value -/
theorem ep_bltn {x T : String} (hg : Gl X (x : Str)) (hm : X.mg (x : Str) = none) (hv : bootBuiltins (x : Str) = some (.type T)) (hn : (x : Str) ≠ "__name__" := by decide) (hd : ((x : Str) == ("__debug__" : Str)) = false := by decide) : EP X b0 G C (.Name (x : Str) p) (.v true (.ty T)) :=
  fun b A s H S k q => ⟨_, pe_bltn (v := .ty T) hg hm hv rfl hn hd, q _ H (Evl.Ex.refl H) rfl⟩
/-- a class's or def's name as a value -/
theorem ep_ref {x : Str} {c : Addr} (hg : Gl X x) (hm : X.mg x = some (.ref c)) (hd : (x == ("__debug__" : Str)) = false := by decide) : EP X b0 G C (.Name x p) (.v true (.ref c)) :=
  ep_glob hg hm (x := .ref c) rfl rfl hd
/-- plain data of a built-in type, a built-in type -/
theorem ep_isB (B : Bl X.mg) {T T2 : String} (hg : Gl X "isinstance") (ha : EA X b0 G C [a, b] [.v t d, .v u (.ty T2)]) (hd : tyD d = some T) (hk : kitB T T2 = some k) (hs : starEach [a, b] X.env = (false, eval a X.env) :: starEach [b] X.env := by rfl) (hpl : (backTo p (starEach [b] X.env)).any (·.1) = false := by rfl) :
    EP X b0 G C (.Call (.Name "isinstance" p2) [a, b] [] p) (Bo k) :=
  ep_blt (x := "") call_isi hg B.isinstance PyProof.Rows.boot_isinstance ha (fun f A s H vs S ra q hq => by
    obtain ⟨v, w, rfl, r1, r2⟩ := two_ ra
    have e2 : w = .ty T2 := r2
    subst e2
    exact ⟨v, .ty T2, .type T, .type T2, k, rfl, .ty T2, tyD_ok (Rep.mono (fun _ _ z => mk_of (rg_sub _ _ z)) r1) hd, kit_ty hk, hq _ H (Evl.Ex.refl H) rfl⟩) (he := hs) (hpl := hpl)
def clsV : D → Option Value
  | .ref a => some (.ref a)
  | .ty n => some (.type n)
  | _ => none
/-- isinstance of the caught exception -/
def rIsET (K : PySem.W.Frag) (D a : Addr) : List V → Hp → VK → Prop := fun xs H Q => ∃ (tp : Addr) (cs : List V) (us : List Value) (b : Bool), xs = [.ref a, .ref tp] ∧ H tp = some (.tup cs) ∧ Paired ClsV cs us ∧ PySem.W.kitAny K (.ref D) us = some b ∧ Q (.bl b) H
theorem call_isET {X : Cx} {a D : Addr} {oe : Obj} {pn : List (Addr × Obj)} (C : ExcC X.K D) (hz : Zc (.ref D) none oe) (hf : ∃ vs, oe.data = .fields vs) : CallR (X.suite a ((a, oe) :: pn)) (.builtin "isinstance") (rIsET X.K D a) := by
  intro pins s σ H xs us Q I r h
  obtain ⟨tp, cs, ws, b, rfl, hT, k, e, q⟩ := h
  cases r with
  | cons rx rr =>
    cases rr with
    | cons rt rr =>
      cases rr
      cases rx
      cases rt
      obtain ⟨hget, _⟩ := I.pin (a, oe) (List.mem_append.mpr (.inl List.mem_cons_self))
      obtain ⟨vs, hv⟩ := hf
      have J : PySem.W.InstAt s.heap a oe D none := by
        obtain ⟨oc, od, oda, osl⟩ := oe
        obtain ⟨h1, h2⟩ := hz
        dsimp only at h1 h2 hv
        subst h1 h2 hv
        exact ⟨hget, rfl, rfl, trivial⟩
      obtain ⟨_, its, rv, o, h1, h2, n, h3⟩ := (show ObjOk X.prog X.w H s.heap tp (.tup cs) from I.hok tp _ hT)
      have e3 := ClsV.all k rv
      subst e3
      obtain ⟨oc, od, dt, sl⟩ := o
      simp only at h2 h3
      subst h2 h3
      exact PySem.W.kia_tup (PySem.W.handS_kitx_exc C.hg C.hk C.hs C.hd C.ha C.hn C.ht C.hm) I.kIn J h1 e (fun z => nomatch z) fun tk => ⟨.bl b, H, I.kept (t' := tk) fun _ _ z => z, rfl, q⟩
variable {x : Addr} {c : Addr} {oe : Obj} {pn : List (Addr × Obj)}
theorem ep_isE (B : Bl X.mg) {cv : Value} (Cc : ExcC X.K c) (hz : Zc (.ref c) none oe) (hf : ∃ vs, oe.data = .fields vs) (hg : Gl (X.suite x ((x, oe) :: pn)) "isinstance") (ha : EA (X.suite x ((x, oe) :: pn)) b0 G C [a, b] [.v t (.ref x), .v u d]) (hd : clsV d = some cv) (hk : PySem.W.kitOne X.K (.ref c) cv = some k)
    (hs : starEach [a, b] X.env = (false, eval a X.env) :: starEach [b] X.env := by rfl) (hpl : (backTo p (starEach [b] X.env)).any (·.1) = false := by rfl) :
    EP (X.suite x ((x, oe) :: pn)) b0 G C (.Call (.Name "isinstance" p2) [a, b] [] p) (Bo k) :=
  ep_blt (X := X.suite x ((x, oe) :: pn)) (x := "") (call_isE Cc hz hf) hg B.isinstance PyProof.Rows.boot_isinstance ha (fun f A s H vs S ra q hq => by
    obtain ⟨v, w, rfl, r1, r2⟩ := two_ ra
    have e1 : v = .ref x := r1
    subst e1
    cases d <;> simp [clsV] at hd
    · subst hd
      rename_i a2
      have e2 : w = .ref a2 := r2
      subst e2
      exact ⟨.ref a2, _, k, rfl, fun u hu => hu, hk, hq _ H (Evl.Ex.refl H) rfl⟩
    · subst hd
      rename_i n2
      have e2 : w = .ty n2 := r2
      subst e2
      exact ⟨.ty n2, _, k, rfl, fun u hu => hu, hk, hq _ H (Evl.Ex.refl H) rfl⟩) (he := hs) (hpl := hpl)
theorem clsVs {M : Hp} : ∀ {ds : List D} {vs : List V} {us : List Value}, RepL M ds vs → ds.mapM clsV = some us → Paired ClsV vs us
  | [], _, us, h, e => by
    rw [show _ = [] from h]
    have : us = [] := by simpa using e.symm
    subst this
    exact .nil
  | d :: ds, _, us, ⟨v, r, ev, h1, h2⟩, e => by
    subst ev
    rw [List.mapM_cons] at e
    cases e1 : clsV d with
    | none => rw [e1] at e; cases e
    | some u =>
      rw [e1] at e
      cases e2 : ds.mapM clsV with
      | none => rw [e2] at e; cases e
      | some us' =>
        rw [e2] at e
        have e3 : u :: us' = us := by simpa using e
        subst e3
        refine .cons ?_ (clsVs h2 e2)
        cases d <;> simp [clsV] at e1
        · subst e1
          rw [show v = .ref _ from h1]
          exact .own _
        · subst e1
          rw [show v = .ty _ from h1]
          exact .ty _
theorem ep_isET (B : Bl X.mg) {us : List Value} (Cc : ExcC X.K c) (hz : Zc (.ref c) none oe) (hf : ∃ vs, oe.data = .fields vs) (hg : Gl (X.suite x ((x, oe) :: pn)) "isinstance") (ha : EA (X.suite x ((x, oe) :: pn)) b0 G C [a, b] [.v t (.ref x), .v u (.tup ds)]) (hd : ds.mapM clsV = some us) (hk : PySem.W.kitAny X.K (.ref c) us = some k)
    (hs : starEach [a, b] X.env = (false, eval a X.env) :: starEach [b] X.env := by rfl) (hpl : (backTo p (starEach [b] X.env)).any (·.1) = false := by rfl) :
    EP (X.suite x ((x, oe) :: pn)) b0 G C (.Call (.Name "isinstance" p2) [a, b] [] p) (Bo k) :=
  ep_blt (X := X.suite x ((x, oe) :: pn)) (x := "") (call_isET Cc hz hf) hg B.isinstance PyProof.Rows.boot_isinstance ha (fun f A s H vs S ra q hq => by
    obtain ⟨v, w, rfl, r1, r2⟩ := two_ ra
    have e1 : v = .ref x := r1
    subst e1
    obtain ⟨tp, ws, rfl, hT, hv⟩ := r2
    exact ⟨tp, ws, us, k, rfl, mk_of (rg_sub _ _ hT), clsVs hv hd, hk, hq _ H (Evl.Ex.refl H) rfl⟩) (he := hs) (hpl := hpl)
end
end Q
namespace Q
open PySem L2

/-! ### one rule a form, the kind of its operands found by it -/
section
variable {X : Cx} {b0 : Bs} {G : List (Option El)} {C : Cs} {a b e o : Expr} {es : List Expr} {p p2 p3 : Pos} {t u : Bool} {ds ds2 : List D} {d d' : D} {r ra rb : El} {rs : List El} {k : Bool} {i j : Int}
/-- a two-place operation, by values -/
structure Bin (X : Cx) (C : Cs) (op : Operator) (ra rb r : El) : Prop where
  run : ∃ R, OpR X (binaryOp op) R ∧ ∀ (b0 c : Bs) (A : List Addr) (G : List (Option El)) (s : St) (H : Hp) (x y : V), Sat b0 c A G C s H → RepE c.B A C H ra x → RepE c.B A C H rb y → ∀ k : VK, (∀ v H', Ex H H' → RepE c.B A C H' r v → k v H') → R x y H k
theorem ep_bin {op : Operator} (ha : EP X b0 G C a ra) (hb : EP X b0 G C b rb) (h : Bin X C op ra rb r) : EP X b0 G C (.BinOp a op b p) r := by
  obtain ⟨R, ho, q⟩ := h.run
  exact ep_op ho ha hb fun c A s H x y => q b0 c A G s H x y
theorem b_I {op : Operator} {P : Int → Int → Prop} {g : Int → Int → Int} (ho : OpR X (binaryOp op) (rI P fun i j => .int (g i j))) (hp : P i j) : Bin X C op (.v t (.int i)) (.v u (.int j)) (I (g i j)) :=
  ⟨_, ho, fun b0 c A G s H x y _ rx ry k q => ⟨i, j, rx, ry, hp, q _ H (Evl.Ex.refl H) rfl⟩⟩
theorem b_I0 {op : Operator} {g : Int → Int → Int} (ho : OpR X (binaryOp op) (rI0 fun i j => .int (g i j))) : Bin X C op (.v t (.int i)) (.v u (.int j)) (I (g i j)) :=
  ⟨_, ho, fun b0 c A G s H x y _ rx ry k q => ⟨i, j, rx, ry, q _ H (Evl.Ex.refl H) rfl⟩⟩
theorem b_add : Bin X C .Add (.v t (.int i)) (.v u (.int j)) (I (i + j)) := b_I0 (g := fun i j => i + j) op_add
theorem b_sub : Bin X C .Sub (.v t (.int i)) (.v u (.int j)) (I (i - j)) := b_I0 (g := fun i j => i - j) op_sub
theorem b_mul (hp : CMul i j) : Bin X C .Mult (.v t (.int i)) (.v u (.int j)) (I (i * j)) := b_I (g := fun i j => i * j) op_mul hp
theorem b_mod (hp : 0 < j) : Bin X C .Mod (.v t (.int i)) (.v u (.int j)) (I (i % j)) := b_I (g := fun i j => i % j) op_mod hp
theorem b_div (hp : 0 < j ∧ j < 1073741824) : Bin X C .FloorDiv (.v t (.int i)) (.v u (.int j)) (I (i / j)) := b_I (g := fun i j => i / j) op_fdiv hp
theorem b_pow (hp : CPow i j) : Bin X C .Pow (.v t (.int i)) (.v u (.int j)) (I (i ^ j.toNat)) := b_I (g := fun i j => i ^ j.toNat) op_pow hp
theorem b_addS {v w : Str} (hp : v.length + w.length ≤ sizeLine) : Bin X C .Add (.v t (.str v)) (.v u (.str w)) (S (v ++ w)) :=
  ⟨_, op_add_str, fun b0 c A G s H x y _ rx ry k q => ⟨v, w, rx, ry, hp, q _ H (Evl.Ex.refl H) rfl⟩⟩
theorem b_addL (hp : ds.length + ds2.length ≤ sizeLine) : Bin X C .Add (.v t (.lst ds)) (.v u (.lst ds2)) (.v (t && u) (.lst (ds ++ ds2))) :=
  ⟨_, op_cat, fun b0 c A G s H x y S rx ry k q => by
    obtain ⟨l, vs, ex, rd, hv⟩ := rx
    obtain ⟨l2, vs2, ey, rd2, hv2⟩ := ry
    refine ⟨l, l2, vs, vs2, ex, ey, mk_of (rg_sub _ _ rd), mk_of (rg_sub _ _ rd2), by rw [← hv.len, ← hv2.len]; exact hp, fun w hw => q _ _ (Evl.Ex.new hw) (S.newL hw ?_)⟩
    exact (RepL.mono (rg_low fun z => (Bool.and_eq_true_iff.mp z).1) hv).append (RepL.mono (rg_low fun z => (Bool.and_eq_true_iff.mp z).2) hv2)⟩
theorem b_mulL (hp : -(2 ^ 63) ≤ j ∧ j < 2 ^ 63 ∧ ds.length * j.toNat ≤ sizeLine) : Bin X C .Mult (.v t (.lst ds)) (.v u (.int j)) (.v t (.lst (List.replicate j.toNat ds).flatten)) :=
  ⟨_, op_rep, fun b0 c A G s H x y S rx ry k q => by
    obtain ⟨l, vs, ex, rd, hv⟩ := rx
    refine ⟨l, j, vs, ex, ry, mk_of (rg_sub _ _ rd), hp.1, hp.2.1, by rw [← hv.len]; exact hp.2.2, fun w hw => q _ _ (Evl.Ex.new hw) (S.newL hw ?_)⟩
    have go : ∀ n : Nat, RepL (rg t c.B A C H) (List.replicate n ds).flatten (List.replicate n vs).flatten := by
      intro n
      induction n with
      | zero => rfl
      | succ n ih =>
        rw [List.replicate_succ, List.replicate_succ, List.flatten_cons, List.flatten_cons]
        exact hv.append ih
    exact go _⟩
theorem ep_neg (ha : EP X b0 G C a (.v t (.int i))) : EP X b0 G C (.UnaryOp .USub a p) (I (-i)) :=
  fun b A s H S k q => ⟨_, pe_un un_neg wE_ok, ha b A s H S _ fun v H1 e1 r1 => ⟨i, r1, q _ H1 e1 rfl⟩⟩
theorem ep_gl {w : Str} (hg : Gl X w) (hm : ∃ t, X.mg w = some (.int i t)) (hd : (w == ("__debug__" : Str)) = false := by decide) : EP X b0 G C (.Name w p) (I i) := by
  obtain ⟨t, hm⟩ := hm
  exact ep_glob hg hm (x := .int i) rfl ⟨t, rfl⟩ hd
theorem ep_glS {w z : Str} (hg : Gl X w) (hm : ∃ t, X.mg w = some (.str z t)) (hd : (w == ("__debug__" : Str)) = false := by decide) : EP X b0 G C (.Name w p) (S z) := by
  obtain ⟨t, hm⟩ := hm
  exact ep_glob hg hm (x := .str z) rfl ⟨t, rfl⟩ hd
/-- a < b < c -/
theorem ep_ch {op op' : CmpOp} {rc : El} {c : Expr} {k k' : Bool} (h1 : Cmp X op ra rb C k) (h2 : k = true → Cmp X op' rb rc C k') (ha : EP X b0 G C a ra) (hb : EP X b0 G C b rb) (hc : EP X b0 G C c rc) (hm : lastMarks [op, op'] [b, c] = false := by rfl) : EP X b0 G C (.Compare a [op, op'] [b, c] p) (Bo (k && k')) := by
  obtain ⟨R, ho, q1⟩ := h1.run
  cases k with
  | true =>
    obtain ⟨R', ho', q2⟩ := (h2 rfl).run
    exact fun f A s H S kk q => ⟨_, pe_chain ho ho' wE_ok wE_ok wE_ok hm, ha f A s H S _ fun x H1 e1 r1 => hb f A s H1 (S.ext e1) _ fun y H2 e2 r2 => q1 f A G s H2 x y ((S.ext e1).ext e2) (r1.go (Go.of e2)) r2 _ fun H3 e3 => ⟨true, rfl, by
      show wE X c s H3 _
      exact hc f A s H3 (((S.ext e1).ext e2).ext e3) _ fun z H4 e4 r4 => q2 f A G s H4 y z ((((S.ext e1).ext e2).ext e3).ext e4) (r2.go (Go.of (e3.trans e4))) r4 _ fun H5 e5 => q _ H5 ((((e1.trans e2).trans e3).trans e4).trans e5) rfl⟩⟩
  | false =>
    exact fun f A s H S kk q => ⟨_, pe_chain (r' := fun _ _ _ _ => False) ho (fun _ _ _ _ _ _ _ _ _ _ _ _ h => False.elim h) wE_ok wE_ok wE_ok hm, ha f A s H S _ fun x H1 e1 r1 => hb f A s H1 (S.ext e1) _ fun y H2 e2 r2 => q1 f A G s H2 x y ((S.ext e1).ext e2) (r1.go (Go.of e2)) r2 _ fun H3 e3 => ⟨false, rfl, q _ H3 ((e1.trans e2).trans e3) rfl⟩⟩
theorem et_ch {op op' : CmpOp} {rc : El} {c : Expr} {k k' : Bool} (h1 : Cmp X op ra rb C k) (h2 : k = true → Cmp X op' rb rc C k') (ha : EP X b0 G C a ra) (hb : EP X b0 G C b rb) (hc : EP X b0 G C c rc) (hm : lastMarks [op, op'] [b, c] = false := by rfl) : ET X b0 G C (.Compare a [op, op'] [b, c] p) (k && k') := by
  obtain ⟨R, ho, q1⟩ := h1.run
  cases k with
  | true =>
    obtain ⟨R', ho', q2⟩ := (h2 rfl).run
    exact fun f A s H S kk q => ⟨_, pt_chain ho ho' wE_ok wE_ok wE_ok hm, ha f A s H S _ fun x H1 e1 r1 => hb f A s H1 (S.ext e1) _ fun y H2 e2 r2 => q1 f A G s H2 x y ((S.ext e1).ext e2) (r1.go (Go.of e2)) r2 _ fun H3 e3 => ⟨true, rfl, by
      show wE X c s H3 _
      exact hc f A s H3 (((S.ext e1).ext e2).ext e3) _ fun z H4 e4 r4 => q2 f A G s H4 y z ((((S.ext e1).ext e2).ext e3).ext e4) (r2.go (Go.of (e3.trans e4))) r4 _ fun H5 e5 => ⟨_, rfl, q H5 ((((e1.trans e2).trans e3).trans e4).trans e5)⟩⟩⟩
  | false =>
    exact fun f A s H S kk q => ⟨_, pt_chain (r' := fun _ _ _ _ => False) ho (fun _ _ _ _ _ _ _ _ _ _ _ _ h => False.elim h) wE_ok wE_ok wE_ok hm, ha f A s H S _ fun x H1 e1 r1 => hb f A s H1 (S.ext e1) _ fun y H2 e2 r2 => q1 f A G s H2 x y ((S.ext e1).ext e2) (r1.go (Go.of e2)) r2 _ fun H3 e3 => ⟨false, rfl, ⟨false, rfl, q H3 ((e1.trans e2).trans e3)⟩⟩⟩
/-- a[b] -/
structure Ixo (X : Cx) (C : Cs) (ra rb r : El) : Prop where
  run : ∀ (a b : Expr) (p : Pos) (b0 : Bs) (G : List (Option El)), PlainIx b → EP X b0 G C a ra → EP X b0 G C b rb → EP X b0 G C (.Subscript a b p) r
theorem ep_ixG (ha : EP X b0 G C a ra) (hb : EP X b0 G C b rb) (h : Ixo X C ra rb r) (hs : PlainIx b := by exact fun _ _ => rfl) : EP X b0 G C (.Subscript a b p) r := h.run a b p b0 G hs ha hb
theorem x_lst (h : L2.atI ds i = some d) : Ixo X C (.v t (.lst ds)) (.v u (.int i)) (.v t d) := ⟨fun _ _ _ _ _ hs ha hb => ep_ix ha hb h hs⟩
theorem x_tup (h : L2.atI ds i = some d) : Ixo X C (.v t (.tup ds)) (.v u (.int i)) (.v t d) := ⟨fun _ _ _ _ _ hs ha hb => ep_ixT ha hb h hs⟩
theorem x_str {w : Str} {c : Nat} (hl : w.length ≤ sizeLine) (h : L2.atI w.cps.toList i = some c) : Ixo X C (.v t (.str w)) (.v u (.int i)) (S ⟨#[c]⟩) := ⟨fun _ _ _ _ _ hs ha hb => ep_ixS ha hb hl h hs⟩
theorem x_scr {l : List Int} {z : Int} (h : L2.atI l i = some z) : Ixo X C (.v t (.scr X.K l)) (.v u (.int i)) (I z) := ⟨fun _ _ _ _ _ hs ha hb => ep_ixR ha hb h hs⟩
theorem x_cell {n : Nat} (hC : C[n]? = some (some (.lst t ds))) (h : L2.atI ds i = some d) : Ixo X C (.at n) (.v u (.int i)) (.v t d) := ⟨fun _ _ _ _ _ hs ha hb => ep_ixC ha hC hb h hs⟩
/-- a[lo:hi] -/
structure Cut (X : Cx) (C : Cs) (ra : El) (x y : Option Int) (r : El) : Prop where
  run : ∀ (a : Expr) (lo hi : Option Expr) (p p2 : Pos) (b0 : Bs) (G : List (Option El)), EP X b0 G C a ra → EO X b0 G C lo x → EO X b0 G C hi y → EP X b0 G C (.Subscript a (.Slice lo hi none p2) p) r
theorem ep_cutG {lo hi : Option Expr} {x y : Option Int} (ha : EP X b0 G C a ra) (hl : EO X b0 G C lo x) (hh : EO X b0 G C hi y) (h : Cut X C ra x y r) : EP X b0 G C (.Subscript a (.Slice lo hi none p2) p) r := h.run a lo hi p p2 b0 G ha hl hh
theorem k_lst {x y : Option Int} : Cut X C (.v t (.lst ds)) x y (.v t (.lst (cutL ds x y))) := ⟨fun _ _ _ _ _ _ _ => ep_cut⟩
theorem k_scr {l : List Int} {x y : Option Int} : Cut X C (.v t (.scr X.K l)) x y (.v true (.lst ((cutL l x y).map D.int))) := ⟨fun _ _ _ _ _ _ _ => ep_cutR⟩
theorem k_cell {n : Nat} {x y : Option Int} (hC : C[n]? = some (some (.lst t ds))) : Cut X C (.at n) x y (.v t (.lst (cutL ds x y))) := ⟨fun _ _ _ _ _ _ _ ha hl hh => ep_cutC ha hC hl hh⟩
/-- len -/
structure Len (X : Cx) (C : Cs) (r : El) (n : Nat) : Prop where
  run : ∀ (e : Expr) (p p2 : Pos) (b0 : Bs) (G : List (Option El)) (B : Bl X.mg), Gl X "len" → EP X b0 G C e r → starEach [e] X.env = (false, eval e X.env) :: starEach [] X.env → EP X b0 G C (.Call (.Name "len" p2) [e] [] p) (I n)
theorem ep_lenG (B : Bl X.mg) {n : Nat} (hg : Gl X "len") (ha : EP X b0 G C e r) (h : Len X C r n) (hs : starEach [e] X.env = (false, eval e X.env) :: starEach [] X.env := by rfl) : EP X b0 G C (.Call (.Name "len" p2) [e] [] p) (I n) := h.run e p p2 b0 G B hg ha hs
theorem l_of {n : Nat} (h : LenE C r n) : Len X C r n := ⟨fun _ _ _ _ _ B hg ha hs => ep_len B hg ha h hs⟩
theorem l_scr {l : List Int} : Len X C (.v t (.scr X.K l)) l.length := ⟨fun _ _ _ _ _ B hg ha hs => ep_lenR B hg ha hs⟩
/-- int(..) -/
structure Int1 (X : Cx) (C : Cs) (r : El) (i : Int) : Prop where
  run : ∀ (e : Expr) (p p2 : Pos) (b0 : Bs) (G : List (Option El)) (B : Bl X.mg), Gl X "int" → EP X b0 G C e r → starEach [e] X.env = (false, eval e X.env) :: starEach [] X.env → EP X b0 G C (.Call (.Name "int" p2) [e] [] p) (I i)
theorem ep_intG (B : Bl X.mg) (hg : Gl X "int") (ha : EP X b0 G C e r) (h : Int1 X C r i) (hs : starEach [e] X.env = (false, eval e X.env) :: starEach [] X.env := by rfl) : EP X b0 G C (.Call (.Name "int" p2) [e] [] p) (I i) := h.run e p p2 b0 G B hg ha hs
theorem i_bl : Int1 X C (.v t (.bl k)) (if k then 1 else 0) := ⟨fun _ _ _ _ _ B hg ha hs => ep_intB B hg ha hs⟩
/-- the elements of a display: t of all of them -/
inductive DatC : Bool → List El → List D → Prop
  | nil : DatC true [] []
  | cons {u t : Bool} {d : D} {rs : List El} {ds : List D} (r : DatC t rs ds) : DatC (u && t) (El.v u d :: rs) (d :: ds)
  | consF {u t : Bool} {d : D} {rs : List El} {ds : List D} (r : DatC t rs ds) : DatC false (El.v u d :: rs) (d :: ds)
theorem Dat.less : ∀ {t t' : Bool} {rs : List El} {ds : List D}, (t' = true → t = true) → Dat t rs ds → Dat t' rs ds := by
  intro t t' rs ds h d
  induction d with
  | nil => exact .nil
  | cons h1 _ ih => exact .cons (fun z => h1 (h z)) ih
theorem DatC.to : ∀ {t : Bool} {rs : List El} {ds : List D}, DatC t rs ds → Dat t rs ds
  | _, _, _, .nil => .nil
  | _, _, _, .cons r => .cons (fun h => (Bool.and_eq_true_iff.mp h).1) (Dat.less (fun h => (Bool.and_eq_true_iff.mp h).2) r.to)
  | _, _, _, .consF r => .cons (fun h => nomatch h) (Dat.less (fun h => nomatch h) r.to)
theorem DatC.consT {d : D} {rs : List El} {ds : List D} (r : DatC true rs ds) : DatC true (El.v true d :: rs) (d :: ds) := DatC.cons (u := true) (t := true) r

/-! ### what surely raises -/
def ER (X : Cx) (b0 : Bs) (G : List (Option El)) (C : Cs) (e : Expr) : Prop := ∀ (b : Bs) (A : List Addr) (s : St) (H : Hp), Sat b0 b A G C s H → ∀ k : VK, wE X e s H k
def ERA (X : Cx) (b0 : Bs) (G : List (Option El)) (C : Cs) (es : List Expr) : Prop := ∀ (b : Bs) (A : List Addr) (s : St) (H : Hp), Sat b0 b A G C s H → ∀ k : List V → Hp → Prop, wA X es s H k
theorem er_of (h : ∀ r, EP X b0 G C e r) : ER X b0 G C e := fun b A s H S k => h (.v true (.ref 0)) b A s H S (fun _ _ => True) (fun _ _ _ _ => trivial) |> fun _ => by
  obtain ⟨t, ht, q⟩ := h (.at A.length) b A s H S k (fun v H' _ r => by
    obtain ⟨a, e, _⟩ := r
    simp at e)
  exact ⟨t, ht, q⟩
theorem er_binL {op : Operator} {R : R2} (ho : OpR X (binaryOp op) R) (h : ER X b0 G C a) : ER X b0 G C (.BinOp a op b p) := fun f A s H S k => ⟨_, pe_op ho wE_ok wE_ok, h f A s H S _⟩
theorem er_cmpL {op : CmpOp} {R : R2} (ho : OpR X (compareOp op) R) (h : ER X b0 G C a) (hm : behindInMarks op b = false := by first | exact nomark _ | rfl) : ER X b0 G C (.Compare a [op] [b] p) := fun f A s H S k => ⟨_, pe_cmpR ho wE_ok wE_ok hm, h f A s H S _⟩
theorem er_fld {f : Str} (h : ER X b0 G C o) (hb : attributeBase o f X.env (eval o X.env) = eval o X.env := by rfl) : ER X b0 G C (.Attribute o f p) := fun b A s H S k => ⟨_, pe_fld wE_ok hb, h b A s H S _⟩
theorem er_ixR (ha : EP X b0 G C a ra) (h : ER X b0 G C b) (hs : PlainIx b := by exact fun _ _ => rfl) : ER X b0 G C (.Subscript a b p) := fun f A s H S k => ⟨_, pe_ix ix_list wE_ok wE_ok hs, ha f A s H S _ fun v H1 e1 _ => h f A s H1 (S.ext e1) _⟩
theorem era_hd (h : ER X b0 G C e) (hs : starEach (e :: es) X.env = (false, eval e X.env) :: starEach es X.env := by rfl) : ERA X b0 G C (e :: es) := fun b A s H S k => ⟨_, pa_cons wE_ok wA_ok hs, h b A s H S _⟩
theorem era_tl (h : EP X b0 G C e r) (ht : ERA X b0 G C es) (hs : starEach (e :: es) X.env = (false, eval e X.env) :: starEach es X.env := by rfl) : ERA X b0 G C (e :: es) := fun b A s H S k => ⟨_, pa_cons wE_ok wA_ok hs, h b A s H S _ fun v H1 e1 _ => ht b A s H1 (S.ext e1) _⟩
theorem er_lst (h : ERA X b0 G C es) : ER X b0 G C (.List es p) := fun b A s H S k => ⟨_, pe_lst wA_ok, h b A s H S _⟩
theorem er_tup {x1} (h : ERA X b0 G C es) : ER X b0 G C (.Tuple es x1 p) := fun b A s H S k => ⟨_, pe_tup wA_ok, h b A s H S _⟩
theorem er_int (B : Bl X.mg) (hg : Gl X "int") (h : ERA X b0 G C [e]) (hs : starEach [e] X.env = (false, eval e X.env) :: starEach [] X.env := by rfl) (hpl : (backTo p (starEach [] X.env)).any (·.1) = false := by rfl) : ER X b0 G C (.Call (.Name "int" p2) [e] [] p) := fun b A s H S k => ⟨_, pe_callTy call_int1 hg B.int PyProof.Rows.boot_int wA_ok (by decide) (by decide) hs hpl, h b A s H S _⟩
variable {W : De} {rest : List Stmt}
theorem wb_badAsg (n : Nat) {x : Str} {p' : Pos} (h : ER X b0 G C e) (hN : X.N.Nodup) (hi : X.N[n]? = some x) (hx : Loc X.env.scope x) (hs : swapsWith e (some (.Name x p')) p.line X.env = pure false := by rfl)
    (hf : X.fn x = true ∨ X.env.scope.names.lookup x = some .local := by first | exact .inl rfl | exact .inr rfl | assumption) : WB X b0 G C (.Assign [.Name x p'] e p :: rest) W := wb_cons fun b A s H l S => ⟨_, ps_set hN hi hx wE_ok hs hf, h b A s H S _⟩
theorem wb_badExpr (h : ER X b0 G C e) (hs : swapsWith e none p.line X.env = pure false := by rfl) : WB X b0 G C (.Expr e p :: rest) W := wb_cons fun b A s H l S => ⟨_, ps_expr wE_ok hs, h b A s H S _⟩
theorem wb_badRet (h : ER X b0 G C e) : WB X b0 G C (.Return (some e) p :: rest) W := wb_cons fun b A s H l S => ⟨_, ps_ret wE_ok, h b A s H S _⟩
end
theorem look_hd {f : Str} {α : Type} {d : α} {l : List (Str × α)} : ((f, d) :: l).lookup f = some d := by simp [List.lookup]
theorem look_tl {f g : Str} {α : Type} {d : α} {o : Option α} {l : List (Str × α)} (h : (f == g) = false) (q : l.lookup f = o) : ((g, d) :: l).lookup f = o := by
  rw [List.lookup_cons, h]
  exact q
end Q
namespace Q
open PySem L2

/-! ### a class's __init__ -/
def spInit {α : Type} (c : Addr) (args : α → List D) (pre : α → Prop) (bad : α → Option Addr) (fs : α → List (Str × D)) : Sp := fun vs H k E => ∃ (a : α) (H0 : Hp) (x dx : Addr) (ws : List V), vs = .ref x :: ws ∧ H0 x = none ∧ H0 dx = none ∧ dx ≠ x ∧
  H = upd (upd H0 dx (.own x)) x (.ins c dx []) ∧ RepL H0 (args a) ws ∧ pre a ∧ match bad a with
  | none => ∀ H', Ex H0 H' → Rep (nu H0 H') (.ins c (fs a)) (.ref x) → k .non H'
  | some e => ∀ H', Ex H0 H' → E (.ref e) none H'
theorem spInit_make {α : Type} {c : Addr} {args : α → List D} {pre : α → Prop} {bad : α → Option Addr} {fs : α → List (Str × D)} (vs : List V) (H : Hp) (k : VK) (E : XK) (h : spR args pre bad (fun a => .ins c (fs a)) vs H k E) : spMake c (spInit c args pre bad fs) vs H k E := by
  obtain ⟨a, ha, hp, h⟩ := h
  intro x dx hx hd ne
  refine ⟨a, H, x, dx, vs, rfl, hx, hd, ne, rfl, ha, hp, ?_⟩
  cases e : bad a with
  | none =>
    rw [e] at h
    exact fun H' e1 r => ⟨rfl, h _ H' e1 r⟩
  | some z =>
    rw [e] at h
    exact h
section
variable {P : Program} {w : World} {K : PySem.W.Frag} {mg : Str → Option Value} {base : Heap} {x qual : Str} {params : Arguments} {body : List Stmt} {scope : Scope} {dvs : List V} {kws : List (Str × V)} {f : Addr} {fd : FuncData}
/-- the state at an __init__'s entry -/
theorem satI {H0 : Hp} {c y dx : Addr} {ds : List D} {ws : List V} {N : List Str} (hx : H0 y = none) (hd : H0 dx = none) (ne : dx ≠ y) (h : RepL H0 ds ws) :
    Sat ⟨H0, H0, [y]⟩ ⟨H0, H0, [y]⟩ [y] (some (.at 0) :: (ds.map fun d => some (El.v false d)) ++ List.replicate (N.length - (ds.length + 1)) none) [some (.ins c [])] (L2.start N (.ref y :: ws)) (upd (upd H0 dx (.own y)) y (.ins c dx [])) := by
  have ex : Ex H0 (fz [y] [some (Ob.ins c [])] (upd (upd H0 dx (.own y)) y (.ins c dx []))) := fun a o e => by
    have n1 : a ≠ y := ne_of_none e hx
    have n2 : a ≠ dx := ne_of_none e hd
    rw [mk_at (by simpa [live] using n1), upd_ne n1, upd_ne n2]
    exact e
  refine ⟨rfl, by simp [live], Evl.Ex.refl _, ex, List.prefix_rfl, fun i a o h1 h2 => ?_, ?_, Bs.le.refl _⟩
  · cases i with
    | zero =>
      have e1 : y = a := by simpa using h1
      have e2 : Ob.ins c [] = o := by simpa using h2
      subst e1 e2
      exact ⟨dx, [], upd_same, .nil⟩
    | succ i => simp at h1
  · have hl := RepL.len h
    have go : ∀ {ds : List D} {vs : List V}, RepL H0 ds vs → All2 (SlotE H0 [y] [some (Ob.ins c [])] (upd (upd H0 dx (.own y)) y (.ins c dx []))) (ds.map fun d => some (El.v false d)) (vs.map some) := by
      intro ds
      induction ds with
      | nil => intro vs h; rw [show _ = [] from h]; exact .nil
      | cons d ds ih =>
        intro vs h
        obtain ⟨v, r, e, h1, h2⟩ := h
        subst e
        exact .cons (fun e he => ⟨v, rfl, by cases he; exact Rep.mono ex h1⟩) (ih h2)
    unfold L2.start
    rw [List.length_cons, ← hl]
    have e2 : (fun (d : D) => some (El.v false d)) = fun d => some (El.v false d) := rfl
    exact All2.append (.cons (fun e he => ⟨.ref y, rfl, by cases he; exact ⟨y, rfl, rfl⟩⟩) (go h)) (slots_rest _)
theorem fn_I {α : Type} {c : Addr} {args : α → List D} {pre : α → Prop} {bad : α → Option Addr} {fs : α → List (Str × D)} {N ps : List Str} {k : Nat} (F : FunD K x qual params body scope dvs kws f fd) (Sc : FnScope N ps scope) (hl : ∀ a, (args a).length + 1 = ps.length)
    (h : ∀ (cdv : Value) (A : Around) (outer : List Env) (s : Shared) (H H0 : Hp) (y : Addr) (q : VK) (E : XK) (a : α), Room k (A.deeper (PyProof.Rows.envOfC qual scope s.heap.objs.size f cdv)) → pre a → (bad a = none → ∀ H', Ex H0 H' → Rep (nu H0 H') (.ins c (fs a)) (.ref y) → q .non H') → (∀ z, bad a = some z → ∀ H', Ex H0 H' → E (.ref z) none H') →
      WB (cxOf (L2.CX P w) P w K mg base N qual scope f cdv A outer s H E) ⟨H0, H0, [y]⟩ (some (.at 0) :: ((args a).map fun d => some (El.v false d)) ++ List.replicate (N.length - ((args a).length + 1)) none) [some (.ins c [])] body (Dd q)) :
    FnOk P w K mg base (L2.CX P w) (k + 1) f fd ps (spInit c args pre bad fs) :=
  F.ok Sc (fun vs H Q E ⟨a, H0, y, dx, ws, ev, _, _, _, _, ha, _⟩ => by rw [ev, List.length_cons, ← ha.len]; exact hl a) fun cdv A outer s H vs q E hr ⟨a, H0, y, dx, ws, ev, hx, hd, ne, eH, ha, hp, hq⟩ => by
    subst ev eH
    exact h cdv A outer s _ H0 y q E a hr hp (fun e => by rw [e] at hq; exact hq) (fun z e => by rw [e] at hq; exact hq) _ _ _ _ (Bs.le.refl _) (satI hx hd ne ha)
end
section
variable {X : Cx} {H0 : Hp} {y c : Addr} {G : List (Option El)} {C : Cs} {W : De} {q : VK} {fs : List (Str × D)}
theorem Sat.exH0 {b0 b : Bs} {A : List Addr} {s : St} {H' : Hp} (S : Sat b0 b A G C s H') (l : (⟨H0, H0, [y]⟩ : Bs).le b0) : Ex H0 H' := fun a o h => mk_of (S.ex a o ((l.trans S.lb).F a o h))
/-- an __init__'s end -/
theorem wb_endI (k : Nat) (hd : toD true C k (.at 0) = some (.ins c fs)) (hq : ∀ H', Ex H0 H' → Rep (nu H0 H') (.ins c fs) (.ref y) → q .non H') (hW : ∀ b, (W b).nx = fun _ H => q .non H) {b0 : Bs} (lb : (⟨H0, H0, [y]⟩ : Bs).le b0 := by first | exact Bs.le.refl _ | assumption) : WB X b0 G C [] W :=
  wb_nil fun b A s H' l S => by
    rw [hW b]
    have l2 := lb.trans S.lb
    have hA : A[0]? = some y := pre_get (l2.A.trans S.pre) rfl
    have z := toD_ok (t := true) S hd (v := .ref y) ⟨y, hA, rfl⟩
    have e' : b.B = H0 := l2.B
    rw [e'] at z
    exact hq H' (S.exH0 lb) z
end

/-! ### the law itself -/
def spLaw (K : PySem.W.Frag) : Sp := fun vs H k _ => ∃ (a : Addr) (ns : List Int), vs = [.ref a] ∧ SqL K H a (ns.map V.int) ∧ ns.length ≤ 63 ∧ ∀ H', k (.bl true) H'
theorem walk_ofW {l : PySem.W.OpenLaw} {n k : Nat} {q : Program} {loose : List Str} {XP : (Str → Option Value) → Heap → Prop} {YP : World → Heap → Prop} {d : DefRec} {CX : World → CXT} {x : Str}
    (hn : l.most = some n) (hn2 : n ≤ sizeLine) (hdf : d.params.defaults = []) (hr : Room k PySem.callerA)
    (F : ∀ (w : World) (mg : Str → Option Value) (fa : Addr) (h : Heap), YP w h → h.Ns mainGlobals mg → mg d.name = some (.ref fa) →
      ∃ (K : PySem.W.Frag) (fd : FuncData) (sp : Sp), K.In h ∧ (∀ (s : Shared) (u : Value), BindsTo s fd ⟨[u], []⟩ [(x, u)]) ∧
        (∀ (H : Hp) (a : Addr) (ns : List Int), ns.length ≤ n → Only H → SqL K H a (ns.map V.int) → sp [.ref a] H (fun v _ => v = .bl true) fun _ _ _ => False) ∧
        ∀ base : Heap, K.In base → base.Ns mainGlobals mg → FnOk l.prog w K mg base (CX w) k fa fd [x] sp)
    (hCX : ∀ (w : World) (H : Hp) (s : Shared) (e : Value) (s' : Shared), CX w [] H s (fun _ _ _ => False) e s' → False) :
    PySem.W.WalkO q loose XP YP l.row.toRowW d [] (fun f vs => PySem.call f vs) := by
  refine Att.attach_call hn hdf fun w s₀ s₁ mg mb fa o pm cd doc a vs ns G Y ho hd hcd hmg hobj hints hlen hg => ?_
  obtain ⟨K, fd, sp, KX, hb, hsp, hF⟩ := F w mg fa _ Y G.T.g hmg
  exact law_call KX G.T.g G.T.b G.T.builtins G.T.nolimit hg hobj hints (Nat.le_trans hlen hn2) hr hF hb (fun H hO hS => hsp H a ns hlen hO hS) fun H e s' => hCX w H s₁ e s'
section
variable {P : Program} {w : World} {K : PySem.W.Frag} {mg : Str → Option Value} {base : Heap} {x qual : Str} {params : Arguments} {body : List Stmt} {scope : Scope} {dvs : List V} {kws : List (Str × V)} {f : Addr} {fd : FuncData}
theorem fn_L {p : Str} {N : List Str} {k : Nat} (F : FunD K x qual params body scope dvs kws f fd) (Sc : FnScope N [p] scope)
    (h : ∀ (cdv : Value) (A : Around) (outer : List Env) (s : Shared) (H : Hp) (q : VK) (E : XK) (ns : List Int), Room k (A.deeper (PyProof.Rows.envOfC qual scope s.heap.objs.size f cdv)) → ns.length ≤ 63 → (∀ H', q (.bl true) H') →
      WB (cxOf (L2.CX P w) P w K mg base N qual scope f cdv A outer s H E) ⟨H, H, []⟩ (some (.v false (.scr K ns)) :: List.replicate (N.length - 1) none) [] body (Dd q)) :
    FnOk P w K mg base (L2.CX P w) (k + 1) f fd [p] (spLaw K) :=
  F.ok Sc (fun vs H Q E ⟨a, ns, ev, _⟩ => by rw [ev]; rfl) fun cdv A outer s H vs q E hr ⟨a, ns, ev, hS, hl, hq⟩ => by
    subst ev
    refine h cdv A outer s H q E ns hr hl hq _ _ _ _ (Bs.le.refl _) (sat0 (ds := [.scr K ns]) ⟨_, _, rfl, ⟨a, rfl, ?_⟩, rfl⟩ (Bs.le.refl _))
    rcases hS with hS | hS
    · exact .inl hS
    · exact .inr (.inr hS)
end
section
variable {X : Cx} {b0 : Bs} {G : List (Option El)} {C : Cs} {W : De} {rest : List Stmt} {e : Expr} {p : Pos} {t : Bool} {q : VK}
/-- the law's return of True -/
theorem wb_retL {c : Bool} (he : EP X b0 G C e (.v t (.bl c))) (hc : c = true) (hq : ∀ H', q (.bl true) H') (hW : ∀ b, (W b).rt = q := by intro _; rfl) : WB X b0 G C (.Return (some e) p :: rest) W :=
  wb_ret he fun b A v s H' l S hr => by
    rw [hW b]
    have e : v = .bl c := hr
    rw [e, hc]
    exact hq H'
end
end Q
namespace Q
open PySem L2

/-! ### small helps -/
theorem pp_bl {H : Hp} {q : VK} {c c' : Bool} (h : PP H (.bl c) q) (e : c = c') : PP H (.bl c') q := e ▸ h
theorem pp_int {H : Hp} {q : VK} {c c' : Int} (h : PP H (.int c) q) (e : c = c') : PP H (.int c') q := e ▸ h
theorem pp_str {H : Hp} {q : VK} {c c' : Str} (h : PP H (.str c) q) (e : c = c') : PP H (.str c') q := e ▸ h
theorem pp_lst {H : Hp} {q : VK} {c c' : List D} (h : PP H (.lst c) q) (e : c = c') : PP H (.lst c') q := e ▸ h
theorem pp_d {H : Hp} {q : VK} {c c' : D} (h : PP H c q) (e : c = c') : PP H c' q := e ▸ h
theorem atI_nat {α : Type} {l : List α} {k : Int} (h0 : 0 ≤ k) (h1 : k < l.length) : L2.atI l k = l[k.toNat]? := by
  unfold L2.atI L2.ixN
  rw [if_pos h0, if_pos h1]
  rfl
theorem atI_getD {α : Type} {l : List α} {k : Int} (d : α) (h0 : 0 ≤ k) (h1 : k < l.length) : L2.atI l k = some (l.getD k.toNat d) := by
  rw [atI_nat h0 h1, List.getElem?_eq_getElem (by omega), List.getD_eq_getElem?_getD, List.getElem?_eq_getElem (by omega)]
  rfl
section
variable {X : Cx} {b0 : Bs} {G : List (Option El)} {C : Cs} {a b c e : Expr} {es : List Expr} {rs : List El} {p : Pos} {ra rb rc r : El} {ds : List D} {t u : Bool}
/-! the same rules, with what is looked up last -/
theorem ec {op : CmpOp} {k : Bool} (ha : EP X b0 G C a ra) (hb : EP X b0 G C b rb) (h : Cmp X op ra rb C k) (hm : behindInMarks op b = false := by first | exact nomark _ | rfl) : EP X b0 G C (.Compare a [op] [b] p) (Bo k) := ep_c h ha hb hm
theorem tc {op : CmpOp} {k : Bool} (ha : EP X b0 G C a ra) (hb : EP X b0 G C b rb) (h : Cmp X op ra rb C k) (hm : behindInMarks op b = false := by first | exact nomark _ | rfl) : ET X b0 G C (.Compare a [op] [b] p) k := et_c h ha hb hm
theorem ec2 {op op' : CmpOp} {k k' : Bool} (ha : EP X b0 G C a ra) (hb : EP X b0 G C b rb) (hc : EP X b0 G C c rc) (h1 : Cmp X op ra rb C k) (h2 : k = true → Cmp X op' rb rc C k') (hm : lastMarks [op, op'] [b, c] = false := by rfl) : EP X b0 G C (.Compare a [op, op'] [b, c] p) (Bo (k && k')) := ep_ch h1 h2 ha hb hc hm
theorem tc2 {op op' : CmpOp} {k k' : Bool} (ha : EP X b0 G C a ra) (hb : EP X b0 G C b rb) (hc : EP X b0 G C c rc) (h1 : Cmp X op ra rb C k) (h2 : k = true → Cmp X op' rb rc C k') (hm : lastMarks [op, op'] [b, c] = false := by rfl) : ET X b0 G C (.Compare a [op, op'] [b, c] p) (k && k') := et_ch h1 h2 ha hb hc hm
theorem ep_lstG (h : EA X b0 G C es rs) (hd : DatC t rs ds) (hl : ds.length ≤ sizeLine := by first | decide | exact Nat.le_of_ble_eq_true rfl) : EP X b0 G C (.List es p) (.v t (.lst ds)) := ep_lst h hd.to hl
theorem ep_tupG {x1} (h : EA X b0 G C es rs) (hd : DatC t rs ds) (hl : ds.length ≤ sizeLine := by first | decide | exact Nat.le_of_ble_eq_true rfl) : EP X b0 G C (.Tuple es x1 p) (.v t (.tup ds)) := ep_tup h hd.to hl
/-- [x, y][int(k)] -/
theorem x_two {k : Bool} {x y : Str} : Ixo X C (.v t (.lst [.str x, .str y])) (.v u (.int (if k = true then 1 else 0))) (.v t (.str (if k = true then y else x))) := x_lst (by cases k <;> rfl)
theorem x_twoI {k : Bool} {x y : Int} : Ixo X C (.v t (.lst [.int x, .int y])) (.v u (.int (if k = true then 1 else 0))) (.v t (.int (if k = true then y else x))) := x_lst (by cases k <;> rfl)
end
/-- what isinstance looks at in an error class -/
def excB (K : PySem.W.Frag) (D : Addr) : Bool :=
  decide (PySem.W.findIn K (.ref D) "__getattribute__" = some (some (.builtin "BaseException.__getattribute__"))) && (decide (PySem.W.findIn K (.ref D) "__getattr__" = some none) &&
  (decide (PySem.W.subIn K (.ref D) (.type "BaseException") = some true) && (PySem.W.hasDictIn K D && (decide (PySem.W.findIn K (.ref D) "__class__" = some (some (.builtin "object.__class__"))) &&
  (decide (PySem.W.specialIn K (.builtin "object.__class__") "__get__" = some (some (.builtin "getset_descriptor.__get__"))) && (decide (PySem.W.takesIn K (.builtin "object.__class__") = some true) && decide (PySem.W.mroIn K D (.type "object") = some true)))))))
theorem excB_ok {K : PySem.W.Frag} {D : Addr} (h : excB K D = true) : ExcC K D := by
  unfold excB at h
  obtain ⟨h1, h⟩ := Bool.and_eq_true_iff.mp h
  obtain ⟨h2, h⟩ := Bool.and_eq_true_iff.mp h
  obtain ⟨h3, h⟩ := Bool.and_eq_true_iff.mp h
  obtain ⟨h4, h⟩ := Bool.and_eq_true_iff.mp h
  obtain ⟨h5, h⟩ := Bool.and_eq_true_iff.mp h
  obtain ⟨h6, h⟩ := Bool.and_eq_true_iff.mp h
  obtain ⟨h7, h8⟩ := Bool.and_eq_true_iff.mp h
  exact ⟨of_decide_eq_true h1, of_decide_eq_true h2, of_decide_eq_true h3, h4, of_decide_eq_true h5, of_decide_eq_true h6, of_decide_eq_true h7, of_decide_eq_true h8⟩
end Q
namespace K01
open PySem L2 Q
abbrev D := Q.D
local macro_rules | `(tactic| walk_at "vis") => `(tactic| first | exact Or.inl rfl | exact Or.inr (Or.inl rfl) | exact Or.inr (Or.inr rfl))
local macro_rules | `(tactic| walk_at "loc") => `(tactic| first | exact Or.inl rfl | exact Or.inr rfl)
local macro_rules | `(tactic| walk_at "ar") => `(tactic| first | assumption | omega | decide)
local macro_rules | `(tactic| walk_at "add") => `(tactic| first | exact b_add | exact b_addS (by walk_at "sz") | exact b_addL (by walk_at "sz"))
local macro_rules | `(tactic| walk_at "sub") => `(tactic| exact b_sub)
local macro_rules | `(tactic| walk_at "mul") => `(tactic| first | exact b_mul (by first | assumption | exact Or.inl ⟨by omega, by omega⟩ | exact Or.inr ⟨by omega, by omega⟩) | (refine b_mulL ?_; walk_at "sz3"))
local macro_rules | `(tactic| walk_at "ar2") => `(tactic| first | assumption | (constructor <;> first | omega | decide))
local macro_rules | `(tactic| walk_at "mod") => `(tactic| (refine b_mod ?_; walk_at "ar"))
local macro_rules | `(tactic| walk_at "div") => `(tactic| first | exact b_div (by first | decide | assumption | (constructor <;> first | omega | decide)) | (first | decide | assumption | (constructor <;> first | omega | decide)))
local macro_rules | `(tactic| walk_at "pow") => `(tactic| exact b_pow (by first | assumption | exact And.intro (by omega) (And.intro (by omega) (by first | decide | omega))))
local macro_rules | `(tactic| walk_at "cmp") => `(tactic| first | exact c_lt | exact c_le | exact c_gt | exact c_ge | exact c_eq | exact c_ne | exact c_eqS | exact c_neS | exact c_eqB | exact c_neB | exact c_isN | exact c_notN | walk_at "cmp2")
local macro_rules | `(tactic| walk_at "sz") => `(tactic| first | assumption | decide | (simp (config := {decide := false}) only [List.length_map, List.length_range, List.length_cons, List.length_nil, List.length_append]; first | omega | decide) | omega)
local macro_rules | `(tactic| walk_at "dat") => `(tactic| walk_at "dat2")
local macro_rules | `(tactic| walk_at "dat2") => `(tactic| first | exact DatC.nil | (apply DatC.consT; walk_at "dat2") | (apply DatC.cons; walk_at "dat2") | (apply DatC.consF; walk_at "dat2"))
local macro_rules | `(tactic| walk_at "look") => `(tactic| first | exact look_hd | (refine look_tl (by decide +kernel) ?_; walk_at "look"))
local macro_rules | `(tactic| walk_at "cut") => `(tactic| first | exact k_lst | exact k_scr | exact k_cell rfl)
local macro_rules | `(tactic| walk_at "len") => `(tactic| first | exact l_of .lst | exact l_scr | exact l_of .tup | exact l_of (.cell rfl) | exact l_of (.str (by walk_at "sz")))
local macro_rules | `(tactic| walk_at "int") => `(tactic| first | exact i_bl)
local macro_rules | `(tactic| walk_at "rng") => `(tactic| first | assumption | decide | (constructor <;> omega) | (refine ⟨?_, ?_, ?_, ?_⟩ <;> omega))
local macro_rules | `(tactic| walk_at "dec") => `(tactic| first | (simp only [decide_eq_true_eq, decide_eq_false_iff_not, Bool.not_eq_true', Bool.not_eq_false', Bool.and_eq_true, Bool.or_eq_true, Bool.and_eq_false_iff, Bool.or_eq_false_iff] at *) | skip)
local macro_rules | `(tactic| walk_at "cls") => `(tactic| first | exact T.cl_Field)
local macro_rules | `(tactic| walk_at "noat") => `(tactic| first | exact T.na_Field_prime)
local macro_rules | `(tactic| walk_at "inst") => `(tactic| fail)
local macro_rules | `(tactic| walk_at "cmp2") => `(tactic| fail)
local macro_rules | `(tactic| walk_at "sz3") => `(tactic| fail)
local macro_rules | `(tactic| walk_at "ix") => `(tactic| first | exact x_two | exact x_lst rfl)
def top (i : Nat) : Stmt := PySem.Challenge.pw_mixposts_k01_primes_known.main.body.getD i (.Pass ⟨0, 0, 0, 0⟩)
abbrev s_is_prime : Stmt := top 9
abbrev s_Field__init_ : Stmt := inClass (top 10) 0
abbrev s__law_cell_at : Stmt := top 12
abbrev s__law_mixed : Stmt := top 13
abbrev s__law_number : Stmt := top 14
abbrev s__law_due : Stmt := top 15
abbrev s__law_field : Stmt := top 16
abbrev s__law_right : Stmt := top 17
abbrev s_law : Stmt := top 18
/-! ### primes -/
def Pr (n : Int) : Prop := 2 ≤ n ∧ ∀ m : Int, 2 ≤ m → m < n → ¬ m ∣ n
noncomputable def prB (n : Int) : Bool := @decide (Pr n) (Classical.propDecidable _)
theorem prB_iff {n : Int} : prB n = true ↔ Pr n := by
  unfold prB
  exact @decide_eq_true_iff _ (Classical.propDecidable _)
theorem prB_no {n : Int} (h : ¬ Pr n) : prB n = false := by
  cases e : prB n with
  | true => exact absurd (prB_iff.mp e) h
  | false => rfl
theorem sq_lt {a b : Int} (ha : 0 ≤ a) (h : a < b) : a * a < b * b := Int.mul_lt_mul' (Int.le_of_lt h) h ha (by omega)
theorem root_le {m n b : Int} (h : m * m ≤ n) (hn : n ≤ b * b) (hb : 0 ≤ b) : m ≤ b := by
  by_cases c : m ≤ b
  · exact c
  · have := sq_lt hb (show b < m by omega)
    omega
theorem le_sq {m : Int} (h : 1 ≤ m) : m ≤ m * m := by
  have := Int.mul_le_mul_of_nonneg_right h (show 0 ≤ m by omega)
  omega
/-- no divisor below m, and the square of m above n -/
theorem pr_done {n m : Int} (h2 : 2 ≤ n) (hm : 2 ≤ m) (h : ∀ j, 2 ≤ j → j < m → ¬ j ∣ n) (hs : n < m * m) : Pr n := by
  refine ⟨h2, fun d hd hdn ⟨e, he⟩ => ?_⟩
  have e0 : 0 < e := by
    rcases Int.lt_or_le 0 e with z | z
    · exact z
    · have := Int.mul_nonpos_of_nonneg_of_nonpos (show 0 ≤ d by omega) z
      omega
  have e1 : 1 < e := by
    rcases Int.lt_or_le 1 e with z | z
    · exact z
    · have : e = 1 := by omega
      subst this
      omega
  by_cases c1 : d < m
  · exact h d hd c1 ⟨e, he⟩
  · by_cases c2 : e < m
    · exact h e (by omega) c2 ⟨d, by rw [he, Int.mul_comm]⟩
    · have h1 : m * m ≤ d * m := Int.mul_le_mul_of_nonneg_right (by omega) (by omega)
      have h3 : d * m ≤ d * e := Int.mul_le_mul_of_nonneg_left (by omega) (by omega)
      omega
/-- the loop's word: no divisor below m -/
def Nd (n m : Int) : Prop := 2 ≤ m ∧ m ≤ 2 ^ 32 ∧ ∀ j, 2 ≤ j → j < m → ¬ j ∣ n
theorem nd_0 (n : Int) : Nd n 2 := ⟨by decide, by decide, fun j h1 h2 => by omega⟩
theorem nd_next {n m : Int} (h : Nd n m) (hn : n ≤ 2 ^ 60) (hs : m * m ≤ n) (hd : ¬ n % m = 0) : Nd n (m + 1) := by
  obtain ⟨h1, h2, h3⟩ := h
  have := root_le (b := 2 ^ 30) hs (by omega) (by decide)
  refine ⟨by omega, by omega, fun j hj hj2 hdv => ?_⟩
  by_cases c : j = m
  · subst c
    exact hd (Int.emod_eq_zero_of_dvd hdv)
  · exact h3 j hj (by omega) hdv
theorem nd_found {n m : Int} (h : Nd n m) (hs : m * m ≤ n) (hd : n % m = 0) : prB n = false := by
  obtain ⟨h1, h2, h3⟩ := h
  refine prB_no fun ⟨z1, z2⟩ => ?_
  have : m < n := by
    have := Int.mul_lt_mul_of_pos_right (show 1 < m by omega) (show 0 < m by omega)
    omega
  exact z2 m h1 this (Int.dvd_of_emod_eq_zero hd)
theorem nd_end {n m : Int} (h : Nd n m) (h2 : 2 ≤ n) (hs : ¬ m * m ≤ n) : prB n = true := prB_iff.mpr (pr_done h2 h.1 h.2.2 (by omega))
theorem nd_mu {n m : Int} (h : Nd n m) (hs : m * m ≤ n) : (n + 2 - (m + 1)).toNat < (n + 2 - m).toNat := by
  have := le_sq (m := m) (by have := h.1; omega)
  omega
theorem small_not {n : Int} (h : n < 2) : prB n = false := prB_no fun z => by have := z.1; omega

/-! ### the draws -/
def cellAt (ns : List Int) (k : Int) : Int := ns.getD k.toNat 0
def mixed (c k : Int) : Int := ((c + 7919 * k + 1) * 48271 % 2147483647) * (((c + 7919 * k + 1) * 48271 % 2147483647) / 1009 + 69621) % 2147483647
theorem mixed_in (c k : Int) : 0 ≤ mixed c k ∧ mixed c k < 2147483647 := ⟨Int.emod_nonneg _ (by decide), Int.emod_lt_of_pos _ (by decide)⟩
theorem mixed_mul (c k : Int) : L2.CMul ((c + 7919 * k + 1) * 48271 % 2147483647) (((c + 7919 * k + 1) * 48271 % 2147483647) / 1009 + 69621) := by
  left
  have h1 := Int.emod_nonneg ((c + 7919 * k + 1) * 48271) (show (2147483647 : Int) ≠ 0 by decide)
  have h2 := Int.emod_lt_of_pos ((c + 7919 * k + 1) * 48271) (show (0 : Int) < 2147483647 by decide)
  constructor <;> omega
/-- what _law_number yields -/
def num (c : Int) : Int :=
  if mixed c 1 % 6 = 0 then c % (2 * 10 ^ (6 : Int).toNat + 1) - 10 ^ (6 : Int).toNat
  else if mixed c 1 % 6 = 1 then c / 7 % 61
  else if mixed c 1 % 6 = 2 then (2 + mixed c 2 % 999) * (2 + mixed c 3 % 999)
  else if mixed c 1 % 6 = 3 then (if (2 + mixed c 2 % 998) ^ (2 : Int).toNat + mixed c 3 % 3 - 1 < 10 ^ (6 : Int).toNat then (2 + mixed c 2 % 998) ^ (2 : Int).toNat + mixed c 3 % 3 - 1 else 10 ^ (6 : Int).toNat)
  else 2 + c / 3 % (10 ^ (6 : Int).toNat - 1)
theorem num_le (c : Int) : num c ≤ 1000000 := by
  have p6 : (10 : Int) ^ (6 : Int).toNat = 1000000 := by decide
  unfold num
  rw [p6]
  have b1 := Int.emod_nonneg (mixed c 2) (show (999 : Int) ≠ 0 by decide)
  have b2 := Int.emod_lt_of_pos (mixed c 2) (show (0 : Int) < 999 by decide)
  have b3 := Int.emod_nonneg (mixed c 3) (show (999 : Int) ≠ 0 by decide)
  have b4 := Int.emod_lt_of_pos (mixed c 3) (show (0 : Int) < 999 by decide)
  have b5 : (2 + mixed c 2 % 999) * (2 + mixed c 3 % 999) ≤ 1000 * 1000 := Int.mul_le_mul (by omega) (by omega) (by omega) (by omega)
  split
  · omega
  · split
    · omega
    · split
      · omega
      · split
        · split <;> omega
        · omega
theorem fld_big {n : Int} (h : 1000000 < n) : (decide (1000000 < n) || !prB n) = true := by
  rw [decide_eq_true h] <;> rfl
theorem mod_in (x m : Int) (h : 0 < m) : 0 ≤ x % m ∧ x % m < m := ⟨Int.emod_nonneg _ (by omega), Int.emod_lt_of_pos _ h⟩
theorem cellAt_out {ns : List Int} {k : Int} (h : ¬ k < ns.length) : cellAt ns k = 0 := by
  unfold cellAt
  rw [List.getD_eq_getElem?_getD, List.getElem?_eq_none (by omega)] <;> rfl
section
variable {c : Int}
theorem num_0 (h : mixed c 1 % 6 = 0) : num c = c % (2 * 10 ^ (6 : Int).toNat + 1) - 10 ^ (6 : Int).toNat := by
  unfold num
  rw [if_pos h]
theorem num_1 (h : ¬ mixed c 1 % 6 = 0) (h1 : mixed c 1 % 6 = 1) : num c = c / 7 % 61 := by
  unfold num
  rw [if_neg h, if_pos h1]
theorem num_2 (h : ¬ mixed c 1 % 6 = 0) (h1 : ¬ mixed c 1 % 6 = 1) (h2 : mixed c 1 % 6 = 2) : num c = (2 + mixed c 2 % 999) * (2 + mixed c 3 % 999) := by
  unfold num
  rw [if_neg h, if_neg h1, if_pos h2]
theorem num_3 (h : ¬ mixed c 1 % 6 = 0) (h1 : ¬ mixed c 1 % 6 = 1) (h2 : ¬ mixed c 1 % 6 = 2) (h3 : mixed c 1 % 6 = 3) : num c = (if (2 + mixed c 2 % 998) ^ (2 : Int).toNat + mixed c 3 % 3 - 1 < 10 ^ (6 : Int).toNat then (2 + mixed c 2 % 998) ^ (2 : Int).toNat + mixed c 3 % 3 - 1 else 10 ^ (6 : Int).toNat) := by
  unfold num
  rw [if_neg h, if_neg h1, if_neg h2, if_pos h3]
theorem num_4 (h : ¬ mixed c 1 % 6 = 0) (h1 : ¬ mixed c 1 % 6 = 1) (h2 : ¬ mixed c 1 % 6 = 2) (h3 : ¬ mixed c 1 % 6 = 3) : num c = 2 + c / 3 % (10 ^ (6 : Int).toNat - 1) := by
  unfold num
  rw [if_neg h, if_neg h1, if_neg h2, if_neg h3]
end
theorem right_ok {n : Int} (h : n ≤ 1000000) : decide ((if (decide (1000000 < n) || !prB n) = true then ("none" : PySem.Str) else "made") = (if prB n = true then ("made" : PySem.Str) else "none")) = true := by
  have e : decide (1000000 < n) = false := decide_eq_false (by omega)
  rw [e]
  cases prB n with
  | true => simp
  | false => simp
theorem few_le {i : Nat} {x : Int} (h : [0, 1, 2, 3, 4, 25, 49, 999983, (10 : Int) ^ (6 : Int).toNat][i]? = some x) : x ≤ 1000000 := by
  have e := List.mem_of_getElem? h
  have p6 : (10 : Int) ^ (6 : Int).toNat = 1000000 := by decide
  rw [p6] at e
  simp at e
  omega
theorem big_le {x : Int} : 10 ^ (6 : Int).toNat + 1 + x % 10 ^ (7 : Int).toNat ≤ (2 : Int) ^ 40 := by
  have p6 : (10 : Int) ^ (6 : Int).toNat = 1000000 := by decide
  have p7 : (10 : Int) ^ (7 : Int).toNat = 10000000 := by decide
  rw [p6, p7]
  omega
theorem big_none {x : Int} : decide ((if (decide (1000000 < 10 ^ (6 : Int).toNat + 1 + x % 10 ^ (7 : Int).toNat) || !prB (10 ^ (6 : Int).toNat + 1 + x % 10 ^ (7 : Int).toNat)) = true then ("none" : PySem.Str) else "made") = "none") = true := by
  have p6 : (10 : Int) ^ (6 : Int).toNat = 1000000 := by decide
  have p7 : (10 : Int) ^ (7 : Int).toNat = 10000000 := by decide
  rw [p6, p7, fld_big (by omega)]
  simp
structure Wd (K : PySem.W.Frag) (mg : Str → Option Value) : Prop where
  bl : Bl mg
  c_GREATEST : ∃ t, mg "GREATEST" = some (.int 1000000 t)
  g_Field : mg "Field" = some (.ref (He.ga K "Field"))
  cl_Field : Cls K (He.ga K "Field")
  mk_Field : Mk K (He.ga K "Field") (He.ma K (He.ga K "Field") "__init__")
  na_Field_prime : NoAttr K (He.ga K "Field") "prime"
  g_PostError : mg "PostError" = some (.ref (He.ga K "PostError"))
  x_PostError : Xc K mg "PostError" (He.ga K "PostError")
  g_NoPrime : mg "NoPrime" = some (.ref (He.ga K "NoPrime"))
  x_NoPrime : Xc K mg "NoPrime" (He.ga K "NoPrime")
  g_NoBack : mg "NoBack" = some (.ref (He.ga K "NoBack"))
  x_NoBack : Xc K mg "NoBack" (He.ga K "NoBack")
  g_NoName : mg "NoName" = some (.ref (He.ga K "NoName"))
  x_NoName : Xc K mg "NoName" (He.ga K "NoName")
  g_NoNumber : mg "NoNumber" = some (.ref (He.ga K "NoNumber"))
  x_NoNumber : Xc K mg "NoNumber" (He.ga K "NoNumber")
  exm_NoPrime_NoPrime : PySem.W.exmOne K (.ref (He.ga K "NoPrime")) (.ref (He.ga K "NoPrime")) = some true
  e_NoPrime : ExcC K (He.ga K "NoPrime")
  kt_post : PySem.W.kitOne K (.ref (He.ga K "NoPrime")) (.ref (He.ga K "PostError")) = some true
  kt_ve : PySem.W.kitOne K (.ref (He.ga K "NoPrime")) (.type "ValueError") = some true
  kt_oth : PySem.W.kitAny K (.ref (He.ga K "NoPrime")) [.ref (He.ga K "NoBack"), .ref (He.ga K "NoName"), .ref (He.ga K "NoNumber")] = some false
  g_is_prime : mg "is_prime" = some (.ref (He.ga K "is_prime"))
  g__law_cell_at : mg "_law_cell_at" = some (.ref (He.ga K "_law_cell_at"))
  g__law_mixed : mg "_law_mixed" = some (.ref (He.ga K "_law_mixed"))
  g__law_number : mg "_law_number" = some (.ref (He.ga K "_law_number"))
  g__law_due : mg "_law_due" = some (.ref (He.ga K "_law_due"))
  g__law_field : mg "_law_field" = some (.ref (He.ga K "_law_field"))
  g__law_right : mg "_law_right" = some (.ref (He.ga K "_law_right"))
/-! ### promises -/
def sp_is_prime : Sp := spP (fun n : Int => [.int n]) (fun n => n ≤ 2 ^ 60) (fun n => .bl (prB n))
def sp_Field__init_ (K : PySem.W.Frag) : Sp := spInit (He.ga K "Field") (fun n : Int => [.int n]) (fun n => n ≤ 2 ^ 40) (fun n => if (decide (1000000 < n) || !prB n) = true then some (He.ga K "NoPrime") else none) (fun n => [("prime", .int n)])
def sp__law_cell_at (K : PySem.W.Frag) : Sp := spP (fun p : List Int × Int => [.scr K p.1, .int p.2]) (fun p => 0 ≤ p.2) (fun p => .int (cellAt p.1 p.2))
def sp__law_mixed : Sp := spP (fun p : Int × Int => [.int p.1, .int p.2]) (fun _ => True) (fun p => .int (mixed p.1 p.2))
def sp__law_number : Sp := spP (fun c : Int => [.int c]) (fun _ => True) (fun c => .int (num c))
def sp__law_due : Sp := spP (fun n : Int => [.int n]) (fun n => n ≤ 2 ^ 60) (fun n => .bl (prB n))
def sp__law_field : Sp := spP (fun n : Int => [.int n]) (fun n => n ≤ 2 ^ 40) (fun n => .str (if (decide (1000000 < n) || !prB n) = true then "none" else "made"))
def sp__law_right : Sp := spP (fun n : Int => [.int n]) (fun n => n ≤ 1000000) (fun _ => .bl true)
def sp_law (K : PySem.W.Frag) : Sp := Q.spLaw K
def sp_make_Field (K : PySem.W.Frag) : Sp := spR (fun n : Int => [.int n]) (fun n => n ≤ 2 ^ 40) (fun n => if (decide (1000000 < n) || !prB n) = true then some (He.ga K "NoPrime") else none) (fun n => .ins (He.ga K "Field") [("prime", .int n)])
section
variable {P : Program} {w : World} {K : PySem.W.Frag} {mg : Str → Option Value} {base : Heap} {f : Addr} {fd : FuncData}
theorem sc_is_prime : FnScope ["number", "by"] ["number"] (defScope s_is_prime) := ⟨rfl, rfl, rfl, by decide +kernel, rfl, by decide +kernel, by decide +kernel⟩
set_option maxHeartbeats 4000000 in
theorem ok_is_prime (T : Wd K mg) (F : FunD K "is_prime" "is_prime" (defArgs s_is_prime) (defBody s_is_prime) (defScope s_is_prime) [] [] f fd) :
    FnOk P w K mg base (L2.CX P w) 1 f fd ["number"] (sp_is_prime) := by
  refine fn_P F sc_is_prime (fun _ => rfl) fun cdv A outer s H q E a hr hp hq => ?_
  have tk : Takes (cxOf (L2.CX P w) P w K mg base ["number", "by"] "is_prime" (defScope s_is_prime) f cdv A outer s H E) (Q.Wd E) := takes_of rfl rfl rfl rfl
  have pown : PassesOwn (model (cxOf (L2.CX P w) P w K mg base ["number", "by"] "is_prime" (defScope s_is_prime) f cdv A outer s H E).prog (cxOf (L2.CX P w) P w K mg base ["number", "by"] "is_prime" (defScope s_is_prime) f cdv A outer s H E).w) (cxOf (L2.CX P w) P w K mg base ["number", "by"] "is_prime" (defScope s_is_prime) f cdv A outer s H E).A (cxOf (L2.CX P w) P w K mg base ["number", "by"] "is_prime" (defScope s_is_prime) f cdv A outer s H E).env (cxOf (L2.CX P w) P w K mg base ["number", "by"] "is_prime" (defScope s_is_prime) f cdv A outer s H E).xe := passes_of rfl
  have nd := sc_is_prime.nd
  refine wb_if1 (tc (ep_var 0 rfl (by walk_at "vis") rfl) ep_int (by walk_at "cmp")) (fun h0 => ?_) (fun h0 => ?_)
  · skip
    refine wb_retP 3 ep_bl rfl ?_
    exact pp_bl hq (small_not (of_decide_eq_true h0))
  · skip
    refine wb_st (st_asg 1 ep_int (nd) rfl (by walk_at "loc")) ?_
    refine wb_while (α := Int) (fun m => [some (.v false (.int a)), some (I m)]) (fun _ => []) (Nd a) (fun m => (a + 2 - m).toNat) (fun m => decide (m * m ≤ a)) 2 (nd_0 a) rfl rfl (fun m hm => ?_) (fun m hm hk => ?_) (fun m hm hk => ?_) pown
    · skip
      have hm1 := hm.1
      have hm2 := hm.2.1
      exact ET.is (tc (ep_bin (ep_var 1 rfl (by walk_at "vis") rfl) (ep_var 1 rfl (by walk_at "vis") rfl) (by walk_at "mul")) (ep_var 0 rfl (by walk_at "vis") rfl) (by walk_at "cmp")) (by rfl)
    · skip
      have hm1 := hm.1
      have hm2 := hm.2.1
      have hs := of_decide_eq_true hk
      refine wb_if1 (tc (ep_bin (ep_var 0 rfl (by walk_at "vis") rfl) (ep_var 1 rfl (by walk_at "vis") rfl) (by walk_at "mod")) ep_int (by walk_at "cmp")) (fun h1 => ?_) (fun h1 => ?_)
      · skip
        refine wb_retP 3 ep_bl rfl ?_
        exact pp_bl hq (nd_found hm hs (of_decide_eq_true h1))
      · skip
        refine wb_st (st_aug 1 (f := fun i j => i + j) ip_add rfl ep_int (nd) rfl (by walk_at "loc")) ?_
        exact wb_again (m + 1) (nd_next hm hp hs (of_decide_eq_false h1)) (nd_mu hm hs) rfl rfl (fun _ => rfl)
    · skip
      have hs := of_decide_eq_false hk
      refine wb_retP 3 ep_bl rfl ?_
      exact pp_bl hq (nd_end hm (by have := of_decide_eq_false h0; omega) hs)
theorem sc_Field__init_ : FnScope ["self", "prime"] ["self", "prime"] (defScope s_Field__init_) := ⟨rfl, rfl, rfl, by decide +kernel, rfl, by decide +kernel, by decide +kernel⟩
set_option maxHeartbeats 4000000 in
theorem ok_Field__init_ (T : Wd K mg) (g_is_prime : Gf P w K mg base "is_prime" 1 [] (sp_is_prime)) (F : FunD K "__init__" "Field.__init__" (defArgs s_Field__init_) (defBody s_Field__init_) (defScope s_Field__init_) [] [] f fd) :
    FnOk P w K mg base (L2.CX P w) 2 f fd ["self", "prime"] (sp_Field__init_ K) := by
  refine fn_I F sc_Field__init_ (fun _ => rfl) fun cdv A outer s H H0 y q E a hr hp hq hbad => ?_
  have tk : Takes (cxOf (L2.CX P w) P w K mg base ["self", "prime"] "Field.__init__" (defScope s_Field__init_) f cdv A outer s H E) (Q.Wd E) := takes_of rfl rfl rfl rfl
  have pown : PassesOwn (model (cxOf (L2.CX P w) P w K mg base ["self", "prime"] "Field.__init__" (defScope s_Field__init_) f cdv A outer s H E).prog (cxOf (L2.CX P w) P w K mg base ["self", "prime"] "Field.__init__" (defScope s_Field__init_) f cdv A outer s H E).w) (cxOf (L2.CX P w) P w K mg base ["self", "prime"] "Field.__init__" (defScope s_Field__init_) f cdv A outer s H E).A (cxOf (L2.CX P w) P w K mg base ["self", "prime"] "Field.__init__" (defScope s_Field__init_) f cdv A outer s H E).env (cxOf (L2.CX P w) P w K mg base ["self", "prime"] "Field.__init__" (defScope s_Field__init_) f cdv A outer s H E).xe := passes_of rfl
  have nd := sc_Field__init_.nd
  have hr1 : Room 1 (cxOf (L2.CX P w) P w K mg base ["self", "prime"] "Field.__init__" (defScope s_Field__init_) f cdv A outer s H E).A := hr.mono (by decide)
  refine wb_if1 (EW.et (ew_or (tc (ep_var 1 rfl (by walk_at "vis") rfl) (ep_gl (by rfl) T.c_GREATEST) (by walk_at "cmp")) (fun hc1 => (ew_or1 (et_not (et_val (ep_call tk g_is_prime hr1 (by rfl) (ea_cons (ep_var 1 rfl (by walk_at "vis") rfl) ea_nil) (by exact (ct_P a (.v .nil) rfl (by have : a ≤ 2 ^ 40 := hp; omega)))))))))) (fun h0 => ?_) (fun h0 => ?_)
  · skip
    exact wb_raise tk rfl T.x_NoPrime (by rfl) (fun b A s H' S => hbad _ (by simp only [h0, if_true]) H' (S.exH0 (Bs.le.refl _)))
  · skip
    refine wb_st (st_fld (ep_var 1 rfl (by walk_at "vis") rfl) (ep_var 0 rfl (by walk_at "vis") rfl) rfl (by first | exact T.cl_Field) (by first | exact T.na_Field_prime)) ?_
    exact wb_endI 3 rfl (hq (by simp only [h0]; rfl)) (fun _ => rfl)
theorem sc__law_cell_at : FnScope ["_law_script", "_law_k"] ["_law_script", "_law_k"] (defScope s__law_cell_at) := ⟨rfl, rfl, rfl, by decide +kernel, rfl, by decide +kernel, by decide +kernel⟩
set_option maxHeartbeats 4000000 in
theorem ok__law_cell_at (T : Wd K mg) (F : FunD K "_law_cell_at" "_law_cell_at" (defArgs s__law_cell_at) (defBody s__law_cell_at) (defScope s__law_cell_at) [] [] f fd) :
    FnOk P w K mg base (L2.CX P w) 1 f fd ["_law_script", "_law_k"] (sp__law_cell_at K) := by
  refine fn_P F sc__law_cell_at (fun _ => rfl) fun cdv A outer s H q E a hr hp hq => ?_
  have tk : Takes (cxOf (L2.CX P w) P w K mg base ["_law_script", "_law_k"] "_law_cell_at" (defScope s__law_cell_at) f cdv A outer s H E) (Q.Wd E) := takes_of rfl rfl rfl rfl
  have pown : PassesOwn (model (cxOf (L2.CX P w) P w K mg base ["_law_script", "_law_k"] "_law_cell_at" (defScope s__law_cell_at) f cdv A outer s H E).prog (cxOf (L2.CX P w) P w K mg base ["_law_script", "_law_k"] "_law_cell_at" (defScope s__law_cell_at) f cdv A outer s H E).w) (cxOf (L2.CX P w) P w K mg base ["_law_script", "_law_k"] "_law_cell_at" (defScope s__law_cell_at) f cdv A outer s H E).A (cxOf (L2.CX P w) P w K mg base ["_law_script", "_law_k"] "_law_cell_at" (defScope s__law_cell_at) f cdv A outer s H E).env (cxOf (L2.CX P w) P w K mg base ["_law_script", "_law_k"] "_law_cell_at" (defScope s__law_cell_at) f cdv A outer s H E).xe := passes_of rfl
  have nd := sc__law_cell_at.nd
  refine wb_if1 (tc (ep_var 1 rfl (by walk_at "vis") rfl) (ep_lenG T.bl (by rfl) (ep_var 0 rfl (by walk_at "vis") rfl) (by walk_at "len")) (by walk_at "cmp")) (fun h0 => ?_) (fun h0 => ?_)
  · skip
    refine wb_retP 3 (ep_ixG (ep_var 0 rfl (by walk_at "vis") rfl) (ep_var 1 rfl (by walk_at "vis") rfl) (x_scr (atI_getD 0 hp (of_decide_eq_true h0)))) rfl ?_
    exact hq
  · skip
    refine wb_retP 3 ep_int rfl ?_
    exact pp_int hq (cellAt_out (of_decide_eq_false h0))
theorem sc__law_mixed : FnScope ["_law_cell", "_law_k", "_law_number_here"] ["_law_cell", "_law_k"] (defScope s__law_mixed) := ⟨rfl, rfl, rfl, by decide +kernel, rfl, by decide +kernel, by decide +kernel⟩
set_option maxHeartbeats 4000000 in
theorem ok__law_mixed (T : Wd K mg) (F : FunD K "_law_mixed" "_law_mixed" (defArgs s__law_mixed) (defBody s__law_mixed) (defScope s__law_mixed) [] [] f fd) :
    FnOk P w K mg base (L2.CX P w) 1 f fd ["_law_cell", "_law_k"] (sp__law_mixed) := by
  refine fn_P F sc__law_mixed (fun _ => rfl) fun cdv A outer s H q E a hr hp hq => ?_
  have tk : Takes (cxOf (L2.CX P w) P w K mg base ["_law_cell", "_law_k", "_law_number_here"] "_law_mixed" (defScope s__law_mixed) f cdv A outer s H E) (Q.Wd E) := takes_of rfl rfl rfl rfl
  have pown : PassesOwn (model (cxOf (L2.CX P w) P w K mg base ["_law_cell", "_law_k", "_law_number_here"] "_law_mixed" (defScope s__law_mixed) f cdv A outer s H E).prog (cxOf (L2.CX P w) P w K mg base ["_law_cell", "_law_k", "_law_number_here"] "_law_mixed" (defScope s__law_mixed) f cdv A outer s H E).w) (cxOf (L2.CX P w) P w K mg base ["_law_cell", "_law_k", "_law_number_here"] "_law_mixed" (defScope s__law_mixed) f cdv A outer s H E).A (cxOf (L2.CX P w) P w K mg base ["_law_cell", "_law_k", "_law_number_here"] "_law_mixed" (defScope s__law_mixed) f cdv A outer s H E).env (cxOf (L2.CX P w) P w K mg base ["_law_cell", "_law_k", "_law_number_here"] "_law_mixed" (defScope s__law_mixed) f cdv A outer s H E).xe := passes_of rfl
  have nd := sc__law_mixed.nd
  have hmul := mixed_mul a.1 a.2
  refine wb_st (st_asg 2 (ep_bin (ep_bin (ep_bin (ep_bin (ep_var 0 rfl (by walk_at "vis") rfl) (ep_bin ep_int (ep_var 1 rfl (by walk_at "vis") rfl) (by walk_at "mul")) (by walk_at "add")) ep_int (by walk_at "add")) ep_int (by walk_at "mul")) ep_int (by walk_at "mod")) (nd) rfl (by walk_at "loc")) ?_
  refine wb_retP 3 (ep_bin (ep_bin (ep_var 2 rfl (by walk_at "vis") rfl) (ep_bin (ep_bin (ep_var 2 rfl (by walk_at "vis") rfl) ep_int (by walk_at "div")) ep_int (by walk_at "add")) (by walk_at "mul")) ep_int (by walk_at "mod")) rfl ?_
  exact hq
theorem sc__law_number : FnScope ["_law_cell", "_law_way"] ["_law_cell"] (defScope s__law_number) := ⟨rfl, rfl, rfl, by decide +kernel, rfl, by decide +kernel, by decide +kernel⟩
set_option maxHeartbeats 4000000 in
theorem ok__law_number (T : Wd K mg) (g__law_mixed : Gf P w K mg base "_law_mixed" 1 [] (sp__law_mixed)) (F : FunD K "_law_number" "_law_number" (defArgs s__law_number) (defBody s__law_number) (defScope s__law_number) [] [] f fd) :
    FnOk P w K mg base (L2.CX P w) 2 f fd ["_law_cell"] (sp__law_number) := by
  refine fn_P F sc__law_number (fun _ => rfl) fun cdv A outer s H q E a hr hp hq => ?_
  have tk : Takes (cxOf (L2.CX P w) P w K mg base ["_law_cell", "_law_way"] "_law_number" (defScope s__law_number) f cdv A outer s H E) (Q.Wd E) := takes_of rfl rfl rfl rfl
  have pown : PassesOwn (model (cxOf (L2.CX P w) P w K mg base ["_law_cell", "_law_way"] "_law_number" (defScope s__law_number) f cdv A outer s H E).prog (cxOf (L2.CX P w) P w K mg base ["_law_cell", "_law_way"] "_law_number" (defScope s__law_number) f cdv A outer s H E).w) (cxOf (L2.CX P w) P w K mg base ["_law_cell", "_law_way"] "_law_number" (defScope s__law_number) f cdv A outer s H E).A (cxOf (L2.CX P w) P w K mg base ["_law_cell", "_law_way"] "_law_number" (defScope s__law_number) f cdv A outer s H E).env (cxOf (L2.CX P w) P w K mg base ["_law_cell", "_law_way"] "_law_number" (defScope s__law_number) f cdv A outer s H E).xe := passes_of rfl
  have nd := sc__law_number.nd
  have hr1 : Room 1 (cxOf (L2.CX P w) P w K mg base ["_law_cell", "_law_way"] "_law_number" (defScope s__law_number) f cdv A outer s H E).A := hr.mono (by decide)
  have m2 := mod_in (mixed a 2) 999 (by decide)
  have m3 := mod_in (mixed a 3) 999 (by decide)
  have m4 := mod_in (mixed a 2) 998 (by decide)
  have m5 := mod_in (a / 3) 999999 (by decide)
  refine wb_st (st_asg 1 (ep_bin (ep_call tk g__law_mixed hr1 (by rfl) (ea_cons (ep_var 0 rfl (by walk_at "vis") rfl) (ea_cons ep_int ea_nil)) (by exact (ct_P (a, 1) (.v (.v .nil)) rfl trivial))) ep_int (by walk_at "mod")) (nd) rfl (by walk_at "loc")) ?_
  refine wb_if1 (tc (ep_var 1 rfl (by walk_at "vis") rfl) ep_int (by walk_at "cmp")) (fun h0 => ?_) (fun h0 => ?_)
  · skip
    refine wb_retP 3 (ep_bin (ep_bin (ep_var 0 rfl (by walk_at "vis") rfl) (ep_bin (ep_bin ep_int (ep_bin ep_int ep_int (by walk_at "pow")) (by walk_at "mul")) ep_int (by walk_at "add")) (by walk_at "mod")) (ep_bin ep_int ep_int (by walk_at "pow")) (by walk_at "sub")) rfl ?_
    exact pp_int hq (num_0 (of_decide_eq_true h0))
  · skip
    refine wb_if1 (tc (ep_var 1 rfl (by walk_at "vis") rfl) ep_int (by walk_at "cmp")) (fun h1 => ?_) (fun h1 => ?_)
    · skip
      refine wb_retP 3 (ep_bin (ep_bin (ep_var 0 rfl (by walk_at "vis") rfl) ep_int (by walk_at "div")) ep_int (by walk_at "mod")) rfl ?_
      exact pp_int hq (num_1 (of_decide_eq_false h0) (of_decide_eq_true h1))
    · skip
      refine wb_if1 (tc (ep_var 1 rfl (by walk_at "vis") rfl) ep_int (by walk_at "cmp")) (fun h2 => ?_) (fun h2 => ?_)
      · skip
        refine wb_retP 3 (ep_bin (ep_bin ep_int (ep_bin (ep_call tk g__law_mixed hr1 (by rfl) (ea_cons (ep_var 0 rfl (by walk_at "vis") rfl) (ea_cons ep_int ea_nil)) (by exact (ct_P (a, 2) (.v (.v .nil)) rfl trivial))) ep_int (by walk_at "mod")) (by walk_at "add")) (ep_bin ep_int (ep_bin (ep_call tk g__law_mixed hr1 (by rfl) (ea_cons (ep_var 0 rfl (by walk_at "vis") rfl) (ea_cons ep_int ea_nil)) (by exact (ct_P (a, 3) (.v (.v .nil)) rfl trivial))) ep_int (by walk_at "mod")) (by walk_at "add")) (by walk_at "mul")) rfl ?_
        exact pp_int hq (num_2 (of_decide_eq_false h0) (of_decide_eq_false h1) (of_decide_eq_true h2))
      · skip
        refine wb_if1 (tc (ep_var 1 rfl (by walk_at "vis") rfl) ep_int (by walk_at "cmp")) (fun h3 => ?_) (fun h3 => ?_)
        · skip
          refine wb_retP 3 (ep_min2 T.bl rfl (by rfl) (ea_cons (ep_bin ep_int ep_int (by walk_at "pow")) (ea_cons (ep_bin (ep_bin (ep_bin (ep_bin ep_int (ep_bin (ep_call tk g__law_mixed hr1 (by rfl) (ea_cons (ep_var 0 rfl (by walk_at "vis") rfl) (ea_cons ep_int ea_nil)) (by exact (ct_P (a, 2) (.v (.v .nil)) rfl trivial))) ep_int (by walk_at "mod")) (by walk_at "add")) ep_int (by walk_at "pow")) (ep_bin (ep_call tk g__law_mixed hr1 (by rfl) (ea_cons (ep_var 0 rfl (by walk_at "vis") rfl) (ea_cons ep_int ea_nil)) (by exact (ct_P (a, 3) (.v (.v .nil)) rfl trivial))) ep_int (by walk_at "mod")) (by walk_at "add")) ep_int (by walk_at "sub")) ea_nil))) rfl ?_
          exact pp_int hq (num_3 (of_decide_eq_false h0) (of_decide_eq_false h1) (of_decide_eq_false h2) (of_decide_eq_true h3))
        · skip
          refine wb_retP 3 (ep_bin ep_int (ep_bin (ep_bin (ep_var 0 rfl (by walk_at "vis") rfl) ep_int (by walk_at "div")) (ep_bin (ep_bin ep_int ep_int (by walk_at "pow")) ep_int (by walk_at "sub")) (by walk_at "mod")) (by walk_at "add")) rfl ?_
          exact pp_int hq (num_4 (of_decide_eq_false h0) (of_decide_eq_false h1) (of_decide_eq_false h2) (of_decide_eq_false h3))
theorem sc__law_due : FnScope ["_law_number_here", "_law_by"] ["_law_number_here"] (defScope s__law_due) := ⟨rfl, rfl, rfl, by decide +kernel, rfl, by decide +kernel, by decide +kernel⟩
set_option maxHeartbeats 4000000 in
theorem ok__law_due (T : Wd K mg) (F : FunD K "_law_due" "_law_due" (defArgs s__law_due) (defBody s__law_due) (defScope s__law_due) [] [] f fd) :
    FnOk P w K mg base (L2.CX P w) 1 f fd ["_law_number_here"] (sp__law_due) := by
  refine fn_P F sc__law_due (fun _ => rfl) fun cdv A outer s H q E a hr hp hq => ?_
  have tk : Takes (cxOf (L2.CX P w) P w K mg base ["_law_number_here", "_law_by"] "_law_due" (defScope s__law_due) f cdv A outer s H E) (Q.Wd E) := takes_of rfl rfl rfl rfl
  have pown : PassesOwn (model (cxOf (L2.CX P w) P w K mg base ["_law_number_here", "_law_by"] "_law_due" (defScope s__law_due) f cdv A outer s H E).prog (cxOf (L2.CX P w) P w K mg base ["_law_number_here", "_law_by"] "_law_due" (defScope s__law_due) f cdv A outer s H E).w) (cxOf (L2.CX P w) P w K mg base ["_law_number_here", "_law_by"] "_law_due" (defScope s__law_due) f cdv A outer s H E).A (cxOf (L2.CX P w) P w K mg base ["_law_number_here", "_law_by"] "_law_due" (defScope s__law_due) f cdv A outer s H E).env (cxOf (L2.CX P w) P w K mg base ["_law_number_here", "_law_by"] "_law_due" (defScope s__law_due) f cdv A outer s H E).xe := passes_of rfl
  have nd := sc__law_due.nd
  refine wb_if1 (tc (ep_var 0 rfl (by walk_at "vis") rfl) ep_int (by walk_at "cmp")) (fun h0 => ?_) (fun h0 => ?_)
  · skip
    refine wb_retP 3 ep_bl rfl ?_
    exact pp_bl hq (small_not (of_decide_eq_true h0))
  · skip
    refine wb_st (st_asg 1 ep_int (nd) rfl (by walk_at "loc")) ?_
    refine wb_while (α := Int) (fun m => [some (.v false (.int a)), some (I m)]) (fun _ => []) (Nd a) (fun m => (a + 2 - m).toNat) (fun m => decide (m * m ≤ a)) 2 (nd_0 a) rfl rfl (fun m hm => ?_) (fun m hm hk => ?_) (fun m hm hk => ?_) pown
    · skip
      have hm1 := hm.1
      have hm2 := hm.2.1
      exact ET.is (tc (ep_bin (ep_var 1 rfl (by walk_at "vis") rfl) (ep_var 1 rfl (by walk_at "vis") rfl) (by walk_at "mul")) (ep_var 0 rfl (by walk_at "vis") rfl) (by walk_at "cmp")) (by rfl)
    · skip
      have hm1 := hm.1
      have hm2 := hm.2.1
      have hs := of_decide_eq_true hk
      refine wb_if1 (tc (ep_bin (ep_var 0 rfl (by walk_at "vis") rfl) (ep_var 1 rfl (by walk_at "vis") rfl) (by walk_at "mod")) ep_int (by walk_at "cmp")) (fun h1 => ?_) (fun h1 => ?_)
      · skip
        refine wb_retP 3 ep_bl rfl ?_
        exact pp_bl hq (nd_found hm hs (of_decide_eq_true h1))
      · skip
        refine wb_st (st_asg 1 (ep_bin (ep_var 1 rfl (by walk_at "vis") rfl) ep_int (by walk_at "add")) (nd) rfl (by walk_at "loc")) ?_
        exact wb_again (m + 1) (nd_next hm hp hs (of_decide_eq_false h1)) (nd_mu hm hs) rfl rfl (fun _ => rfl)
    · skip
      have hs := of_decide_eq_false hk
      refine wb_retP 3 ep_bl rfl ?_
      exact pp_bl hq (nd_end hm (by have := of_decide_eq_false h0; omega) hs)
theorem sc__law_field : FnScope ["_law_number_here", "_law_word", "e", "_law_others"] ["_law_number_here"] (defScope s__law_field) := ⟨rfl, rfl, rfl, by decide +kernel, rfl, by decide +kernel, by decide +kernel⟩
set_option maxHeartbeats 4000000 in
theorem ok__law_field (T : Wd K mg) (g_Field : Gc P w K mg base "Field" 2 [] (sp_make_Field K)) (F : FunD K "_law_field" "_law_field" (defArgs s__law_field) (defBody s__law_field) (defScope s__law_field) [] [] f fd) :
    FnOk P w K mg base (L2.CX P w) 4 f fd ["_law_number_here"] (sp__law_field) := by
  refine fn_P F sc__law_field (fun _ => rfl) fun cdv A outer s H q E a hr hp hq => ?_
  have tk : Takes (cxOf (L2.CX P w) P w K mg base ["_law_number_here", "_law_word", "e", "_law_others"] "_law_field" (defScope s__law_field) f cdv A outer s H E) (Q.Wd E) := takes_of rfl rfl rfl rfl
  have pown : PassesOwn (model (cxOf (L2.CX P w) P w K mg base ["_law_number_here", "_law_word", "e", "_law_others"] "_law_field" (defScope s__law_field) f cdv A outer s H E).prog (cxOf (L2.CX P w) P w K mg base ["_law_number_here", "_law_word", "e", "_law_others"] "_law_field" (defScope s__law_field) f cdv A outer s H E).w) (cxOf (L2.CX P w) P w K mg base ["_law_number_here", "_law_word", "e", "_law_others"] "_law_field" (defScope s__law_field) f cdv A outer s H E).A (cxOf (L2.CX P w) P w K mg base ["_law_number_here", "_law_word", "e", "_law_others"] "_law_field" (defScope s__law_field) f cdv A outer s H E).env (cxOf (L2.CX P w) P w K mg base ["_law_number_here", "_law_word", "e", "_law_others"] "_law_field" (defScope s__law_field) f cdv A outer s H E).xe := passes_of rfl
  have nd := sc__law_field.nd
  have hr3 : Room 3 (cxOf (L2.CX P w) P w K mg base ["_law_number_here", "_law_word", "e", "_law_others"] "_law_field" (defScope s__law_field) f cdv A outer s H E).A := hr.mono (by decide)
  refine wb_st (st_asg 1 ep_str (nd) rfl (by walk_at "loc")) ?_
  refine wb_try_as 2 tk rfl rfl (nd) rfl rfl ⟨by rfl, by decide, .inl T.g_NoPrime⟩ (fun b1 pn1 xe1 W1 lb1 tk1 pown1 caught => ?_)
  cases hbad : (decide (1000000 < a) || !prB a) with
  | true =>
    refine wb_badAsg 1 (er_ixR (ep_lstG (ea_cons ep_str (ea_cons ep_str ea_nil)) (by walk_at "dat")) (er_int T.bl (by rfl) (era_hd (er_cmpL op_eq (er_fld (er_of fun r => (ep_make tk1 g_Field hr3 (by rfl) (ea_cons (ep_var 0 rfl (by walk_at "vis") rfl) ea_nil) (ct_bad a (.v .nil) rfl (by first | exact hp | omega) (by simp only [hbad, if_true]) (fun b A s H S => caught (.ref (He.ga K "NoPrime")) none true b A _ _ s H S T.exm_NoPrime_NoPrime (fun _ ax oe pn hz hv => ?suite) (fun h => nomatch h)))))))))) nd rfl (by walk_at "loc")
    refine wb_st (st_asg 3 (ep_isET T.bl T.e_NoPrime hz hv (by rfl) (ea_cons (ep_var 2 rfl (by walk_at "vis") rfl) (ea_cons (ep_tupG (ea_cons (ep_ref (by rfl) T.g_NoBack) (ea_cons (ep_ref (by rfl) T.g_NoName) (ea_cons (ep_ref (by rfl) T.g_NoNumber) ea_nil))) (by walk_at "dat")) ea_nil)) (by exact rfl) (by exact T.kt_oth)) (nd) rfl (by walk_at "loc")) ?_
    refine wb_st (st_asg 1 (ep_ixG (ep_lstG (ea_cons ep_str (ea_cons ep_str ea_nil)) (by walk_at "dat")) (ep_intG T.bl (by rfl) (ep_and (ep_isE T.bl T.e_NoPrime hz hv (by rfl) (ea_cons (ep_var 2 rfl (by walk_at "vis") rfl) (ea_cons (ep_ref (by rfl) T.g_PostError) ea_nil)) (by exact rfl) (by exact T.kt_post)) (fun hc2 => (ep_and (ep_isE T.bl T.e_NoPrime hz hv (by rfl) (ea_cons (ep_var 2 rfl (by walk_at "vis") rfl) (ea_cons (ep_bltn (by rfl) T.bl.verr (by exact rfl)) ea_nil)) (by exact rfl) (by exact T.kt_ve)) (fun hc1 => (ep_one (ep_not (ep_var 3 rfl (by walk_at "vis") rfl))))))) (by walk_at "int")) (by walk_at "ix")) (nd) rfl (by walk_at "loc")) ?_
    refine wb_suite ?_
    refine wb_retP 3 (ep_var 1 rfl (by walk_at "vis") rfl) rfl ?_
    exact pp_str hq (by simp only [hbad]; rfl)
  | false =>
    have tk0 := tk
    clear tk
    have tk := tk1
    refine wb_st (st_asg 1 (ep_ixG (ep_lstG (ea_cons ep_str (ea_cons ep_str ea_nil)) (by walk_at "dat")) (ep_intG T.bl (by rfl) (ec (ep_fld (ep_make tk g_Field hr3 (by rfl) (ea_cons (ep_var 0 rfl (by walk_at "vis") rfl) ea_nil) (by exact (ct_R a (.v .nil) rfl hp (by simp only [hbad]; rfl)))) (by first | exact T.cl_Field) (by first | exact T.na_Field_prime) (by walk_at "look")) (ep_var 0 rfl (by walk_at "vis") rfl) (by walk_at "cmp")) (by walk_at "int")) (by walk_at "ix")) (nd) rfl (by walk_at "loc")) ?_
    refine wb_go ?_
    refine WB.up ?_ lb1
    clear tk
    have tk := tk0
    refine wb_retP 3 (ep_var 1 rfl (by walk_at "vis") rfl) rfl ?_
    exact pp_str hq (by simp only [hbad]; simp)
theorem sc__law_right : FnScope ["_law_number_here", "_law_found", "_law_due_here"] ["_law_number_here"] (defScope s__law_right) := ⟨rfl, rfl, rfl, by decide +kernel, rfl, by decide +kernel, by decide +kernel⟩
set_option maxHeartbeats 4000000 in
theorem ok__law_right (T : Wd K mg) (g_is_prime : Gf P w K mg base "is_prime" 1 [] (sp_is_prime)) (g__law_due : Gf P w K mg base "_law_due" 1 [] (sp__law_due)) (g__law_field : Gf P w K mg base "_law_field" 4 [] (sp__law_field)) (F : FunD K "_law_right" "_law_right" (defArgs s__law_right) (defBody s__law_right) (defScope s__law_right) [] [] f fd) :
    FnOk P w K mg base (L2.CX P w) 5 f fd ["_law_number_here"] (sp__law_right) := by
  refine fn_P F sc__law_right (fun _ => rfl) fun cdv A outer s H q E a hr hp hq => ?_
  have tk : Takes (cxOf (L2.CX P w) P w K mg base ["_law_number_here", "_law_found", "_law_due_here"] "_law_right" (defScope s__law_right) f cdv A outer s H E) (Q.Wd E) := takes_of rfl rfl rfl rfl
  have pown : PassesOwn (model (cxOf (L2.CX P w) P w K mg base ["_law_number_here", "_law_found", "_law_due_here"] "_law_right" (defScope s__law_right) f cdv A outer s H E).prog (cxOf (L2.CX P w) P w K mg base ["_law_number_here", "_law_found", "_law_due_here"] "_law_right" (defScope s__law_right) f cdv A outer s H E).w) (cxOf (L2.CX P w) P w K mg base ["_law_number_here", "_law_found", "_law_due_here"] "_law_right" (defScope s__law_right) f cdv A outer s H E).A (cxOf (L2.CX P w) P w K mg base ["_law_number_here", "_law_found", "_law_due_here"] "_law_right" (defScope s__law_right) f cdv A outer s H E).env (cxOf (L2.CX P w) P w K mg base ["_law_number_here", "_law_found", "_law_due_here"] "_law_right" (defScope s__law_right) f cdv A outer s H E).xe := passes_of rfl
  have nd := sc__law_right.nd
  have hr1 : Room 1 (cxOf (L2.CX P w) P w K mg base ["_law_number_here", "_law_found", "_law_due_here"] "_law_right" (defScope s__law_right) f cdv A outer s H E).A := hr.mono (by decide)
  have hr4 : Room 4 (cxOf (L2.CX P w) P w K mg base ["_law_number_here", "_law_found", "_law_due_here"] "_law_right" (defScope s__law_right) f cdv A outer s H E).A := hr.mono (by decide)
  refine wb_st (st_asg 1 (ep_call tk g_is_prime hr1 (by rfl) (ea_cons (ep_var 0 rfl (by walk_at "vis") rfl) ea_nil) (by exact (ct_P a (.v .nil) rfl (by have : a ≤ 1000000 := hp; omega)))) (nd) rfl (by walk_at "loc")) ?_
  refine wb_st (st_asg 2 (ep_call tk g__law_due hr1 (by rfl) (ea_cons (ep_var 0 rfl (by walk_at "vis") rfl) ea_nil) (by exact (ct_P a (.v .nil) rfl (by have : a ≤ 1000000 := hp; omega)))) (nd) rfl (by walk_at "loc")) ?_
  refine wb_no (EW.et (ew_or (et_not (et_val (ep_isB T.bl (by rfl) (ea_cons (ep_var 1 rfl (by walk_at "vis") rfl) (ea_cons (ep_bltn (by rfl) T.bl.bool (by exact rfl)) ea_nil)) (by exact rfl) (by exact rfl)))) (fun hc1 => (ew_or1 (tc (ep_var 1 rfl (by walk_at "vis") rfl) (ep_var 2 rfl (by walk_at "vis") rfl) (by walk_at "cmp")))))) (by exact (by simp)) ?_
  refine wb_go ?_
  refine wb_retP 3 (ec (ep_call tk g__law_field hr4 (by rfl) (ea_cons (ep_var 0 rfl (by walk_at "vis") rfl) ea_nil) (by exact (ct_P a (.v .nil) rfl (by have : a ≤ 1000000 := hp; omega)))) (ep_ixG (ep_lstG (ea_cons ep_str (ea_cons ep_str ea_nil)) (by walk_at "dat")) (ep_intG T.bl (by rfl) (ep_var 2 rfl (by walk_at "vis") rfl) (by walk_at "int")) (by walk_at "ix")) (by walk_at "cmp")) rfl ?_
  exact pp_bl hq (right_ok hp).symm
theorem sc_law : FnScope ["_law_script", "_law_cell", "_law_number_here"] ["_law_script"] (defScope s_law) := ⟨rfl, rfl, rfl, by decide +kernel, rfl, by decide +kernel, by decide +kernel⟩
set_option maxHeartbeats 4000000 in
theorem ok_law (T : Wd K mg) (g__law_right : Gf P w K mg base "_law_right" 5 [] (sp__law_right)) (g__law_number : Gf P w K mg base "_law_number" 2 [] (sp__law_number)) (g__law_field : Gf P w K mg base "_law_field" 4 [] (sp__law_field)) (g__law_cell_at : Gf P w K mg base "_law_cell_at" 1 [] (sp__law_cell_at K)) (F : FunD K "law" "law" (defArgs s_law) (defBody s_law) (defScope s_law) [] [] f fd) :
    FnOk P w K mg base (L2.CX P w) 6 f fd ["_law_script"] (sp_law K) := by
  refine fn_L F sc_law (fun cdv A outer s H q E a hr hp hq => ?_)
  have tk : Takes (cxOf (L2.CX P w) P w K mg base ["_law_script", "_law_cell", "_law_number_here"] "law" (defScope s_law) f cdv A outer s H E) (Q.Wd E) := takes_of rfl rfl rfl rfl
  have pown : PassesOwn (model (cxOf (L2.CX P w) P w K mg base ["_law_script", "_law_cell", "_law_number_here"] "law" (defScope s_law) f cdv A outer s H E).prog (cxOf (L2.CX P w) P w K mg base ["_law_script", "_law_cell", "_law_number_here"] "law" (defScope s_law) f cdv A outer s H E).w) (cxOf (L2.CX P w) P w K mg base ["_law_script", "_law_cell", "_law_number_here"] "law" (defScope s_law) f cdv A outer s H E).A (cxOf (L2.CX P w) P w K mg base ["_law_script", "_law_cell", "_law_number_here"] "law" (defScope s_law) f cdv A outer s H E).env (cxOf (L2.CX P w) P w K mg base ["_law_script", "_law_cell", "_law_number_here"] "law" (defScope s_law) f cdv A outer s H E).xe := passes_of rfl
  have nd := sc_law.nd
  have hr1 : Room 1 (cxOf (L2.CX P w) P w K mg base ["_law_script", "_law_cell", "_law_number_here"] "law" (defScope s_law) f cdv A outer s H E).A := hr.mono (by decide)
  have hr2 : Room 2 (cxOf (L2.CX P w) P w K mg base ["_law_script", "_law_cell", "_law_number_here"] "law" (defScope s_law) f cdv A outer s H E).A := hr.mono (by decide)
  have hr4 : Room 4 (cxOf (L2.CX P w) P w K mg base ["_law_script", "_law_cell", "_law_number_here"] "law" (defScope s_law) f cdv A outer s H E).A := hr.mono (by decide)
  have hr5 : Room 5 (cxOf (L2.CX P w) P w K mg base ["_law_script", "_law_cell", "_law_number_here"] "law" (defScope s_law) f cdv A outer s H E).A := hr.mono (by decide)
  refine wb_for (α := Option El) (β := Int) (fun o => [some (.v false (.scr K a)), o, none]) (fun _ => []) (fun _ _ => True) (cutL a none (some 12)) (D.int) (fun _ x => [some (.v false (.scr K a)), some (.v true (.int x)), none]) none trivial rfl rfl (it_list (ep_cutG (ep_var 0 rfl (by walk_at "vis") rfl) eo_none (eo_some ep_int) (by walk_at "cut"))) rfl (fun o x => (ag_name 1 (nd) rfl (by walk_at "loc"))) (fun bo bpo io o x ho hx => ?_) (fun o ho => ?_) rfl pown
  · skip
    refine wb_no (et_not (et_val (ep_call tk g__law_right hr5 (by rfl) (ea_cons (ep_call tk g__law_number hr2 (by rfl) (ea_cons (ep_var 1 rfl (by walk_at "vis") rfl) ea_nil) (by exact (ct_P _ (.v .nil) rfl trivial))) ea_nil) (by exact (ct_P _ (.v .nil) rfl (num_le _)))))) (by exact rfl) ?_
    refine wb_go ?_
    exact wb_next (some (.v true (.int x))) (trivial) rfl rfl
  · skip
    refine wb_for (α := Option El) (β := Int) (fun u => [some (.v false (.scr K a)), o, u]) (fun _ => []) (fun _ _ => True) ([0, 1, 2, 3, 4, 25, 49, 999983, 10 ^ (6 : Int).toNat]) (D.int) (fun _ x => [some (.v false (.scr K a)), o, some (.v true (.int x))]) none trivial rfl rfl (it_list (ep_lstG (ea_cons ep_int (ea_cons ep_int (ea_cons ep_int (ea_cons ep_int (ea_cons ep_int (ea_cons ep_int (ea_cons ep_int (ea_cons ep_int (ea_cons (ep_bin ep_int ep_int (by walk_at "pow")) ea_nil))))))))) (by walk_at "dat"))) rfl (fun u x => (ag_name 2 (nd) rfl (by walk_at "loc"))) (fun bu bpu iu u x hu hx => ?_) (fun u hu => ?_) rfl pown
    · skip
      refine wb_no (et_not (et_val (ep_call tk g__law_right hr5 (by rfl) (ea_cons (ep_var 2 rfl (by walk_at "vis") rfl) ea_nil) (by exact (ct_P _ (.v .nil) rfl (few_le hx)))))) (by exact rfl) ?_
      refine wb_go ?_
      exact wb_next (some (.v true (.int x))) (trivial) rfl rfl
    · skip
      refine wb_retL (ec (ep_call tk g__law_field hr4 (by rfl) (ea_cons (ep_bin (ep_bin (ep_bin ep_int ep_int (by walk_at "pow")) ep_int (by walk_at "add")) (ep_bin (ep_call tk g__law_cell_at hr1 (by rfl) (ea_cons (ep_var 0 rfl (by walk_at "vis") rfl) (ea_cons ep_int ea_nil)) (by exact (ct_P (a, 0) (.v (.v .nil)) rfl (Int.le_refl 0)))) (ep_bin ep_int ep_int (by walk_at "pow")) (by walk_at "mod")) (by walk_at "add")) ea_nil) (by exact (ct_P _ (.v .nil) rfl big_le))) ep_str (by walk_at "cmp")) ?_ hq
      exact big_none
end
section
variable {P : Program} {w : World} {K : PySem.W.Frag} {mg : Str → Option Value} {base : Heap}
/-! ### the top -/
def d_is_prime : He.DefD := ⟨("is_prime", none), "is_prime", "is_prime", defArgs s_is_prime, defBody s_is_prime, defScope s_is_prime, [], []⟩
def d_Field__init_ : He.DefD := ⟨("Field", some "__init__"), "__init__", "Field.__init__", defArgs s_Field__init_, defBody s_Field__init_, defScope s_Field__init_, [], []⟩
def d__law_cell_at : He.DefD := ⟨("_law_cell_at", none), "_law_cell_at", "_law_cell_at", defArgs s__law_cell_at, defBody s__law_cell_at, defScope s__law_cell_at, [], []⟩
def d__law_mixed : He.DefD := ⟨("_law_mixed", none), "_law_mixed", "_law_mixed", defArgs s__law_mixed, defBody s__law_mixed, defScope s__law_mixed, [], []⟩
def d__law_number : He.DefD := ⟨("_law_number", none), "_law_number", "_law_number", defArgs s__law_number, defBody s__law_number, defScope s__law_number, [], []⟩
def d__law_due : He.DefD := ⟨("_law_due", none), "_law_due", "_law_due", defArgs s__law_due, defBody s__law_due, defScope s__law_due, [], []⟩
def d__law_field : He.DefD := ⟨("_law_field", none), "_law_field", "_law_field", defArgs s__law_field, defBody s__law_field, defScope s__law_field, [], []⟩
def d__law_right : He.DefD := ⟨("_law_right", none), "_law_right", "_law_right", defArgs s__law_right, defBody s__law_right, defScope s__law_right, [], []⟩
def d_law : He.DefD := ⟨("law", none), "law", "law", defArgs s_law, defBody s_law, defScope s_law, [], []⟩
def fns : List He.DefD := [d_is_prime, d_Field__init_, d__law_cell_at, d__law_mixed, d__law_number, d__law_due, d__law_field, d__law_right, d_law]
def fas : List He.Fa := [.free "len", .free "range", .free "zip", .free "enumerate", .free "reversed", .free "int", .free "str", .free "bool", .free "list", .free "tuple", .free "dict", .free "set", .free "sorted", .free "min", .free "max", .free "sum", .free "all", .free "any", .free "isinstance", .free "divmod", .free "ValueError", .int "GREATEST" 1000000, .glo "Field", .cls "Field", .mkr "Field", .noat "Field" "prime", .glo "PostError", .exc "PostError", .glo "NoPrime", .exc "NoPrime", .glo "NoBack", .exc "NoBack", .glo "NoName", .exc "NoName", .glo "NoNumber", .exc "NoNumber", .exm "NoPrime" "NoPrime" true, .glo "is_prime", .glo "_law_cell_at", .glo "_law_mixed", .glo "_law_number", .glo "_law_due", .glo "_law_field", .glo "_law_right", .glo "law"]
def exb (K : PySem.W.Frag) : Bool := (excB K (He.ga K "NoPrime")) && (decide (PySem.W.kitOne K (.ref (He.ga K "NoPrime")) (.ref (He.ga K "PostError")) = some true)) && (decide (PySem.W.kitOne K (.ref (He.ga K "NoPrime")) (.type "ValueError") = some true)) && (decide (PySem.W.kitAny K (.ref (He.ga K "NoPrime")) [.ref (He.ga K "NoBack"), .ref (He.ga K "NoName"), .ref (He.ga K "NoNumber")] = some false))
theorem exb_0 {K : PySem.W.Frag} (h : exb K = true) : (excB K (He.ga K "NoPrime")) = true := (Bool.and_eq_true_iff.mp (Bool.and_eq_true_iff.mp (Bool.and_eq_true_iff.mp h).1).1).1
theorem exb_1 {K : PySem.W.Frag} (h : exb K = true) : (decide (PySem.W.kitOne K (.ref (He.ga K "NoPrime")) (.ref (He.ga K "PostError")) = some true)) = true := (Bool.and_eq_true_iff.mp (Bool.and_eq_true_iff.mp (Bool.and_eq_true_iff.mp h).1).1).2
theorem exb_2 {K : PySem.W.Frag} (h : exb K = true) : (decide (PySem.W.kitOne K (.ref (He.ga K "NoPrime")) (.type "ValueError") = some true)) = true := (Bool.and_eq_true_iff.mp (Bool.and_eq_true_iff.mp h).1).2
theorem exb_3 {K : PySem.W.Frag} (h : exb K = true) : (decide (PySem.W.kitAny K (.ref (He.ga K "NoPrime")) [.ref (He.ga K "NoBack"), .ref (He.ga K "NoName"), .ref (He.ga K "NoNumber")] = some false)) = true := (Bool.and_eq_true_iff.mp h).2
theorem wd_of {h : Heap} (X : K.In h) (G : h.Ns mainGlobals mg) (c : He.SaysD fas fns K) (hex : exb K = true) : Wd K mg where
  bl := ⟨He.free_ok X G (c.fact 0 rfl), He.free_ok X G (c.fact 1 rfl), He.free_ok X G (c.fact 2 rfl), He.free_ok X G (c.fact 3 rfl), He.free_ok X G (c.fact 4 rfl), He.free_ok X G (c.fact 5 rfl), He.free_ok X G (c.fact 6 rfl), He.free_ok X G (c.fact 7 rfl), He.free_ok X G (c.fact 8 rfl), He.free_ok X G (c.fact 9 rfl), He.free_ok X G (c.fact 10 rfl), He.free_ok X G (c.fact 11 rfl), He.free_ok X G (c.fact 12 rfl), He.free_ok X G (c.fact 13 rfl), He.free_ok X G (c.fact 14 rfl), He.free_ok X G (c.fact 15 rfl), He.free_ok X G (c.fact 16 rfl), He.free_ok X G (c.fact 17 rfl), He.free_ok X G (c.fact 18 rfl), He.free_ok X G (c.fact 19 rfl), He.free_ok X G (c.fact 20 rfl)⟩
  c_GREATEST := He.int_ok X G (c.fact 21 rfl)
  g_Field := He.glo_ok X G (c.fact 22 rfl)
  cl_Field := He.cls_ok (c.fact 23 rfl)
  mk_Field := He.mkr_ok (c.fact 24 rfl)
  na_Field_prime := He.noat_ok (c.fact 25 rfl)
  g_PostError := He.glo_ok X G (c.fact 26 rfl)
  x_PostError := ⟨He.glo_ok X G (c.fact 26 rfl), (He.exc_ok (c.fact 27 rfl)).1, (He.exc_ok (c.fact 27 rfl)).2.1, (He.exc_ok (c.fact 27 rfl)).2.2.1, (He.exc_ok (c.fact 27 rfl)).2.2.2⟩
  g_NoPrime := He.glo_ok X G (c.fact 28 rfl)
  x_NoPrime := ⟨He.glo_ok X G (c.fact 28 rfl), (He.exc_ok (c.fact 29 rfl)).1, (He.exc_ok (c.fact 29 rfl)).2.1, (He.exc_ok (c.fact 29 rfl)).2.2.1, (He.exc_ok (c.fact 29 rfl)).2.2.2⟩
  g_NoBack := He.glo_ok X G (c.fact 30 rfl)
  x_NoBack := ⟨He.glo_ok X G (c.fact 30 rfl), (He.exc_ok (c.fact 31 rfl)).1, (He.exc_ok (c.fact 31 rfl)).2.1, (He.exc_ok (c.fact 31 rfl)).2.2.1, (He.exc_ok (c.fact 31 rfl)).2.2.2⟩
  g_NoName := He.glo_ok X G (c.fact 32 rfl)
  x_NoName := ⟨He.glo_ok X G (c.fact 32 rfl), (He.exc_ok (c.fact 33 rfl)).1, (He.exc_ok (c.fact 33 rfl)).2.1, (He.exc_ok (c.fact 33 rfl)).2.2.1, (He.exc_ok (c.fact 33 rfl)).2.2.2⟩
  g_NoNumber := He.glo_ok X G (c.fact 34 rfl)
  x_NoNumber := ⟨He.glo_ok X G (c.fact 34 rfl), (He.exc_ok (c.fact 35 rfl)).1, (He.exc_ok (c.fact 35 rfl)).2.1, (He.exc_ok (c.fact 35 rfl)).2.2.1, (He.exc_ok (c.fact 35 rfl)).2.2.2⟩
  exm_NoPrime_NoPrime := He.exm_ok (c.fact 36 rfl)
  e_NoPrime := excB_ok (exb_0 hex)
  kt_post := of_decide_eq_true (exb_1 hex)
  kt_ve := of_decide_eq_true (exb_2 hex)
  kt_oth := of_decide_eq_true (exb_3 hex)
  g_is_prime := He.glo_ok X G (c.fact 37 rfl)
  g__law_cell_at := He.glo_ok X G (c.fact 38 rfl)
  g__law_mixed := He.glo_ok X G (c.fact 39 rfl)
  g__law_number := He.glo_ok X G (c.fact 40 rfl)
  g__law_due := He.glo_ok X G (c.fact 41 rfl)
  g__law_field := He.glo_ok X G (c.fact 42 rfl)
  g__law_right := He.glo_ok X G (c.fact 43 rfl)
theorem facts {h : Heap} {f : Addr} (X : K.In h) (G : h.Ns mainGlobals mg) (hfa : mg ("law" : Str) = some (.ref f)) (c : He.SaysD fas fns K) (hex : exb K = true) :
    ∃ fd : FuncData, (∀ (s : Shared) (v : Value), BindsTo s fd ⟨[v], []⟩ [("_law_script", v)]) ∧ ∀ base : Heap, K.In base → base.Ns mainGlobals mg → FnOk P w K mg base (L2.CX P w) 6 f fd ["_law_script"] (sp_law K) := by
  have T : Wd K mg := wd_of X G c hex
  obtain ⟨fd_is_prime, F_is_prime⟩ := c.def_ 0 (d := d_is_prime) rfl
  obtain ⟨fd_Field__init_, F_Field__init_⟩ := c.def_ 1 (d := d_Field__init_) rfl
  obtain ⟨fd__law_cell_at, F__law_cell_at⟩ := c.def_ 2 (d := d__law_cell_at) rfl
  obtain ⟨fd__law_mixed, F__law_mixed⟩ := c.def_ 3 (d := d__law_mixed) rfl
  obtain ⟨fd__law_number, F__law_number⟩ := c.def_ 4 (d := d__law_number) rfl
  obtain ⟨fd__law_due, F__law_due⟩ := c.def_ 5 (d := d__law_due) rfl
  obtain ⟨fd__law_field, F__law_field⟩ := c.def_ 6 (d := d__law_field) rfl
  obtain ⟨fd__law_right, F__law_right⟩ := c.def_ 7 (d := d__law_right) rfl
  obtain ⟨fd_law, F_law⟩ := c.def_ 8 (d := d_law) rfl
  have e := hfa.symm.trans (He.glo_ok X G (x := "law") (c.fact 44 rfl))
  cases e
  have b := FunD.bindsA (ps := ["_law_script"]) F_law fun _ _ _ _ _ _ us hl => match us, hl with | [_], _ => rfl
  refine ⟨fd_law, fun s v => b s [v] rfl, fun base hKb hGb => ?_⟩
  have o_is_prime := ok_is_prime (P := P) (w := w) (base := base) T  F_is_prime
  have g_is_prime : Gf P w K mg base "is_prime" 1 [] (sp_is_prime) := ⟨_, _, _, [], [], o_is_prime, T.g_is_prime, F_is_prime.kp, (FunD.bindsN (ps := ["number"]) F_is_prime fun _ _ _ _ _ _ us hl => match us, hl with | [_], _ => rfl), .nil, fun _ => rfl⟩
  have o_Field__init_ := ok_Field__init_ (P := P) (w := w) (base := base) T g_is_prime F_Field__init_
  have g_Field : Gc P w K mg base "Field" 2 [] (sp_make_Field K) := ⟨He.ga K "Field", _, _, _, [], [], _, o_Field__init_, T.mk_Field, T.g_Field, (FunD.bindsN (ps := ["self", "prime"]) F_Field__init_ fun _ _ _ _ _ _ us hl => match us, hl with | [_, _], _ => rfl), .nil, fun _ => rfl, spInit_make⟩
  have o__law_cell_at := ok__law_cell_at (P := P) (w := w) (base := base) T  F__law_cell_at
  have g__law_cell_at : Gf P w K mg base "_law_cell_at" 1 [] (sp__law_cell_at K) := ⟨_, _, _, [], [], o__law_cell_at, T.g__law_cell_at, F__law_cell_at.kp, (FunD.bindsN (ps := ["_law_script", "_law_k"]) F__law_cell_at fun _ _ _ _ _ _ us hl => match us, hl with | [_, _], _ => rfl), .nil, fun _ => rfl⟩
  have o__law_mixed := ok__law_mixed (P := P) (w := w) (base := base) T  F__law_mixed
  have g__law_mixed : Gf P w K mg base "_law_mixed" 1 [] (sp__law_mixed) := ⟨_, _, _, [], [], o__law_mixed, T.g__law_mixed, F__law_mixed.kp, (FunD.bindsN (ps := ["_law_cell", "_law_k"]) F__law_mixed fun _ _ _ _ _ _ us hl => match us, hl with | [_, _], _ => rfl), .nil, fun _ => rfl⟩
  have o__law_number := ok__law_number (P := P) (w := w) (base := base) T g__law_mixed F__law_number
  have g__law_number : Gf P w K mg base "_law_number" 2 [] (sp__law_number) := ⟨_, _, _, [], [], o__law_number, T.g__law_number, F__law_number.kp, (FunD.bindsN (ps := ["_law_cell"]) F__law_number fun _ _ _ _ _ _ us hl => match us, hl with | [_], _ => rfl), .nil, fun _ => rfl⟩
  have o__law_due := ok__law_due (P := P) (w := w) (base := base) T  F__law_due
  have g__law_due : Gf P w K mg base "_law_due" 1 [] (sp__law_due) := ⟨_, _, _, [], [], o__law_due, T.g__law_due, F__law_due.kp, (FunD.bindsN (ps := ["_law_number_here"]) F__law_due fun _ _ _ _ _ _ us hl => match us, hl with | [_], _ => rfl), .nil, fun _ => rfl⟩
  have o__law_field := ok__law_field (P := P) (w := w) (base := base) T g_Field F__law_field
  have g__law_field : Gf P w K mg base "_law_field" 4 [] (sp__law_field) := ⟨_, _, _, [], [], o__law_field, T.g__law_field, F__law_field.kp, (FunD.bindsN (ps := ["_law_number_here"]) F__law_field fun _ _ _ _ _ _ us hl => match us, hl with | [_], _ => rfl), .nil, fun _ => rfl⟩
  have o__law_right := ok__law_right (P := P) (w := w) (base := base) T g_is_prime g__law_due g__law_field F__law_right
  have g__law_right : Gf P w K mg base "_law_right" 5 [] (sp__law_right) := ⟨_, _, _, [], [], o__law_right, T.g__law_right, F__law_right.kp, (FunD.bindsN (ps := ["_law_number_here"]) F__law_right fun _ _ _ _ _ _ us hl => match us, hl with | [_], _ => rfl), .nil, fun _ => rfl⟩
  have o_law := ok_law (P := P) (w := w) (base := base) T g__law_right g__law_number g__law_field g__law_cell_at F_law
  exact o_law
end
abbrev R : PySem.W.OpenRow := PySem.W.OpenLaw.row PySem.Challenge.rw_mixposts_k01_primes_known
abbrev hk : PySem.W.Hook := He.hookX 4 fas fns [] [] exb
def ob (s : PySem.W.SharedT) : He.AlX := He.obsX 4 fas fns [] [] exb (HandSHeadRun.getT s)
theorem ob_eq (s : PySem.W.SharedT) : ob s = hk.obs s.abs := He.obsX_eq (HandSHeadRun.getT_eq s)
def names : List PySem.Str := (["_wall", "PostError", "NoPrime", "NoBack", "NoName", "NoNumber", "GREATEST", "is_prime", "Field", "_law_cell_at", "_law_mixed", "_law_number", "_law_due", "_law_field", "_law_right"] : List PySem.Str)
theorem run (w : World) : HandSHeadRun.RunEq R (PySem.W.view R.prog [18]) hk ob 4000 names w := by
  intro os
  kernel_rfl
end K01
open PySem PySem.W PySem.Calls PyProof.Rows
theorem PySem.Challenge.cw_mixposts_k01_primes_known_holds : PySem.Challenge.rw_mixposts_k01_primes_known.Holds := by
  w_on; o_law
  refine HandSHeadRun.head_any (r := OpenLaw.row PySem.Challenge.rw_mixposts_k01_primes_known) (q := view (OpenLaw.row PySem.Challenge.rw_mixposts_k01_primes_known).prog [18]) (H := K01.hk) (ob := K01.ob) (M := 4000) (loose := K01.names) (d := HandSHeadRun.topDef (OpenLaw.row PySem.Challenge.rw_mixposts_k01_primes_known).prog 18) (kwd := []) K01.ob_eq
    (by kernel_rfl) (fun s => by kernel_rfl) K01.run (by kernel_rfl) (by kernel_rfl) (by kernel_rfl) (by rfl) (by first | assumption | decide +kernel) (by decide +kernel) ⟨rfl, rfl, rfl, rfl, rfl, by decide +kernel⟩ ?hw ?hc
  case hw => w_witness2
  case hc =>
    refine Q.walk_ofW (l := PySem.Challenge.rw_mixposts_k01_primes_known) (n := 63) (k := 6) (x := "_law_script") (CX := fun w => L2.CX (PySem.Challenge.rw_mixposts_k01_primes_known).prog w) rfl (by decide) (by kernel_rfl) ⟨rfl, by decide, by decide⟩ ?F (fun w H s e s' z => by obtain ⟨_, _, _, _, _, _, _, _, _, _, _, _, z⟩ := z; exact z.elim)
    intro w mg fa h Y G hmg0
    obtain ⟨K, KX, c⟩ := Y
    have hmg : mg ("law" : PySem.Str) = some (.ref fa) := by
      have e : (HandSHeadRun.topDef (OpenLaw.row PySem.Challenge.rw_mixposts_k01_primes_known).prog 18).name = ("law" : PySem.Str) := by kernel_rfl
      rw [← e]
      exact hmg0
    obtain ⟨fd, hb, hF⟩ := K01.facts (P := (PySem.Challenge.rw_mixposts_k01_primes_known).prog) (w := w) KX G hmg c.t.d c.more
    exact ⟨K, fd, Q.spLaw K, KX, hb, fun H a ns hl _ hS => ⟨a, ns, rfl, hS, hl, fun _ => rfl⟩, hF⟩
