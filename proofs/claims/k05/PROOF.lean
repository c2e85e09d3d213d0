import PyProof.Rows.All
import Wide.All
import OpenK.AllK
import Wide.FinOn
import HandS.ForMost
import HandS.Exc
import HandS.TryOnly
import HandS.ExcOwn
import HandS.Lambda
import HandS.Nested
import HandS.CallSlots
import HandS.Flow
import HandS.IsInst
import HandS.TupAny
import HandS.WordsDict
import HandS.More
import HandS.Zip
import HandS.Comp
import HandS.Iter
import KE.GoesMore
import KE.GoesZip
import HandS.ExcField
import HandS.HeadHook4
import PyProof.EqAt
import PyProof.EqKinds
import PyProof.TupleCall
import Open.SpecLaws
import KE.OsGo
import HandS.ForSpec
import HandS.TryMany
import HandS.ListItems
import HandS.HeadWalk
import HandS.Wide
import HandS.Words
import PySem.Challenge.RW_carriednames_k05_texts_refused
import Lean
import KE.KStateDown
import HandS.Head0
import HandS.Head1
import HandS.Head2
import HandS.HeadEnd
import HandS.HeadHook1
import HandS.HeadHook2
set_option Elab.async false
set_option linter.all false
set_option maxRecDepth 100000
section
namespace Sh
/-! ### abstract values, store, outcomes -/
/-- a value, tuples as pure data; ref: an object of the store; fn, cl: a def, a class of the text by number; clo: a lambda by number with its cells -/
inductive AV where
  | non | bl (b : Bool) | int (i : Int) | str (s : List Nat)
  | tup (xs : List AV)
  | ref (i : Nat)
  | fn (i : Nat)
  | cl (i : Nat)
  | clo (c : Nat) (ks : List Nat)
  | ty (n : Nat)
  deriving Inhabited

inductive AO where
  | lst (xs : List AV)
  | dct (kvs : List (AV × AV))
  | ins (c : Nat) (fs : List (Nat × AV))
  | cell (v : Option AV)
  | strm (c : Nat)
  deriving Inhabited

/-- digits of a place, the lowest first -/
def bits : Nat → Nat → List Bool
  | 0, _ => []
  | f + 1, i => match Nat.beq i 0 with
    | true => []
    | false => Nat.beq (i % 2) 1 :: bits f (i / 2)
theorem beq_dec (a b : Nat) : Nat.beq a b = decide (a = b) := by
  by_cases h : a = b
  · subst h;
        simp [Nat.beq_refl]
  · rw [decide_eq_false h]
    cases q : Nat.beq a b with
    | false => rfl
    | true =>
        exact absurd (Nat.eq_of_beq_eq_true q) h
theorem bits_inj : ∀ (f i j : Nat), i < 2 ^ f → j < 2 ^ f → bits f i = bits f j → i = j
  | 0, i, j, hi, hj, _ => by simp at hi hj; omega
  | f + 1, i, j, hi, hj, h => by
    have hi2 : i / 2 < 2 ^ f := by rw [Nat.pow_succ] at hi; omega
    have hj2 : j / 2 < 2 ^ f := by rw [Nat.pow_succ] at hj; omega
    unfold bits at h
    simp only [beq_dec] at h
    by_cases h0 : i = 0
    · by_cases h1 : j = 0
      · omega
      · simp [h0, h1] at h
    · by_cases h1 : j = 0
      · simp [h0, h1] at h
      · simp only [h0, h1, decide_false, List.cons.injEq] at h
        have e := bits_inj f _ _ hi2 hj2 h.2
        have p := h.1
        by_cases pi : i % 2 = 1
        · by_cases pj : j % 2 = 1
          · omega
          · simp [pi, pj] at p
        · by_cases pj : j % 2 = 1
          · simp [pi, pj] at p
          · omega
inductive Tr where
  | e
  | n (o : Option AO) (l r : Tr)
  deriving Inhabited
namespace Tr
def get : List Bool → Tr → Option AO
  | _, .e => none
  | [], .n o _ _ => o
  | true :: p, .n _ l _ => get p l
  | false :: p, .n _ _ r => get p r
def put (o : AO) : List Bool → Tr → Tr
  | [], .e => .n (some o) .e .e
  | [], .n _ l r => .n (some o) l r
  | true :: p, .e => .n none (put o p .e) .e
  | false :: p, .e => .n none .e (put o p .e)
  | true :: p, .n v l r => .n v (put o p l) r
  | false :: p, .n v l r => .n v l (put o p r)
theorem get_e (p : List Bool) : get p .e = none := by cases p <;> rfl
theorem get_put (o : AO) : ∀ (p q : List Bool) (t : Tr), get q (put o p t) = if q = p then some o else get q t
  | [], [], .e => rfl
  | [], [], .n _ _ _ => rfl
  | [], b :: q, .e => by cases b <;> simp [put, get, get_e]
  | [], b :: q, .n _ _ _ => by cases b <;> simp [put, get]
  | b :: p, [], .e => by cases b <;> simp [put, get]
  | b :: p, [], .n _ _ _ => by cases b <;> simp [put, get]
  | b :: p, c :: q, .e => by
    cases b <;> cases c <;> simp [put, get, get_e, get_put o p q]
  | b :: p, c :: q, .n v l r => by
    cases b <;> cases c <;> simp [put, get, get_put o p q]
end Tr
def depth : Nat := 40
structure Sto where
  n : Nat
  t : Tr
  deriving Inhabited
namespace Sto
def get (S : Sto) (i : Nat) : Option AO := S.t.get (bits depth i)
def put (S : Sto) (i : Nat) (o : AO) : Sto := ⟨S.n, S.t.put o (bits depth i)⟩
def new (S : Sto) (o : AO) : Sto := ⟨S.n + 1, S.t.put o (bits depth S.n)⟩
def ok (S : Sto) : Bool := Nat.blt S.n 1000000000
theorem get_put {S : Sto} {i j : Nat} {o : AO} (hi : i < 2 ^ depth) (hj : j < 2 ^ depth) : (S.put i o).get j = if j = i then some o else S.get j := by
  unfold get put
  rw [Tr.get_put]
  by_cases e : j = i
  · subst e; simp
  · have : bits depth j ≠ bits depth i := fun h => e (bits_inj depth j i hj hi h)
    simp [e, this]
theorem get_new {S : Sto} {j : Nat} {o : AO} (hi : S.n < 2 ^ depth) (hj : j < 2 ^ depth) : (S.new o).get j = if j = S.n then some o else S.get j := by
  unfold get new
  rw [Tr.get_put]
  by_cases e : j = S.n
  · subst e; simp
  · have : bits depth j ≠ bits depth S.n := fun h => e (bits_inj depth j S.n hj hi h)
    simp [e, this]
end Sto
/-- a local name: nothing yet, a value, a cell of the store -/
inductive LV where
  | u | v (a : AV) | c (k : Nat)
  deriving Inhabited
abbrev Lo := List LV
/-- an exception: its class, its fields -/
structure AE where
  c : Nat
  fs : List (Nat × AV)
  deriving Inhabited
inductive Out (α : Type) where
  | ok (a : α) (S : Sto)
  | ex (e : AE) (L : Lo) (S : Sto)
  | bad
  | dr (n : Nat) (k : Int → Out α)
namespace Out
def bind {α β : Type} : Out α → (α → Sto → Out β) → Out β
  | .ok a S, f => f a S
  | .ex e L S, _ => .ex e L S
  | .bad, _ => .bad
  | .dr n k, f => .dr n fun i => (k i).bind f
/-- what holds at every leaf -/
def Sat {α : Type} : Out α → (α → Sto → Prop) → (AE → Lo → Sto → Prop) → Prop
  | .ok a S, P, _ => P a S
  | .ex e L S, _, E => E e L S
  | .bad, _, _ => False
  | .dr n k, P, E => ∀ i : Int, 0 ≤ i → i < n → (k i).Sat P E
theorem sat_bind {α β : Type} {f : α → Sto → Out β} {P : β → Sto → Prop} {E : AE → Lo → Sto → Prop} : ∀ {m : Out α}, (m.bind f).Sat P E ↔ m.Sat (fun a S => (f a S).Sat P E) E
  | .ok _ _ => Iff.rfl
  | .ex _ _ _ => Iff.rfl
  | .bad => Iff.rfl
  | .dr n k => ⟨fun h i h0 h1 => sat_bind.mp (h i h0 h1), fun h i h0 h1 => sat_bind.mpr (h i h0 h1)⟩
theorem sat_mono {α : Type} {P P' : α → Sto → Prop} {E E' : AE → Lo → Sto → Prop} (hP : ∀ a S, P a S → P' a S) (hE : ∀ e L S, E e L S → E' e L S) : ∀ {m : Out α}, m.Sat P E → m.Sat P' E'
  | .ok _ _, h => hP _ _ h
  | .ex _ _ _, h => hE _ _ _ h
  | .bad, h => h
  | .dr _ _, h => fun i h0 h1 => sat_mono hP hE (h i h0 h1)
/-- every leaf is True -/
def allTrue : Out AV → Bool
  | .ok (.bl true) _ => true
  | .dr n k => (List.range n).all fun i => (k i).allTrue
  | _ => false
theorem allTrue_sat : ∀ {m : Out AV}, m.allTrue = true → m.Sat (fun v _ => v = .bl true) (fun _ _ _ => False)
  | .ok v S, h => by
    cases v with
    | bl b => cases b with
      | true => rfl
      | false => cases h
    | _ => cases h
  | .ex _ _ _, h => by cases h
  | .bad, h => by cases h
  | .dr n k, h => fun i h0 h1 => by
    have h' : ((List.range n).all fun i => (k i).allTrue) = true := h
    rw [List.all_eq_true] at h'
    obtain ⟨m, rfl⟩ :=
        Int.eq_ofNat_of_zero_le h0
    exact allTrue_sat (h' m (List.mem_range.mpr (by omega)))
end Out
inductive Fl where
  | nx | br | ct | rt (v : AV)
abbrev EM := Lo → Sto → Out AV
abbrev AM := Lo → Sto → Out (List AV)
abbrev SM := Lo → Sto → Out (Fl × Lo)
abbrev FT := Nat → List AV → Sto → Out AV
end Sh

end

section
namespace Sh
open PySem PySem.Spec PyProof.Rows L2
/-- a lambda of the text: its qualified name, parameters, body, scope, the names that it captures -/
structure LamD where
  q : Str
  params : Arguments
  body : Expr
  scope : Scope
  fr : List Str
/-- what stands behind the numbers -/
structure Gd where
  K : PySem.W.Frag
  fa : Nat → Addr
  ca : Nat → Addr
  nm : Nat → Str
  lam : Nat → LamD
  T : List (Addr × Str)
def toS (s : List Nat) : Str := ⟨s.toArray⟩
/-- the built-in classes by number -/
def tyN : Nat → String
  | 0 => "NoneType" | 1 => "bool" | 2 => "int" | 3 => "str" | 4 => "list" | 5 => "tuple" | 6 => "dict" | 7 => "ValueError" | _ => "object"
def LamO (f : Addr) (D : LamD) (cl : List (Str × Addr)) (c : Addr) : HO := .ext fun h => ∃ pm ctv, h.get? f = some (PySem.W.kla_obj "<lambda>" D.q D.params D.body D.scope cl pm c ctv)
section
variable (G : Gd) (ρ : List Addr) (H : Hp)
/-- a lambda's object -/
def RClo (c : Nat) (ks : List Nat) (v : V) : Prop :=
  ∃ (f c' : Addr) (cl : List (Str × Addr)), v = .ref f ∧ H f = some (LamO f (G.lam c) cl c') ∧ H c' = some (LamX.CodeO c' (G.lam c).q) ∧ cl.length = ks.length ∧
    cl.map (·.1) = (G.lam c).fr ∧ ∀ (i : Nat) (k : Nat), ks[i]? = some k → ∃ x a, cl[i]? = some (x, a) ∧ ρ[k]? = some a
mutual
def RV : AV → V → Prop
  | .non, v => v = .non
  | .bl b, v => v = .bl b
  | .int i, v => v = .int i
  | .str s, v => v = .str (toS s)
  | .tup xs, v => ∃ a vs, v = .ref a ∧ SqT G.K H a vs ∧ RVs xs vs
  | .ref i, v => ∃ a, ρ[i]? = some a ∧ v = .ref a
  | .fn i, v => v = .ref (G.fa i)
  | .cl i, v => v = .ref (G.ca i)
  | .clo c ks, v => RClo G ρ H c ks v
  | .ty n, v => v = .ty (tyN n)
def RVs : List AV → List V → Prop
  | [], vs => vs = []
  | x :: xs, vs => ∃ v ws, vs = v :: ws ∧ RV x v ∧ RVs xs ws
end
end
/-- what never changes -/
def Imm : HO → Prop
  | .tup _ => True
  | .frz _ _ => True
  | .ext _ => True
  | _ => False
/-- the later state -/
structure Ext (ρ : List Addr) (H : Hp) (ρ' : List Addr) (H' : Hp) : Prop where
  pre : ∃ more, ρ' = ρ ++ more
  imm : ∀ a o, H a = some o → Imm o → H' a = some o
theorem Ext.refl (ρ : List Addr) (H : Hp) : Ext ρ H ρ H := ⟨⟨[], by simp⟩, fun _ _ h _ => h⟩
theorem Ext.trans {ρ ρ1 ρ2 : List Addr} {H H1 H2 : Hp} (x : Ext ρ H ρ1 H1) (y : Ext ρ1 H1 ρ2 H2) : Ext ρ H ρ2 H2 := by
  obtain ⟨m, hm⟩ := x.pre
  obtain ⟨m', hm'⟩ := y.pre
  exact ⟨⟨m ++ m', by rw [hm', hm, List.append_assoc]⟩, fun a o h i => y.imm a o (x.imm a o h i) i⟩
theorem Ext.at {ρ ρ' : List Addr} {H H' : Hp} (x : Ext ρ H ρ' H') {i : Nat} {a : Addr} (h : ρ[i]? = some a) : ρ'[i]? = some a := by
  obtain ⟨m, hm⟩ := x.pre
  rw [hm, List.getElem?_append_left (List.getElem?_eq_some_iff.mp h).1]
  exact h
theorem Ext.sqT {ρ ρ' : List Addr} {H H' : Hp} (x : Ext ρ H ρ' H') {K : PySem.W.Frag} {a : Addr} {vs : List V} (h : SqT K H a vs) : SqT K H' a vs := by
  rcases h with (h | ⟨o,
      h⟩) | h
  · exact .inl (.inl (x.imm _ _ h trivial))
  · exact .inl (.inr ⟨o, x.imm _ _ h trivial⟩)
  · exact .inr h
section
variable {G : Gd} {ρ ρ' : List Addr} {H H' : Hp}
theorem RClo.mono (x : Ext ρ H ρ' H') {c : Nat} {ks : List Nat} {v : V} (h : RClo G ρ H c ks v) : RClo G ρ' H' c ks v := by
  obtain ⟨f, c', cl, e, h1, h2, h3, h4, h5⟩ := h
  refine ⟨f, c', cl, e, x.imm _ _ h1 trivial, x.imm _ _ h2 trivial, h3, h4, fun i k hk => ?_⟩
  obtain ⟨y, a, e1, e2⟩ := h5 i k hk
  exact ⟨y, a, e1, x.at e2⟩
mutual
theorem RV.mono (x : Ext ρ H ρ' H') : ∀ (a : AV) {v : V}, RV G ρ H a v → RV G ρ' H' a v
  | .non, _, h => by unfold RV at h ⊢; exact h
  | .bl _, _, h => by unfold RV at h ⊢; exact h
  | .int _, _, h => by unfold RV at h ⊢; exact h
  | .str _, _, h => by unfold RV at h ⊢; exact h
  | .tup xs, _, h => by
    unfold RV at h ⊢
    obtain ⟨a, vs, e, s, r⟩ := h
    exact ⟨a, vs, e, x.sqT s, RVs.mono x xs r⟩
  | .ref _, _, h => by
    unfold RV at h ⊢
    obtain ⟨a, e, r⟩ := h
    exact ⟨a, x.at e, r⟩
  | .fn _, _, h => by unfold RV at h ⊢; exact h
  | .cl _, _, h => by unfold RV at h ⊢; exact h
  | .clo _ _, _, h => by unfold RV at h ⊢; exact h.mono x
  | .ty _, _, h => by unfold RV at h ⊢; exact h
theorem RVs.mono (x : Ext ρ H ρ' H') : ∀ (as : List AV) {vs : List V}, RVs G ρ H as vs → RVs G ρ' H' as vs
  | [], _, h => by unfold RVs at h ⊢; exact h
  | a :: as, _, h => by
    unfold RVs at h ⊢
    obtain ⟨v, ws, e, r, rs⟩ := h
    exact ⟨v, ws, e, RV.mono x a r, RVs.mono x as rs⟩
end
end

/-! ### objects -/
def keyOf : AV → Option Key
  | .int i => some (.inl i)
  | .str s => some (.inr (toS s))
  | _ => none
section
variable (G : Gd) (ρ : List Addr) (H : Hp)
def KR : List (AV × AV) → List (Key × V) → Prop
  | [], ps => ps = []
  | (k, v) :: r, ps => ∃ k' x qs, ps = (k', x) :: qs ∧ keyOf k = some k' ∧ RV G ρ H v x ∧ KR r qs
def KTR : List (AV × AV) → List (List Key × V) → Prop
  | [], ps => ps = []
  | (k, v) :: r, ps => ∃ ks k' x qs, ps = (k', x) :: qs ∧ k = .tup ks ∧ ks.mapM keyOf = some k' ∧ RV G ρ H v x ∧ KTR r qs
def FR : List (Nat × AV) → List (Str × V) → Prop
  | [], gs => gs = []
  | (n, v) :: r, gs => ∃ x hs, gs = (G.nm n, x) :: hs ∧ RV G ρ H v x ∧ FR r hs
/-- a drawn stream: the law's own list of four, its inner list -/
def Strm (a l : Addr) (c : Nat) : Prop := ∃ (d m : Int) (xs : List Int), H a = some (.lst [.ref l, .int d, .int (c : Int), .int m]) ∧ H l = some (.lst (xs.map V.int)) ∧ 0 ≤ d ∧ 0 ≤ m ∧ m < 2147483647
def OR (a : Addr) : AO → Prop
  | .lst xs => ∃ vs, H a = some (.lst vs) ∧ RVs G ρ H xs vs
  | .dct kvs => ∃ ps, H a = some (.dK ps) ∧ KR G ρ H kvs ps
  | .ins c fs => ∃ dx gs, H a = some (.ins (G.ca c) dx gs) ∧ FR G ρ H fs gs
  | .cell ov => False
  | .strm c => ∃ l, Strm H a l c ∧ ∀ i : Nat, ρ[i]? ≠ some l
end
def AO.isCell : AO → Bool
  | .cell _ => true
  | _ => false
def AO.isStrm : AO → Bool
  | .strm _ => true
  | _ => false
section
variable {G : Gd} {ρ ρ' : List Addr} {H H' : Hp}
theorem KR.mono (x : Ext ρ H ρ' H') : ∀ {kvs : List (AV × AV)} {ps : List (Key × V)}, KR G ρ H kvs ps → KR G ρ' H' kvs ps
  | [], _, h => h
  | (k, v) :: r, _, ⟨k', y, qs, e, hk, hv, hr⟩ => ⟨k', y, qs, e, hk, hv.mono x v, KR.mono x hr⟩
theorem KTR.mono (x : Ext ρ H ρ' H') : ∀ {kvs : List (AV × AV)} {ps : List (List Key × V)}, KTR G ρ H kvs ps → KTR G ρ' H' kvs ps
  | [], _, h => h
  | (k, v) :: r, _, ⟨ks, k', y, qs, e, hk, hm, hv, hr⟩ => ⟨ks, k', y, qs, e, hk, hm, hv.mono x v, KTR.mono x hr⟩
theorem FR.mono (x : Ext ρ H ρ' H') : ∀ {fs : List (Nat × AV)} {gs : List (Str × V)}, FR G ρ H fs gs → FR G ρ' H' fs gs
  | [], _, h => h
  | (n, v) :: r, _, ⟨y, hs, e, hv, hr⟩ => ⟨y, hs, e, hv.mono x v, FR.mono x hr⟩
/-- all but what stands at ch is as it was -/
def Keep (ch : Option Addr) (H H' : Hp) : Prop := ∀ b o, some b ≠ ch → H b = some o → H' b = some o
theorem OR.mono {ch : Option Addr} {a : Addr} {o : AO} (x : Ext ρ H ρ' H') (k : Keep ch H H') (h : OR G ρ H a o) (hc : o.isCell = false → some a ≠ ch)
    (hl : ∀ c l, o = .strm c → Strm H a l c → some l ≠ ch) (hn : ∀ i : Nat, ∀ b, ρ'[i]? = some b → ρ[i]? = some b ∨ H b = none) : OR G ρ' H' a o := by
  cases o with
  | lst xs =>
    obtain ⟨vs, h1, h2⟩ := h
    exact ⟨vs, k a _ (hc rfl) h1, h2.mono x xs⟩
  | dct kvs =>
    obtain ⟨ps, h1, h2⟩ := h
    exact ⟨ps, k a _ (hc rfl) h1, h2.mono x⟩
  | ins c fs =>
    obtain ⟨dx, gs, h1, h2⟩ := h
    exact ⟨dx, gs, k a _ (hc rfl) h1, h2.mono x⟩
  | cell ov => exact h.elim
  | strm c =>
    obtain ⟨l, s, hi⟩ := h
    have hl' := hl c l rfl s
    obtain ⟨d, m, xs, h1, h2, h3⟩ := s
    refine ⟨l, ⟨d, m, xs, k a _ (hc rfl) h1, k l _ hl' h2, h3⟩, fun i e => ?_⟩
    rcases hn i l e with q | q
    · exact hi i q
    · rw [h2] at q; cases q
end
/-- the whole store -/
structure Rel (G : Gd) (ρ : List Addr) (S : Sto) (H : Hp) : Prop where
  len : ρ.length = S.n
  lt : S.n ≤ 1000000000
  nd : ∀ (i j : Nat) (a : Addr) (o o' : AO), ρ[i]? = some a → ρ[j]? = some a → S.get i = some o → S.get j = some o' → o.isCell = o'.isCell → i = j
  obj : ∀ (i : Nat) (a : Addr) (o : AO), ρ[i]? = some a → S.get i = some o → OR G ρ H a o
  tabs : LamX.Tabs G.T H
  one : ∀ (i j : Nat) (a b : Addr) (c c' : Nat), ρ[i]? = some a → ρ[j]? = some b → S.get i = some (.strm c) → S.get j = some (.strm c') → i = j
theorem small40 {n : Nat} (h : n ≤ 1000000000) : n < 2 ^ depth := Nat.lt_of_le_of_lt h (by decide)
section
variable {G : Gd} {ρ : List Addr} {S : Sto} {H : Hp}
theorem Rel.ilt (R : Rel G ρ S H) {i : Nat} {a : Addr} (h : ρ[i]? = some a) : i < 2 ^ depth := by
  have := (List.getElem?_eq_some_iff.mp h).1
  rw [R.len] at this
  exact small40 (Nat.le_of_lt (Nat.lt_of_lt_of_le this R.lt))
theorem ext_new {p : Addr} {o : HO} (hp : H p = none) (more : List Addr) : Ext ρ H (ρ ++ more) (upd H p o) := ⟨⟨more, rfl⟩, fun a u h _ => by rw [upd_ne (ne_of_none h hp)]; exact h⟩
theorem keep_new {p : Addr} {o : HO} (hp : H p = none) : Keep none H (upd H p o) := fun b u _ h => by rw [upd_ne (ne_of_none h hp)]; exact h
theorem tabs_new {T : List (Addr × Str)} {p : Addr} {o : HO} (hp : H p = none) (h : LamX.Tabs T H) : LamX.Tabs T (upd H p o) := h.ext fun b u e => by rw [upd_ne (ne_of_none e hp)]; exact e
/-- something that the store does not hold is made -/
theorem Rel.side {p : Addr} {o : HO} (R : Rel G ρ S H) (hp : H p = none) : Rel G ρ S (upd H p o) ∧ Ext ρ H ρ (upd H p o) := by
  have x : Ext ρ H ρ (upd H p o) := by have := ext_new (ρ := ρ) (o := o) hp []; simpa using this
  exact ⟨⟨R.len, R.lt, R.nd, fun i a u e g => (R.obj i a u e g).mono x (keep_new hp) (fun _ z => by cases z) (fun _ _ _ _ z => by cases z) fun j b h => .inl h, tabs_new hp R.tabs, R.one⟩, x⟩
theorem get_app {α : Type} {l : List α} {p b : α} {i : Nat} (h : (l ++ [p])[i]? = some b) : l[i]? = some b ∨ (i = l.length ∧ b = p) := by
  by_cases hi : i < l.length
  · rw [List.getElem?_append_left hi] at h
    exact .inl h
  · rw [List.getElem?_append_right (by omega)] at h
    by_cases hj : i - l.length = 0
    · rw [hj] at h
      simp at h
      exact .inr ⟨by omega, h.symm⟩
    · obtain ⟨k, hk⟩ : ∃ k, i - l.length = k + 1 := ⟨i - l.length - 1, by omega⟩
      rw [hk] at h
      simp at h
/-- a new object -/
theorem Rel.new {p : Addr} {o : HO} {ao : AO} (R : Rel G ρ S H) (hs : S.ok = true) (hp : H p = none) (hc : ao.isCell = false) (ho : OR G (ρ ++ [p]) (upd H p o) p ao) (hns : ao.isStrm = false := by rfl) :
    Rel G (ρ ++ [p]) (S.new ao) (upd H p o) ∧ Ext ρ H (ρ ++ [p]) (upd H p o) := by
  have x : Ext ρ H (ρ ++ [p]) (upd H p o) := ext_new hp [p]
  have hlt : S.n < 1000000000 := Nat.le_of_ble_eq_true hs
  have gn : ∀ {j : Nat}, j ≤ S.n → (S.new ao).get j = if j = S.n then some ao else S.get j := fun {j} h => Sto.get_new (small40 R.lt) (small40 (Nat.le_trans h R.lt))
  have jle : ∀ {j : Nat} {b : Addr}, (ρ ++ [p])[j]? = some b → j ≤ S.n := fun {j b} h => by
    have := (List.getElem?_eq_some_iff.mp h).1
    rw [List.length_append, List.length_singleton, R.len] at this
    omega
  have old : ∀ {j : Nat} {b : Addr} {u : AO}, (ρ ++ [p])[j]? = some b → (S.new ao).get j = some u → (j = S.n ∧ b = p ∧ u = ao) ∨ (ρ[j]? = some b ∧ S.get j = some u ∧ j ≠ S.n) := fun {j b u} h g => by
    rw [gn (jle h)] at g
    rcases get_app h with q | ⟨q, e⟩
    · have hj := (List.getElem?_eq_some_iff.mp q).1
      rw [R.len] at hj
      rw [if_neg (by omega)] at g
      exact .inr ⟨q, g, by omega⟩
    · rw [R.len] at q
      rw [if_pos q] at g
      exact .inl ⟨q, e, (Option.some.inj g).symm⟩
  have hne : ∀ {j : Nat} {b : Addr} {u : AO}, ρ[j]? = some b → S.get j = some u → u.isCell = false → H b ≠ none := fun {j b u} h g hu => by
    have q := R.obj j b u h g
    cases u with
    | lst xs => obtain ⟨_, e, _⟩ := q; rw [e]; exact fun z => by cases z
    | dct kvs => obtain ⟨_, e, _⟩ := q; rw [e]; exact fun z => by cases z
    | ins c fs => obtain ⟨_, _, e, _⟩ := q; rw [e]; exact fun z => by cases z
    | cell v => cases hu
    | strm c => obtain ⟨_, ⟨_, _, _, e, _⟩, _⟩ := q; rw [e]; exact fun z => by cases z
  refine ⟨⟨?_, ?_, fun i j a u u' hi hj gi gj hc' => ?_, fun i a u hi gi => ?_, tabs_new hp R.tabs, fun i j a b c c' hi hj gi gj => ?_⟩, x⟩
  · rw [List.length_append, List.length_singleton, R.len]; rfl
  · show S.n + 1 ≤ _; omega
  · rcases old hi gi with ⟨e1, e2, e3⟩ | ⟨h1, g1, n1⟩ <;> rcases old hj gj with ⟨f1, f2, f3⟩ | ⟨h2, g2, n2⟩
    · rw [e1, f1]
    · exfalso
      rw [e3, hc] at hc'
      exact hne h2 g2 hc'.symm (by rw [e2]; exact hp)
    · exfalso
      rw [f3, hc] at hc'
      exact hne h1 g1 hc' (by rw [f2]; exact hp)
    · exact R.nd i j a u u' h1 h2 g1 g2 hc'
  · rcases old hi gi with ⟨_, e2, e3⟩ | ⟨h1, g1, _⟩
    · rw [e2, e3]; exact ho
    · refine (R.obj i a u h1 g1).mono x (keep_new hp) (fun _ z => by cases z) (fun _ _ _ _ z => by cases z) fun j b h => ?_
      rcases get_app h with q | ⟨_, e⟩
      · exact .inl q
      · rw [e]; exact .inr hp
  · rcases old hi gi with ⟨_, _, e3⟩ | ⟨h1, g1, _⟩
    · rw [← e3] at hns; cases hns
    · rcases old hj gj with ⟨_, _, e3⟩ | ⟨h2, g2, _⟩
      · rw [← e3] at hns; cases hns
      · exact R.one i j a b c c' h1 h2 g1 g2
/-- the object i is changed -/
theorem Rel.upd {i : Nat} {a : Addr} {o₀ o : HO} {ao₀ ao : AO} (R : Rel G ρ S H) (hi : ρ[i]? = some a) (hg : S.get i = some ao₀) (h0 : H a = some o₀) (hm : ¬ Imm o₀) (ht : ∀ ps, o₀ ≠ .tbl ps) (hc₀ : ao₀.isCell = false) (hc : ao.isCell = false)
    (ho : Ext ρ H ρ (upd H a o) → OR G ρ (upd H a o) a ao) (hns : ao.isStrm = false := by rfl) : Rel G ρ (S.put i ao) (L2.upd H a o) ∧ Ext ρ H ρ (L2.upd H a o) := by
  have x : Ext ρ H ρ (L2.upd H a o) := ⟨⟨[], by simp⟩, fun b u h im => by
    rw [upd_ne (fun z => by rw [z, h0] at h; exact hm (Option.some.inj h ▸ im))]; exact h⟩
  have k : Keep (some a) H (L2.upd H a o) := fun b u n h => by rw [upd_ne (fun z => n (by rw [z]))]; exact h
  have gp : ∀ {j : Nat} {b : Addr}, ρ[j]? = some b → (S.put i ao).get j = if j = i then some ao else S.get j := fun {j b} h => Sto.get_put (R.ilt hi) (R.ilt h)
  refine ⟨⟨R.len, R.lt, fun j j' b u u' hj hj' gj gj' hc' => ?_, fun j b u hj gj => ?_, fun p hp => ?_, fun j j' b b' c c' hj hj' gj gj' => ?_⟩, x⟩
  · have fix : ∀ {j : Nat} {u : AO}, ρ[j]? = some b → (S.put i ao).get j = some u → ∃ u0, S.get j = some u0 ∧ u0.isCell = u.isCell := fun {j u} h g => by
      rw [gp h] at g
      by_cases e : j = i
      · rw [if_pos e] at g
        cases g
        exact ⟨ao₀, by rw [e]; exact hg, by rw [hc₀, hc]⟩
      · rw [if_neg e] at g
        exact ⟨u, g, rfl⟩
    obtain ⟨w, g1, c1⟩ := fix hj gj
    obtain ⟨w', g2, c2⟩ := fix hj' gj'
    exact R.nd j j' b w w' hj hj' g1 g2 (by rw [c1, c2, hc'])
  · rw [gp hj] at gj
    by_cases e : j = i
    · rw [if_pos e] at gj
      cases gj
      rw [e, hi] at hj
      cases hj
      exact ho x
    · rw [if_neg e] at gj
      have q := R.obj j b u hj gj
      refine q.mono x k (fun cu z => ?_) (fun c l e' s z => ?_) fun _ _ h => .inl h
      · have ez : b = a := Option.some.inj z
        rw [ez] at hj
        exact e (R.nd j i a u ao₀ hj hi gj hg (by rw [cu, hc₀]))
      · have ez : l = a := Option.some.inj z
        subst e'
        obtain ⟨l', s', hn⟩ := q
        have el : l' = a := by
          rw [← ez]
          obtain ⟨_, _, _, e1, _⟩ := s
          obtain ⟨_, _, _, e2, _⟩ := s'
          rw [e1] at e2
          injection e2 with e2
          injection e2 with e2
          injection e2 with e2
          injection e2 with e2
          exact e2.symm
        exact hn i (by rw [el]; exact hi)
  · obtain ⟨ps, h1, h2, h3⟩ := R.tabs p hp
    refine ⟨ps, k _ _ (fun z => by
      cases z
      rw [h0] at h1
      exact ht ps (Option.some.inj h1)) h1, h2, fun pos cv hcv => ?_⟩
    obtain ⟨c, e1, e2⟩ := h3 pos cv hcv
    exact ⟨c, e1, x.imm _ _ e2 trivial⟩
  · have st : ∀ {j : Nat} {b : Addr} {c : Nat}, ρ[j]? = some b → (S.put i ao).get j = some (.strm c) → S.get j = some (.strm c) := fun {j b c} h g => by
      rw [gp h] at g
      by_cases e : j = i
      · rw [if_pos e] at g
        cases g
        cases hns
      · rw [if_neg e] at g
        exact g
    exact R.one j j' b b' c c' hj hj' (st hj gj) (st hj' gj')
end
end Sh

end

section
namespace Sh
open PySem PySem.Spec PyProof.Rows L2
/-- a frame: its names by slot, the addresses of its cells -/
structure Fm where
  N : List Str
  cells : List (Str × Addr)
def F0 : Fm := ⟨[], []⟩
def Fm.own (F : Fm) (a : Addr) : Prop := ∃ n, F.cells.lookup n = some a
structure FmOk (F : Fm) : Prop where
  nd : F.N.Nodup
  inj : ∀ x y c, F.cells.lookup x = some c → F.cells.lookup y = some c → x = y
def nth : Lo → Nat → LV
  | [], _ => .u
  | x :: _, 0 => x
  | _ :: r, i + 1 => nth r i
def setL : Lo → Nat → LV → Lo
  | [], _, _ => []
  | _ :: r, 0, y => y :: r
  | x :: r, i + 1, y => x :: setL r i y
theorem nth_setL : ∀ (l : Lo) (i j : Nat) (y : LV), nth (setL l i y) j = if j = i ∧ i < l.length then y else nth l j
  | [], i, j, y => by simp [setL, nth]
  | x :: r, 0, 0, y => by simp [setL, nth]
  | x :: r, 0, j + 1, y => by simp [setL, nth]
  | x :: r, i + 1, 0, y => by simp [setL, nth]
  | x :: r, i + 1, j + 1, y => by simp [setL, nth, nth_setL r i j y]
theorem setL_len : ∀ (l : Lo) (i : Nat) (y : LV), (setL l i y).length = l.length
  | [], _, _ => rfl
  | _ :: _, 0, _ => rfl
  | _ :: r, i + 1, y => by simp [setL, setL_len r i y]
theorem nth_lt : ∀ {l : Lo} {i : Nat}, nth l i ≠ .u → i < l.length
  | [], _, h => absurd rfl h
  | _ :: _, 0, _ => Nat.succ_pos _
  | _ :: r, i + 1, h => Nat.succ_lt_succ (nth_lt (l := r) h)
/-- a local name's worth -/
def RLV (G : Gd) (F : Fm) (ρ : List Addr) (S : Sto) (H : Hp) (σ : L2.St) (i : Nat) : LV → Prop
  | .u => True
  | .v a => ∃ x, σ[i]? = some (some x) ∧ RV G ρ H a x
  | .c k => False
structure Stt (G : Gd) (F : Fm) (ρ : List Addr) (S : Sto) (ls : Lo) (σ : L2.St) (H : Hp) : Prop where
  rel : Rel G ρ S H
  len : σ.length = ls.length
  loc : ∀ i, RLV G F ρ S H σ i (nth ls i)
  ok : FmOk F
section
variable {G : Gd} {F : Fm} {ρ ρ' : List Addr} {S S' : Sto} {ls : Lo} {σ : L2.St} {H H' : Hp}
/-- the store has grown or changed, no cell of this frame -/
theorem Stt.with (T : Stt G F ρ S ls σ H) (x : Ext ρ H ρ' H') (R : Rel G ρ' S' H') (hc : ∀ k w, ρ[k]?.isSome = true → S.get k = some (.cell w) → S'.get k = some (.cell w)) : Stt G F ρ' S' ls σ H' := by
  refine ⟨R, T.len, fun i => ?_, T.ok⟩
  have h := T.loc i
  cases e : nth ls i with
  | u => trivial
  | v a =>
    rw [e] at h
    obtain ⟨y, h1, h2⟩ := h
    exact ⟨y, h1, h2.mono x a⟩
  | c k => rw [e] at h; exact h.elim
theorem Stt.side (T : Stt G F ρ S ls σ H) {p : Addr} {o : HO} (hp : H p = none) : Stt G F ρ S ls σ (upd H p o) ∧ Ext ρ H ρ (upd H p o) := by
  obtain ⟨R, x⟩ := T.rel.side (o := o) hp
  exact ⟨T.with x R fun _ _ _ h => h, x⟩
theorem Stt.lt (T : Stt G F ρ S ls σ H) {k : Nat} (h : ρ[k]?.isSome = true) : k < S.n := by
  obtain ⟨a, e⟩ := Option.isSome_iff_exists.mp h
  have := (List.getElem?_eq_some_iff.mp e).1
  rw [T.rel.len] at this
  exact this
theorem Stt.new (T : Stt G F ρ S ls σ H) {p : Addr} {o : HO} {ao : AO} (hs : S.ok = true) (hp : H p = none) (hc : ao.isCell = false) (ho : OR G (ρ ++ [p]) (upd H p o) p ao) (hns : ao.isStrm = false := by rfl) :
    Stt G F (ρ ++ [p]) (S.new ao) ls σ (upd H p o) ∧ Ext ρ H (ρ ++ [p]) (upd H p o) := by
  obtain ⟨R, x⟩ := T.rel.new hs hp hc ho hns
  refine ⟨T.with x R fun k w hk h => ?_, x⟩
  have hk := T.lt hk
  rw [Sto.get_new (small40 T.rel.lt) (small40 (Nat.le_of_lt (Nat.lt_of_lt_of_le hk T.rel.lt))), if_neg (by omega)]
  exact h
theorem Stt.upd (T : Stt G F ρ S ls σ H) {i : Nat} {a : Addr} {o₀ o : HO} {ao₀ ao : AO} (hi : ρ[i]? = some a) (hg : S.get i = some ao₀) (h0 : H a = some o₀) (hm : ¬ Imm o₀) (ht : ∀ ps, o₀ ≠ .tbl ps) (hc₀ : ao₀.isCell = false) (hc : ao.isCell = false)
    (ho : Ext ρ H ρ (L2.upd H a o) → OR G ρ (L2.upd H a o) a ao) (hns : ao.isStrm = false := by rfl) : Stt G F ρ (S.put i ao) ls σ (L2.upd H a o) ∧ Ext ρ H ρ (L2.upd H a o) := by
  obtain ⟨R, x⟩ := T.rel.upd hi hg h0 hm ht hc₀ hc ho hns
  refine ⟨T.with x R fun k w hk h => ?_, x⟩
  have hk := T.lt hk
  rw [Sto.get_put (T.rel.ilt hi) (small40 (Nat.le_of_lt (Nat.lt_of_lt_of_le hk T.rel.lt)))]
  by_cases e : k = i
  · rw [e, hg] at h
    cases h
    cases hc₀
  · rw [if_neg e]
    exact h
/-- a local name is stored -/
theorem Stt.set (T : Stt G F ρ S ls σ H) {i : Nat} {a : AV} {x : V} (hi : i < ls.length) (hn : ∀ k, nth ls i ≠ .c k) (r : RV G ρ H a x) : Stt G F ρ S (setL ls i (.v a)) (σ.set i (some x)) H := by
  refine ⟨T.rel, by rw [List.length_set, setL_len]; exact T.len, fun j => ?_, T.ok⟩
  rw [nth_setL]
  by_cases e : j = i
  · subst e
    rw [if_pos ⟨rfl, hi⟩]
    exact ⟨x, by rw [List.getElem?_set_self (by rw [T.len]; exact hi)], r⟩
  · rw [if_neg (fun z => e z.1)]
    have h := T.loc j
    have es : (σ.set i (some x))[j]? = σ[j]? := List.getElem?_set_ne (Ne.symm e)
    cases q : nth ls j with
    | u => trivial
    | v b => rw [q] at h; unfold RLV at h ⊢; rw [es]; exact h
    | c k => rw [q] at h; unfold RLV at h ⊢; rw [es]; exact h
theorem F0_ok : FmOk F0 := ⟨List.nodup_nil, fun x y c h _ => by cases h⟩
end
/-! ### readings -/
def RE (G : Gd) (ρ : List Addr) (H : Hp) (e : AE) (cls : Value) (d : Option Addr) : Prop :=
  cls = .ref (G.ca e.c) ∧ match e.fs with
    | [] => d = none
    | fs => ∃ a gs, d = some a ∧ H a = some (.xd gs) ∧ FR G ρ H fs gs
section
variable (G : Gd) (F : Fm) (W : WX)
def PostX (ρ : List Addr) (H : Hp) : AE → Lo → Sto → Prop := fun e L S' => ∀ ρ' H' σ', Ext ρ H ρ' H' → Stt G F ρ' S' L σ' H' → ∀ cls d, RE G ρ' H' e cls d → W cls d σ' H'
def PostV (ρ : List Addr) (ls : Lo) (σ : L2.St) (H : Hp) (Q : VK) : AV → Sto → Prop := fun v S' => ∀ ρ' H', Ext ρ H ρ' H' → Stt G F ρ' S' ls σ H' → ∀ x, RV G ρ' H' v x → Q x H'
def PostA (ρ : List Addr) (ls : Lo) (σ : L2.St) (H : Hp) (Q : List V → Hp → Prop) : List AV → Sto → Prop := fun vs S' => ∀ ρ' H', Ext ρ H ρ' H' → Stt G F ρ' S' ls σ H' → ∀ xs, RVs G ρ' H' vs xs → Q xs H'
def PostB (ρ : List Addr) (ls : Lo) (σ : L2.St) (H : Hp) (Q : Bool → Hp → Prop) : Bool → Sto → Prop := fun b S' => ∀ ρ' H', Ext ρ H ρ' H' → Stt G F ρ' S' ls σ H' → Q b H'
def PostS (ρ : List Addr) (H : Hp) (D : Ends) : Fl × Lo → Sto → Prop := fun r S' => ∀ ρ' H' σ', Ext ρ H ρ' H' → Stt G F ρ' S' r.2 σ' H' → match r.1 with
  | .nx => D.nx σ' H'
  | .br => D.bk σ' H'
  | .ct => D.ct σ' H'
  | .rt v => ∀ x, RV G ρ' H' v x → D.rt x H'
def tE (m : EM) : TE := fun σ H Q => ∃ ρ S ls, Stt G F ρ S ls σ H ∧ (m ls S).Sat (PostV G F ρ ls σ H Q) (PostX G F W ρ H)
def tA (m : AM) : TA := fun σ H Q => ∃ ρ S ls, Stt G F ρ S ls σ H ∧ (m ls S).Sat (PostA G F ρ ls σ H Q) (PostX G F W ρ H)
def tT (m : Lo → Sto → Out Bool) : TT := fun σ H Q => ∃ ρ S ls, Stt G F ρ S ls σ H ∧ (m ls S).Sat (PostB G F ρ ls σ H Q) (PostX G F W ρ H)
def tS (m : SM) : TS := fun D σ H => ∃ ρ S ls, Stt G F ρ S ls σ H ∧ (m ls S).Sat (PostS G F ρ H D) (PostX G F W ρ H)
end
theorem PE_imp {X : Cx} {e : Expr} {t t' : TE} (h : PE X e t) (i : ∀ σ H Q, t' σ H Q → t σ H Q) : PE X e t' := ⟨fun pins s σ H Q I q => h.run pins s σ H Q I (i σ H Q q)⟩
theorem PT_imp {X : Cx} {e : Expr} {t t' : TT} (h : PT X e t) (i : ∀ σ H Q, t' σ H Q → t σ H Q) : PT X e t' := ⟨fun pins s σ H Q I q => h.run pins s σ H Q I (i σ H Q q)⟩
theorem PA_imp {X : Cx} {e : List Expr} {t t' : TA} (h : PA X e t) (i : ∀ σ H Q, t' σ H Q → t σ H Q) : PA X e t' := ⟨fun pos pins s σ H Q I q => h.run pos pins s σ H Q I (i σ H Q q)⟩
theorem PS_imp {X : Cx} {e : Stmt} {t t' : TS} (h : PS X e t) (i : ∀ D σ H, t' D σ H → t D σ H) : PS X e t' := ⟨fun pins s σ H D I q => h.run pins s σ H D I (i D σ H q)⟩
theorem PSs_imp {X : Cx} {e : List Stmt} {t t' : TS} (h : PSs X e t) (i : ∀ D σ H, t' D σ H → t D σ H) : PSs X e t' := ⟨fun pins s σ H D I q => h.run pins s σ H D I (i D σ H q)⟩
section
variable {G : Gd} {F : Fm} {W : WX} {ρ ρ' : List Addr} {H H' : Hp} {ls : Lo} {σ : L2.St}
theorem PostX.ext (x : Ext ρ H ρ' H') {e : AE} {L : Lo} {S : Sto} (h : PostX G F W ρ H e L S) : PostX G F W ρ' H' e L S := fun ρ2 H2 σ2 y => h ρ2 H2 σ2 (x.trans y)
theorem PostV.ext (x : Ext ρ H ρ' H') {Q : VK} {v : AV} {S : Sto} (h : PostV G F ρ ls σ H Q v S) : PostV G F ρ' ls σ H' Q v S := fun ρ2 H2 y => h ρ2 H2 (x.trans y)
/-- one expression, then the rest -/
theorem tE_seq {m : EM} {Q : VK} (f : AV → Sto → Prop) {ρ : List Addr} {S : Sto} (T : Stt G F ρ S ls σ H) (h : (m ls S).Sat f (PostX G F W ρ H))
    (k : ∀ v S' ρ' H' x, f v S' → Ext ρ H ρ' H' → Stt G F ρ' S' ls σ H' → RV G ρ' H' v x → Q x H') : tE G F W m σ H Q :=
  ⟨ρ, S, ls, T, Out.sat_mono (fun v S' q ρ' H' x T' y r => k v S' ρ' H' y q x T' r) (fun _ _ _ q => q) h⟩
end
end Sh

end

section
namespace Sh
open PySem PySem.Spec PyProof.Rows L2
abbrev fm (X : Cx) : Fm := F0
section
variable {X : Cx} {G : Gd} {W : WX} {a b c e : Expr} {es : List Expr} {ma mb mc : EM} {pos : Pos}
/-! ### names, constants -/
def mVar (i : Nat) : EM := fun ls S => match nth ls i with
  | .v a => .ok a S
  | .c k => match S.get k with
    | some (.cell (some v)) => .ok v S
    | _ => .bad
  | .u => .bad
theorem me_var (i : Nat) {x : Str} (hN : X.N[i]? = some x := by rfl) (hv : Vis X.env.scope x := by first | exact Or.inl rfl | exact Or.inr (Or.inl rfl) | exact Or.inr (Or.inr rfl)) (hd : (x == ("__debug__" : Str)) = false := by decide)
    (hcd : (x == ("__classdict__" : Str)) = false := by decide) : PE X (.Name x pos) (tE G (fm X) W (mVar i)) := by
  refine PE_imp (pe_var hN hv hd hcd) fun σ H Q ⟨ρ, S, ls, T, h⟩ => ?_
  have l := T.loc i
  unfold mVar at h
  cases q : nth ls i with
  | u => rw [q] at h; exact h.elim
  | v a =>
    rw [q] at h l
    obtain ⟨x, h1, r⟩ := l
    exact ⟨x, h1, h ρ H (Ext.refl _ _) T x r⟩
  | c k => rw [q] at l; exact l.elim
def mC (a : AV) : EM := fun _ S => .ok a S
theorem tC_of {F : Fm} {a : AV} {v : V} (r : ∀ ρ H, RV G ρ H a v) {σ : L2.St} {H : Hp} {Q : VK} (h : tE G F W (mC a) σ H Q) : tC v σ H Q := by
  obtain ⟨ρ, S, ls, T, h⟩ := h
  exact h ρ H (Ext.refl _ _) T v (r ρ H)
theorem me_int {i : Int} {j} : PE X (.Constant (.int i) j pos) (tE G (fm X) W (mC (.int i))) := PE_imp pe_int fun _ _ _ h => tC_of (fun _ _ => by unfold RV; rfl) h
theorem me_bl {b : Bool} {j} : PE X (.Constant (.bool b) j pos) (tE G (fm X) W (mC (.bl b))) := PE_imp pe_bl fun _ _ _ h => tC_of (fun _ _ => by unfold RV; rfl) h
theorem me_non {j} : PE X (.Constant .none j pos) (tE G (fm X) W (mC .non)) := PE_imp pe_non fun _ _ _ h => tC_of (fun _ _ => by unfold RV; rfl) h
theorem me_str {x : Str} {j} (s : List Nat) (hx : x = toS s := by rfl) : PE X (.Constant (.str x) j pos) (tE G (fm X) W (mC (.str s))) := PE_imp pe_str fun _ _ _ h => tC_of (fun _ _ => by unfold RV; rw [hx]) h
/-- a def, a class, a constant of the text -/
theorem me_glob {x : Str} {av : AV} {v : V} {u : Value} (hg : Gl X x) (hm : X.mg x = some u) (r : RelV v u) (rv : ∀ ρ H, RV G ρ H av v) (hd : (x == ("__debug__" : Str)) = false := by decide) : PE X (.Name x pos) (tE G (fm X) W (mC av)) :=
  PE_imp (pe_glob hg hm r hd) fun _ _ _ h => tC_of rv h
/-! ### argument lists, displays -/
def mNil : AM := fun _ S => .ok [] S
def mCons (e : EM) (r : AM) : AM := fun ls S => (e ls S).bind fun x S1 => (r ls S1).bind fun xs S2 => .ok (x :: xs) S2
theorem ma_nil : PA X [] (tA G (fm X) W mNil) := PA_imp pa_nil fun σ H Q ⟨ρ, S, ls, T, h⟩ => h ρ H (Ext.refl _ _) T [] (by unfold RVs; rfl)
/-- two readings in a row -/
theorem tE_bind {F : Fm} {σ : L2.St} {H : Hp} {ρ : List Addr} {S : Sto} {ls : Lo} {α : Type} {m : EM} {f : AV → Sto → Out α} {P : α → Sto → Prop} {Q : VK} (T : Stt G F ρ S ls σ H) (h : ((m ls S).bind f).Sat P (PostX G F W ρ H))
    (k : ∀ v S' ρ' H' x, (f v S').Sat P (PostX G F W ρ' H') → Ext ρ H ρ' H' → Stt G F ρ' S' ls σ H' → RV G ρ' H' v x → Q x H') : tE G F W m σ H Q := by
  refine tE_seq (fun v S' => (f v S').Sat P (PostX G F W ρ H)) T (Out.sat_bind.mp h) fun v S' ρ' H' x q y T' r => ?_
  exact k v S' ρ' H' x (Out.sat_mono (fun _ _ z => z) (fun _ _ _ z => z.ext y) q) y T' r
theorem tA_bind {F : Fm} {σ : L2.St} {H : Hp} {ρ : List Addr} {S : Sto} {ls : Lo} {α : Type} {m : AM} {f : List AV → Sto → Out α} {P : α → Sto → Prop} {Q : List V → Hp → Prop} (T : Stt G F ρ S ls σ H) (h : ((m ls S).bind f).Sat P (PostX G F W ρ H))
    (k : ∀ v S' ρ' H' x, (f v S').Sat P (PostX G F W ρ' H') → Ext ρ H ρ' H' → Stt G F ρ' S' ls σ H' → RVs G ρ' H' v x → Q x H') : tA G F W m σ H Q := by
  refine ⟨ρ, S, ls, T, Out.sat_mono (fun v S' q ρ' H' y T' x r => ?_) (fun _ _ _ q => q) (Out.sat_bind.mp h)⟩
  exact k v S' ρ' H' x (Out.sat_mono (fun _ _ z => z) (fun _ _ _ z => z.ext y) q) y T' r
theorem tT_bind {F : Fm} {σ : L2.St} {H : Hp} {ρ : List Addr} {S : Sto} {ls : Lo} {α : Type} {m : Lo → Sto → Out Bool} {f : Bool → Sto → Out α} {P : α → Sto → Prop} {Q : Bool → Hp → Prop} (T : Stt G F ρ S ls σ H) (h : ((m ls S).bind f).Sat P (PostX G F W ρ H))
    (k : ∀ v S' ρ' H', (f v S').Sat P (PostX G F W ρ' H') → Ext ρ H ρ' H' → Stt G F ρ' S' ls σ H' → Q v H') : tT G F W m σ H Q := by
  refine ⟨ρ, S, ls, T, Out.sat_mono (fun v S' q ρ' H' y T' => ?_) (fun _ _ _ q => q) (Out.sat_bind.mp h)⟩
  exact k v S' ρ' H' (Out.sat_mono (fun _ _ z => z) (fun _ _ _ z => z.ext y) q) y T'
theorem ma_cons {mr : AM} (ha : PE X e (tE G (fm X) W ma)) (hr : PA X es (tA G (fm X) W mr)) (hs : starEach (e :: es) X.env = (false, eval e X.env) :: starEach es X.env := by rfl) : PA X (e :: es) (tA G (fm X) W (mCons ma mr)) := by
  refine PA_imp (pa_cons ha hr hs) fun σ H Q ⟨ρ, S, ls, T, h⟩ => ?_
  refine tE_bind T h fun v S1 ρ1 H1 x h1 x1 T1 r1 => ?_
  refine tA_bind T1 h1 fun vs S2 ρ2 H2 xs h2 x2 T2 r2 => ?_
  exact h2 ρ2 H2 (x1.trans x2) T2 (x :: xs) (by unfold RVs; exact ⟨x, xs, rfl, r1.mono x2 v, r2⟩)
def lenOk (xs : List AV) : Bool := Nat.ble xs.length 10000000
theorem RVs_len : ∀ {xs : List AV} {vs : List V} {ρ : List Addr} {H : Hp}, RVs G ρ H xs vs → vs.length = xs.length
  | [], _, _, _, h => by unfold RVs at h; rw [h]; rfl
  | x :: xs, _, ρ, H, h => by
    unfold RVs at h
    obtain ⟨v, ws, e, _, r⟩ := h
    rw [e, List.length_cons, List.length_cons, RVs_len r]
theorem lenOk_le {xs : List AV} {vs : List V} {ρ : List Addr} {H : Hp} (h : lenOk xs = true) (r : RVs G ρ H xs vs) : vs.length ≤ sizeLine := by
  rw [RVs_len r]
  exact Nat.le_trans (Nat.le_of_ble_eq_true h) (by rw [sizeLine_eq]; decide)
theorem lenOk_lt {xs : List AV} {vs : List V} {ρ : List Addr} {H : Hp} (h : lenOk xs = true) (r : RVs G ρ H xs vs) : vs.length < sizeLine := by
  rw [RVs_len r]
  exact Nat.lt_of_le_of_lt (Nat.le_of_ble_eq_true h) (by rw [sizeLine_eq]; decide)
def mTup (m : AM) : EM := fun ls S => (m ls S).bind fun xs S1 => match lenOk xs with
  | true => .ok (.tup xs) S1
  | false => .bad
theorem me_tup {m : AM} {k} (h : PA X es (tA G (fm X) W m)) : PE X (.Tuple es k pos) (tE G (fm X) W (mTup m)) := by
  refine PE_imp (pe_tup h) fun σ H Q ⟨ρ, S, ls, T, h⟩ => ?_
  refine tA_bind T h fun vs S1 ρ1 H1 xs h1 x1 T1 r1 => ?_
  cases q : lenOk vs with
  | false => rw [q] at h1; exact h1.elim
  | true =>
    rw [q] at h1
    refine ⟨lenOk_le q r1, fun p hp => ?_⟩
    obtain ⟨T2, x2⟩ := T1.side (o := .tup xs) hp
    refine h1 ρ1 _ (x1.trans x2) T2 (.ref p) ?_
    unfold RV
    exact ⟨p, xs, rfl, SqT.of upd_same, r1.mono x2 vs⟩
/-- a new list -/
def newL (xs : List AV) (S : Sto) : Out AV := match lenOk xs, S.ok with
  | true, true => .ok (.ref S.n) (S.new (.lst xs))
  | _, _ => .bad
theorem newL_ok {F : Fm} {σ : L2.St} {H : Hp} {ρ : List Addr} {S : Sto} {ls : Lo} {xs : List AV} {vs : List V} {Q : VK} {P : AV → Sto → Prop} {E : AE → Lo → Sto → Prop} (T : Stt G F ρ S ls σ H) (r : RVs G ρ H xs vs) (h : (newL xs S).Sat P E) :
    vs.length ≤ sizeLine ∧ ∀ p, H p = none → ∃ ρ' S', Stt G F ρ' S' ls σ (upd H p (.lst vs)) ∧ Ext ρ H ρ' (upd H p (.lst vs)) ∧ P (.ref S.n) S' ∧ RV G ρ' (upd H p (.lst vs)) (.ref S.n) (.ref p) := by
  unfold newL at h
  cases q : lenOk xs with
  | false => rw [q] at h; exact h.elim
  | true =>
    cases q2 : S.ok with
    | false => rw [q, q2] at h; exact h.elim
    | true =>
      rw [q, q2] at h
      refine ⟨lenOk_le q r, fun p hp => ?_⟩
      have x0 : Ext ρ H (ρ ++ [p]) (upd H p (.lst vs)) := ext_new hp [p]
      obtain ⟨T2, x2⟩ := T.new (o := .lst vs) (ao := .lst xs) q2 hp rfl ⟨vs, upd_same, r.mono x0 xs⟩
      refine ⟨_, _, T2, x2, h, ?_⟩
      unfold RV
      exact ⟨p, by rw [← T.rel.len]; simp, rfl⟩
def mLst (m : AM) : EM := fun ls S => (m ls S).bind newL
theorem me_lst {m : AM} (h : PA X es (tA G (fm X) W m)) : PE X (.List es pos) (tE G (fm X) W (mLst m)) := by
  refine PE_imp (pe_lst h) fun σ H Q ⟨ρ, S, ls, T, h⟩ => ?_
  refine tA_bind T h fun vs S1 ρ1 H1 xs h1 x1 T1 r1 => ?_
  obtain ⟨hl, k⟩ := newL_ok (Q := Q) T1 r1 h1
  refine ⟨hl, fun p hp => ?_⟩
  obtain ⟨ρ', S', T2, x2, q, r⟩ := k p hp
  exact q ρ' _ (x1.trans x2) T2 _ r
/-! ### operators -/
def OpS (G : Gd) (F : Fm) (W : WX) (r : R2) (f : AV → AV → Sto → Out AV) : Prop := ∀ (ρ : List Addr) (S : Sto) (ls : Lo) (σ : L2.St) (H : Hp) (x y : AV) (v w : V) (Q : VK), Stt G F ρ S ls σ H → RV G ρ H x v → RV G ρ H y w →
  (f x y S).Sat (PostV G F ρ ls σ H Q) (PostX G F W ρ H) → r v w H Q
def mBin (f : AV → AV → Sto → Out AV) (a b : EM) : EM := fun ls S => (a ls S).bind fun x S1 => (b ls S1).bind fun y S2 => f x y S2
theorem tOp_of {F : Fm} {r : R2} {f : AV → AV → Sto → Out AV} (hs : OpS G F W r f) {σ : L2.St} {H : Hp} {Q : VK} (h : tE G F W (mBin f ma mb) σ H Q) : tOp r (tE G F W ma) (tE G F W mb) σ H Q := by
  obtain ⟨ρ, S, ls, T, h⟩ := h
  refine tE_bind T h fun v S1 ρ1 H1 x h1 x1 T1 r1 => ?_
  refine tE_bind T1 h1 fun w S2 ρ2 H2 y h2 x2 T2 r2 => ?_
  exact hs ρ2 S2 ls σ H2 v w x y Q T2 (r1.mono x2 v) r2 (Out.sat_mono (fun _ _ z => z.ext (x1.trans x2)) (fun _ _ _ z => z) h2)
theorem me_bin {op : Operator} {r : R2} {f : AV → AV → Sto → Out AV} (ho : OpR X (binaryOp op) r) (hs : OpS G (fm X) W r f) (ha : PE X a (tE G (fm X) W ma)) (hb : PE X b (tE G (fm X) W mb)) : PE X (.BinOp a op b pos) (tE G (fm X) W (mBin f ma mb)) :=
  PE_imp (pe_op ho ha hb) fun _ _ _ h => tOp_of hs h
theorem me_cmp {op : CmpOp} {r : R2} {f : AV → AV → Sto → Out AV} (ho : OpR X (compareOp op) r) (hs : OpS G (fm X) W r f) (ha : PE X a (tE G (fm X) W ma)) (hb : PE X b (tE G (fm X) W mb)) (hm : behindInMarks op b = false := by first | exact nomark _ | rfl) :
    PE X (.Compare a [op] [b] pos) (tE G (fm X) W (mBin f ma mb)) := PE_imp (pe_cmpR ho ha hb hm) fun _ _ _ h => tOp_of hs h
/-! ### truth -/
def truth (S : Sto) : AV → Option Bool
  | .non => some false
  | .bl b => some b
  | .int i => some (i != 0)
  | .str s => match Nat.ble s.length 10000000 with
    | true => some (!s.isEmpty)
    | false => none
  | .tup xs => some (!xs.isEmpty)
  | .ref i => match S.get i with
    | some (.lst xs) => some (!xs.isEmpty)
    | _ => none
  | _ => none
theorem isEmpty_RVs {xs : List AV} {vs : List V} {ρ : List Addr} {H : Hp} (r : RVs G ρ H xs vs) : vs.isEmpty = xs.isEmpty := by
  have := RVs_len r
  cases xs <;> cases vs <;> simp_all
theorem toS_len (s : List Nat) : (toS s).length = s.length := by simp [toS, Str.length]
theorem truth_ok {F : Fm} {σ : L2.St} {H : Hp} {ρ : List Addr} {S : Sto} {ls : Lo} {a : AV} {x : V} {k : Bool} (T : Stt G F ρ S ls σ H) (r : RV G ρ H a x) (h : truth S a = some k) : TruV G.K x H k := by
  cases a with
  | non => unfold RV at r; subst r; cases h; rfl
  | bl b => unfold RV at r; subst r; cases h; rfl
  | int i => unfold RV at r; subst r; cases h; rfl
  | str s =>
    unfold RV at r; subst r
    cases q : Nat.ble s.length 10000000 with
    | false => simp only [truth, q] at h; cases h
    | true =>
      simp only [truth, q] at h
      cases h
      refine ⟨by rw [toS_len]; exact Nat.le_trans (Nat.le_of_ble_eq_true q) (by rw [sizeLine_eq]; decide), ?_⟩
      rw [toS_len]
      cases s with
      | nil => rfl
      | cons z zs =>
        have : ((z :: zs).length : Int) ≠ 0 := by rw [List.length_cons]; omega
        simp only [List.isEmpty_cons, Bool.not_false]
        exact (bne_iff_ne.mpr this).symm
  | tup xs =>
    unfold RV at r
    obtain ⟨p, vs, rfl, s, rs⟩ := r
    cases h
    exact .inr (.inl ⟨vs, s, by rw [isEmpty_RVs rs]⟩)
  | ref i =>
    unfold RV at r
    obtain ⟨p, hp, rfl⟩ := r
    cases q : S.get i with
    | none => simp only [truth, q] at h; cases h
    | some o =>
      have ob := T.rel.obj i p o hp q
      cases o with
      | lst xs =>
        simp only [truth, q] at h
        cases h
        obtain ⟨vs, e, rs⟩ := ob
        exact .inl ⟨vs, SqL.of e, by rw [isEmpty_RVs rs]⟩
      | _ => simp only [truth, q] at h; cases h
  | _ => cases h
end
end Sh

end

section
namespace Sh
open PySem PySem.Spec PyProof.Rows L2
abbrev TM := Lo → Sto → Out Bool
section
variable {X : Cx} {G : Gd} {W : WX} {a b c e : Expr} {es : List Expr} {rest : List Expr} {ma mb mc : EM} {pos : Pos}
/-! ### tests -/
def mTr (m : EM) : TM := fun ls S => (m ls S).bind fun v S1 => match truth S1 v with
  | some k => .ok k S1
  | none => .bad
theorem mt_tr (hk : X.K = G.K) (ha : PE X a (tE G (fm X) W ma)) (he : ∀ whole, isTrue a X.env whole = (do let v ← whole; standAt a.pos; holding [v] (truthy v)) := by intro _; rfl) : PT X a (tT G (fm X) W (mTr ma)) := by
  refine PT_imp (pt_truth ha he) fun σ H Q ⟨ρ, S, ls, T, h⟩ => ?_
  refine tE_bind T h fun v S1 ρ1 H1 x h1 x1 T1 r1 => ?_
  cases q : truth S1 v with
  | none => rw [q] at h1; exact h1.elim
  | some k =>
    rw [q] at h1
    exact ⟨k, by rw [hk]; exact truth_ok T1 r1 q, h1 ρ1 H1 x1 T1⟩
def mTb (m : EM) : TM := fun ls S => (m ls S).bind fun v S1 => match v with
  | .bl k => .ok k S1
  | _ => .bad
theorem mt_cmp {op : CmpOp} {r : R2} {f : AV → AV → Sto → Out AV} (ho : OpR X (compareOp op) r) (hs : OpS G (fm X) W r f) (ha : PE X a (tE G (fm X) W ma)) (hb : PE X b (tE G (fm X) W mb)) (hm : behindInMarks op b = false := by first | exact nomark _ | rfl) :
    PT X (.Compare a [op] [b] pos) (tT G (fm X) W (mTb (mBin f ma mb))) := by
  refine PT_imp (pt_cmpR ho ha hb hm) fun σ H Q ⟨ρ, S, ls, T, h⟩ => ?_
  refine tOp_of hs (tE_bind T h fun v S1 ρ1 H1 x h1 x1 T1 r1 => ?_)
  cases v with
  | bl k =>
    unfold RV at r1
    exact ⟨k, r1, h1 ρ1 H1 x1 T1⟩
  | _ => exact h1.elim
/-- a test whose value is True or False -/
theorem mt_val (ha : PE X a (tE G (fm X) W ma)) (he : ∀ whole, isTrue a X.env whole = (do let v ← whole; standAt a.pos; holding [v] (truthy v)) := by intro _; rfl) : PT X a (tT G (fm X) W (mTb ma)) := by
  refine PT_imp (pt_val ha he) fun σ H Q ⟨ρ, S, ls, T, h⟩ => ?_
  refine tE_bind T h fun v S1 ρ1 H1 x h1 x1 T1 r1 => ?_
  cases v with
  | bl k =>
    unfold RV at r1
    exact ⟨k, r1, h1 ρ1 H1 x1 T1⟩
  | _ => exact h1.elim
def mTnot (m : TM) : TM := fun ls S => (m ls S).bind fun k S1 => .ok (!k) S1
theorem mt_not {m : TM} (ha : PT X a (tT G (fm X) W m)) : PT X (.UnaryOp .Not a pos) (tT G (fm X) W (mTnot m)) := by
  refine PT_imp (pt_not ha) fun σ H Q ⟨ρ, S, ls, T, h⟩ => ?_
  exact tT_bind T h fun v S1 ρ1 H1 h1 x1 T1 => h1 ρ1 H1 x1 T1
def mTand (m n : TM) : TM := fun ls S => (m ls S).bind fun k S1 => match k with
  | true => n ls S1
  | false => .ok false S1
def mTor (m n : TM) : TM := fun ls S => (m ls S).bind fun k S1 => match k with
  | true => .ok true S1
  | false => n ls S1
theorem sat_ext {F : Fm} {ρ ρ' : List Addr} {H H' : Hp} {ls : Lo} {σ : L2.St} {α : Type} {m : Out α} {P P' : α → Sto → Prop} (x : Ext ρ H ρ' H') (hp : ∀ a S, P a S → P' a S) (h : m.Sat P (PostX G F W ρ' H')) : m.Sat P' (PostX G F W ρ' H') := Out.sat_mono hp (fun _ _ _ z => z) h
theorem PostB.ext {F : Fm} {ρ ρ' : List Addr} {H H' : Hp} {ls : Lo} {σ : L2.St} {Q : Bool → Hp → Prop} (x : Ext ρ H ρ' H') {v : Bool} {S : Sto} (h : PostB G F ρ ls σ H Q v S) : PostB G F ρ' ls σ H' Q v S := fun ρ2 H2 y => h ρ2 H2 (x.trans y)
theorem mw_and1 {m : TM} (ha : PT X a (tT G (fm X) W m)) : PW X (.BoolOp .And [a] pos) (tT G (fm X) W m) := pw_and1 ha
theorem mw_or1 {m : TM} (ha : PT X a (tT G (fm X) W m)) : PW X (.BoolOp .Or [a] pos) (tT G (fm X) W m) := pw_or1 ha
theorem PW_imp {t t' : TT} (h : PW X e t) (i : ∀ σ H Q, t' σ H Q → t σ H Q) : PW X e t' := ⟨fun whole pins s σ H Q I q => h.run whole pins s σ H Q I (i σ H Q q)⟩
theorem mw_and {m n : TM} (ha : PT X a (tT G (fm X) W m)) (hb : PW X (.BoolOp .And (b :: rest) pos) (tT G (fm X) W n)) : PW X (.BoolOp .And (a :: b :: rest) pos) (tT G (fm X) W (mTand m n)) := by
  refine PW_imp (pw_and ha hb) fun σ H Q ⟨ρ, S, ls, T, h⟩ => ?_
  refine tT_bind T h fun v S1 ρ1 H1 h1 x1 T1 => ?_
  cases v with
  | true => exact ⟨ρ1, S1, ls, T1, Out.sat_mono (fun _ _ z => z.ext x1) (fun _ _ _ z => z) h1⟩
  | false => exact h1 ρ1 H1 x1 T1
theorem mw_or {m n : TM} (ha : PT X a (tT G (fm X) W m)) (hb : PW X (.BoolOp .Or (b :: rest) pos) (tT G (fm X) W n)) : PW X (.BoolOp .Or (a :: b :: rest) pos) (tT G (fm X) W (mTor m n)) := by
  refine PW_imp (pw_or ha hb) fun σ H Q ⟨ρ, S, ls, T, h⟩ => ?_
  refine tT_bind T h fun v S1 ρ1 H1 h1 x1 T1 => ?_
  cases v with
  | true => exact h1 ρ1 H1 x1 T1
  | false => exact ⟨ρ1, S1, ls, T1, Out.sat_mono (fun _ _ z => z.ext x1) (fun _ _ _ z => z) h1⟩
/-! ### and, or, not as values; a if t else b -/
def mAnd (m n : EM) : EM := fun ls S => (m ls S).bind fun v S1 => match truth S1 v with
  | some true => n ls S1
  | some false => .ok v S1
  | none => .bad
def mOr (m n : EM) : EM := fun ls S => (m ls S).bind fun v S1 => match truth S1 v with
  | some true => .ok v S1
  | some false => n ls S1
  | none => .bad
def mNot (m : EM) : EM := fun ls S => (m ls S).bind fun v S1 => match truth S1 v with
  | some k => .ok (.bl (!k)) S1
  | none => .bad
theorem me_one {op} (ha : PE X a (tE G (fm X) W ma)) : PE X (.BoolOp op [a] pos) (tE G (fm X) W ma) := pe_one ha
theorem me_and (hk : X.K = G.K) (ha : PE X a (tE G (fm X) W ma)) (hb : PE X (.BoolOp .And (b :: rest) pos) (tE G (fm X) W mb)) : PE X (.BoolOp .And (a :: b :: rest) pos) (tE G (fm X) W (mAnd ma mb)) := by
  refine PE_imp (pe_andT ha hb) fun σ H Q ⟨ρ, S, ls, T, h⟩ => ?_
  refine tE_bind T h fun v S1 ρ1 H1 x h1 x1 T1 r1 => ?_
  cases q : truth S1 v with
  | none => rw [q] at h1; exact h1.elim
  | some k =>
    rw [q] at h1
    refine ⟨k, by rw [hk]; exact truth_ok T1 r1 q, ?_⟩
    cases k with
    | true => exact iteT ⟨ρ1, S1, ls, T1, Out.sat_mono (fun _ _ z => z.ext x1) (fun _ _ _ z => z) h1⟩
    | false => exact iteF (h1 ρ1 H1 x1 T1 x r1)
theorem me_or (hk : X.K = G.K) (ha : PE X a (tE G (fm X) W ma)) (hb : PE X (.BoolOp .Or (b :: rest) pos) (tE G (fm X) W mb)) : PE X (.BoolOp .Or (a :: b :: rest) pos) (tE G (fm X) W (mOr ma mb)) := by
  refine PE_imp (pe_orT ha hb) fun σ H Q ⟨ρ, S, ls, T, h⟩ => ?_
  refine tE_bind T h fun v S1 ρ1 H1 x h1 x1 T1 r1 => ?_
  cases q : truth S1 v with
  | none => rw [q] at h1; exact h1.elim
  | some k =>
    rw [q] at h1
    refine ⟨k, by rw [hk]; exact truth_ok T1 r1 q, ?_⟩
    cases k with
    | true => exact iteT (h1 ρ1 H1 x1 T1 x r1)
    | false => exact iteF ⟨ρ1, S1, ls, T1, Out.sat_mono (fun _ _ z => z.ext x1) (fun _ _ _ z => z) h1⟩
theorem me_not (hk : X.K = G.K) (ha : PE X a (tE G (fm X) W ma)) : PE X (.UnaryOp .Not a pos) (tE G (fm X) W (mNot ma)) := by
  refine PE_imp (pe_notT ha) fun σ H Q ⟨ρ, S, ls, T, h⟩ => ?_
  refine tE_bind T h fun v S1 ρ1 H1 x h1 x1 T1 r1 => ?_
  cases q : truth S1 v with
  | none => rw [q] at h1; exact h1.elim
  | some k =>
    rw [q] at h1
    exact ⟨k, by rw [hk]; exact truth_ok T1 r1 q, h1 ρ1 H1 x1 T1 _ (by unfold RV; rfl)⟩
def mIf (t : TM) (m n : EM) : EM := fun ls S => (t ls S).bind fun k S1 => match k with
  | true => m ls S1
  | false => n ls S1
theorem me_if {m : TM} (hc : PT X c (tT G (fm X) W m)) (ha : PE X a (tE G (fm X) W ma)) (hb : PE X b (tE G (fm X) W mb)) : PE X (.IfExp c a b pos) (tE G (fm X) W (mIf m ma mb)) := by
  refine PE_imp (pe_ifExp hc ha hb) fun σ H Q ⟨ρ, S, ls, T, h⟩ => ?_
  refine tT_bind T h fun v S1 ρ1 H1 h1 x1 T1 => ?_
  cases v with
  | true => exact iteT ⟨ρ1, S1, ls, T1, Out.sat_mono (fun _ _ z => z.ext x1) (fun _ _ _ z => z) h1⟩
  | false => exact iteF ⟨ρ1, S1, ls, T1, Out.sat_mono (fun _ _ z => z.ext x1) (fun _ _ _ z => z) h1⟩
/-! ### chains a < b < c -/
def mChain (f g : AV → AV → Sto → Out AV) (a b c : EM) : EM := fun ls S => (a ls S).bind fun x S1 => (b ls S1).bind fun y S2 => (f x y S2).bind fun k S3 => match k with
  | .bl true => (c ls S3).bind fun z S4 => g y z S4
  | .bl false => .ok (.bl false) S3
  | _ => .bad
theorem tChain_of {F : Fm} {r r' : R2} {f g : AV → AV → Sto → Out AV} (hs : OpS G F W r f) (hs' : OpS G F W r' g) {σ : L2.St} {H : Hp} {Q : VK} (h : tE G F W (mChain f g ma mb mc) σ H Q) : tChain r r' (tE G F W ma) (tE G F W mb) (tE G F W mc) σ H Q := by
  obtain ⟨ρ, S, ls, T, h⟩ := h
  refine tE_bind T h fun v S1 ρ1 H1 x h1 x1 T1 r1 => ?_
  refine tE_bind T1 h1 fun w S2 ρ2 H2 y h2 x2 T2 r2 => ?_
  refine hs ρ2 S2 ls σ H2 v w x y _ T2 (r1.mono x2 v) r2 (Out.sat_mono (fun k S3 h3 ρ3 H3 x3 T3 z rz => ?_) (fun _ _ _ z => z) (Out.sat_bind.mp h2))
  cases k with
  | bl k =>
    unfold RV at rz
    refine ⟨k, rz, ?_⟩
    cases k with
    | true =>
      refine iteT (tE_bind T3 (Out.sat_mono (fun _ _ z => z) (fun _ _ _ z => z.ext x3) h3) fun u S4 ρ4 H4 z h4 x4 T4 r4 => ?_)
      exact hs' ρ4 S4 ls σ H4 w u y z Q T4 (r2.mono (x3.trans x4) w) r4 (Out.sat_mono (fun _ _ z => z.ext (x1.trans (x2.trans (x3.trans x4)))) (fun _ _ _ z => z) h4)
    | false => exact iteF (h3 ρ3 H3 (x1.trans (x2.trans x3)) T3 _ (by unfold RV; rfl))
  | _ => exact h3.elim
theorem me_chain {op op' : CmpOp} {r r' : R2} {f g : AV → AV → Sto → Out AV} (ho : OpR X (compareOp op) r) (ho' : OpR X (compareOp op') r') (hs : OpS G (fm X) W r f) (hs' : OpS G (fm X) W r' g)
    (ha : PE X a (tE G (fm X) W ma)) (hb : PE X b (tE G (fm X) W mb)) (hc : PE X c (tE G (fm X) W mc))
    (h : PE X (.Compare a [op, op'] [b, c] pos) (tChain r r' (tE G (fm X) W ma) (tE G (fm X) W mb) (tE G (fm X) W mc))) : PE X (.Compare a [op, op'] [b, c] pos) (tE G (fm X) W (mChain f g ma mb mc)) :=
  PE_imp h fun _ _ _ q => tChain_of hs hs' q
/-! ### unary minus -/
def mNeg (m : EM) : EM := fun ls S => (m ls S).bind fun v S1 => match v with
  | .int i => .ok (.int (-i)) S1
  | _ => .bad
theorem me_neg (ha : PE X a (tE G (fm X) W ma)) : PE X (.UnaryOp .USub a pos) (tE G (fm X) W (mNeg ma)) := by
  refine PE_imp (pe_un un_neg ha) fun σ H Q ⟨ρ, S, ls, T, h⟩ => ?_
  refine tE_bind T h fun v S1 ρ1 H1 x h1 x1 T1 r1 => ?_
  cases v with
  | int i =>
    unfold RV at r1
    exact ⟨i, r1, h1 ρ1 H1 x1 T1 _ (by unfold RV; rfl)⟩
  | _ => exact h1.elim
/-! ### built-in functions by values -/
def CallS (G : Gd) (F : Fm) (W : WX) (r : List V → Hp → VK → Prop) (f : List AV → Sto → Out AV) : Prop := ∀ (ρ : List Addr) (S : Sto) (ls : Lo) (σ : L2.St) (H : Hp) (xs : List AV) (vs : List V) (Q : VK), Stt G F ρ S ls σ H → RVs G ρ H xs vs →
  (f xs S).Sat (PostV G F ρ ls σ H Q) (PostX G F W ρ H) → r vs H Q
def mCall (f : List AV → Sto → Out AV) (m : AM) : EM := fun ls S => (m ls S).bind fun xs S1 => f xs S1
theorem tCB_of {F : Fm} {r : List V → Hp → VK → Prop} {f : List AV → Sto → Out AV} {m : AM} (hs : CallS G F W r f) {σ : L2.St} {H : Hp} {Q : VK} (h : tE G F W (mCall f m) σ H Q) : tCB r (tA G F W m) σ H Q := by
  obtain ⟨ρ, S, ls, T, h⟩ := h
  refine tA_bind T h fun v S1 ρ1 H1 x h1 x1 T1 r1 => ?_
  exact hs ρ1 S1 ls σ H1 v x Q T1 r1 (Out.sat_mono (fun _ _ z => z.ext x1) (fun _ _ _ z => z) h1)
theorem me_callB {x : Str} {id : String} {r : List V → Hp → VK → Prop} {f : List AV → Sto → Out AV} {m : AM} {p : Pos} (hc : CallR X (.builtin id) r) (hs : CallS G (fm X) W r f) (hm : X.mg x = none) (hv : bootBuiltins x = some (.builtin id)) (ha : PA X (e :: es) (tA G (fm X) W m)) (hg : Gl X x := by rfl) (hn : x ≠ "__name__" := by decide) (hdb : (x == ("__debug__" : Str)) = false := by decide)
    (he : starEach (e :: es) X.env = (false, eval e X.env) :: starEach es X.env := by rfl) (hpl : (backTo pos (starEach es X.env)).any (·.1) = false := by rfl) : PE X (.Call (.Name x p) (e :: es) [] pos) (tE G (fm X) W (mCall f m)) :=
  PE_imp (pe_callB hc hg hm hv ha hn hdb he hpl) fun _ _ _ h => tCB_of hs h
theorem me_callTy {x : Str} {t : String} {r : List V → Hp → VK → Prop} {f : List AV → Sto → Out AV} {m : AM} {p : Pos} (hc : CallR X (.type t) r) (hs : CallS G (fm X) W r f) (hm : X.mg x = none) (hv : bootBuiltins x = some (.type t)) (ha : PA X (e :: es) (tA G (fm X) W m)) (hg : Gl X x := by rfl) (hn : x ≠ "__name__" := by decide) (hdb : (x == ("__debug__" : Str)) = false := by decide)
    (he : starEach (e :: es) X.env = (false, eval e X.env) :: starEach es X.env := by rfl) (hpl : (backTo pos (starEach es X.env)).any (·.1) = false := by rfl) : PE X (.Call (.Name x p) (e :: es) [] pos) (tE G (fm X) W (mCall f m)) :=
  PE_imp (pe_callTy hc hg hm hv ha hn hdb he hpl) fun _ _ _ h => tCB_of hs h
/-- a built-in class as a value -/
theorem me_ty {x : Str} {p : Pos} (n : Nat) (hm : X.mg x = none) (hv : bootBuiltins x = some (.type (tyN n))) (hg : Gl X x := by rfl) (hn : x ≠ "__name__" := by decide) (hd : (x == ("__debug__" : Str)) = false := by decide) : PE X (.Name x p) (tE G (fm X) W (mC (.ty n))) :=
  PE_imp (pe_bltn hg hm hv (v := .ty (tyN n)) rfl hn hd) fun _ _ _ h => tC_of (fun _ _ => by unfold RV; rfl) h
/-! ### methods of built-in types -/
def MethS (G : Gd) (F : Fm) (W : WX) (T : String) (r : V → List V → Hp → VK → Prop) (f : AV → List AV → Sto → Out AV) : Prop := ∀ (ρ : List Addr) (S : Sto) (ls : Lo) (σ : L2.St) (H : Hp) (x : AV) (xs : List AV) (v : V) (vs : List V) (Q : VK), Stt G F ρ S ls σ H → RV G ρ H x v → RVs G ρ H xs vs →
  (f x xs S).Sat (PostV G F ρ ls σ H Q) (PostX G F W ρ H) → r v vs H Q
def TypS (G : Gd) (F : Fm) (T : String) (g : AV → Sto → Bool) : Prop := ∀ (ρ : List Addr) (S : Sto) (ls : Lo) (σ : L2.St) (H : Hp) (x : AV) (v : V), Stt G F ρ S ls σ H → RV G ρ H x v → g x S = true → tyV G.K T v H
def mMeth (g : AV → Sto → Bool) (f : AV → List AV → Sto → Out AV) (o : EM) (m : AM) : EM := fun ls S => (o ls S).bind fun x S1 => match g x S1 with
  | true => (m ls S1).bind fun xs S2 => f x xs S2
  | false => .bad
theorem me_bm {name : Str} {o : Expr} {apos : Pos} {T id : String} {r : V → List V → Hp → VK → Prop} {g : AV → Sto → Bool} {f : AV → List AV → Sto → Out AV} {mo : EM} {m : AM} (hk : X.K = G.K)
    (hp : PE X (.Call (.Attribute o name apos) (e :: es) [] pos) (tBM X.K T r (tE G (fm X) W mo) (tA G (fm X) W m))) (hg : TypS G (fm X) T g) (hs : MethS G (fm X) W T r f) :
    PE X (.Call (.Attribute o name apos) (e :: es) [] pos) (tE G (fm X) W (mMeth g f mo m)) := by
  refine PE_imp hp fun σ H Q ⟨ρ, S, ls, Tt, h⟩ => ?_
  refine tE_bind Tt h fun v S1 ρ1 H1 x h1 x1 T1 r1 => ?_
  cases q : g v S1 with
  | false => rw [q] at h1; exact h1.elim
  | true =>
    rw [q] at h1
    refine ⟨by rw [hk]; exact hg ρ1 S1 ls σ H1 v x T1 r1 q, ?_⟩
    refine tA_bind T1 h1 fun vs S2 ρ2 H2 xs h2 x2 T2 r2 => ?_
    exact hs ρ2 S2 ls σ H2 v vs x xs Q T2 (r1.mono x2 v) r2 (Out.sat_mono (fun _ _ z => z.ext (x1.trans x2)) (fun _ _ _ z => z) h2)
theorem me_bm0 {name : Str} {o : Expr} {apos : Pos} {T id : String} {r : V → List V → Hp → VK → Prop} {g : AV → Sto → Bool} {f : AV → List AV → Sto → Out AV} {mo : EM} (hk : X.K = G.K)
    (hp : PE X (.Call (.Attribute o name apos) [] [] pos) (tBM0 X.K T r (tE G (fm X) W mo))) (hg : TypS G (fm X) T g) (hs : MethS G (fm X) W T r f) :
    PE X (.Call (.Attribute o name apos) [] [] pos) (tE G (fm X) W (mMeth g f mo mNil)) := by
  refine PE_imp hp fun σ H Q ⟨ρ, S, ls, Tt, h⟩ => ?_
  refine tE_bind Tt h fun v S1 ρ1 H1 x h1 x1 T1 r1 => ?_
  cases q : g v S1 with
  | false => rw [q] at h1; exact h1.elim
  | true =>
    rw [q] at h1
    refine ⟨by rw [hk]; exact hg ρ1 S1 ls σ H1 v x T1 r1 q, ?_⟩
    exact hs ρ1 S1 ls σ H1 v [] x [] Q T1 r1 (by unfold RVs; rfl) (Out.sat_mono (fun _ _ z => z.ext x1) (fun _ _ _ z => z) h1)
/-! ### subscripts -/
def mIx (f : AV → AV → Sto → Out AV) (a b : EM) : EM := mBin f a b
theorem me_ix {r : R2} {f : AV → AV → Sto → Out AV} (hr : IxR X r) (hs : OpS G (fm X) W r f) (ha : PE X a (tE G (fm X) W ma)) (hb : PE X b (tE G (fm X) W mb)) (hpl : PlainIx b := by exact fun _ _ => rfl) : PE X (.Subscript a b pos) (tE G (fm X) W (mBin f ma mb)) :=
  PE_imp (pe_ix hr ha hb hpl) fun _ _ _ h => tOp_of hs h
end
end Sh

end

section
namespace Sh
open PySem PySem.Spec PyProof.Rows L2
/-! ### concrete operators -/
def eqL : List Nat → List Nat → Bool
  | [], [] => true
  | a :: r, b :: q => match Nat.beq a b with
    | true => eqL r q
    | false => false
  | _, _ => false
theorem eqL_dec : ∀ a b : List Nat, eqL a b = decide (a = b)
  | [], [] => rfl
  | [], _ :: _ => rfl
  | _ :: _, [] => rfl
  | a :: r, b :: q => by
    unfold eqL
    rw [beq_dec]
    by_cases h : a = b
    · subst h; simp [eqL_dec r q]
    · simp [h]
theorem toS_inj {a b : List Nat} : toS a = toS b ↔ a = b := ⟨fun h => by
  have := congrArg (fun s : Str => s.cps.toList) h
  simpa [toS] using this, fun h => by rw [h]⟩
theorem toS_dec (a b : List Nat) : decide (toS a = toS b) = eqL a b := by
  rw [eqL_dec]
  by_cases h : a = b
  · simp [h]
  · simp [h, toS_inj]
/-- == of scalars -/
def eqSc : AV → AV → Option Bool
  | .non, .non => some true
  | .non, .int _ => some false
  | .int _, .non => some false
  | .non, .bl _ => some false
  | .bl _, .non => some false
  | .non, .str _ => some false
  | .str _, .non => some false
  | .int i, .int j => some (decide (i = j))
  | .bl a, .bl b => some (a == b)
  | .str a, .str b => some (eqL a b)
  | .int _, .str _ => some false
  | .str _, .int _ => some false
  | .bl _, .str _ => some false
  | .str _, .bl _ => some false
  | _, _ => none
section
variable {X : Cx} {G : Gd} {W : WX} {F : Fm}
theorem eqSc_ok {ρ : List Addr} {H : Hp} : ∀ {x y : AV} {v w : V} {k : Bool}, RV G ρ H x v → RV G ρ H y w → eqSc x y = some k → scal v w = true ∧ decide (v = w) = k := by
  intro x y v w k rx ry h
  cases x <;> cases y <;> first
    | (cases h; done)
    | (unfold RV at rx ry; subst rx ry; cases h; refine ⟨rfl, ?_⟩; first
        | rfl
        | (rename_i a b; cases a <;> cases b <;> rfl)
        | (rename_i a b; rw [← toS_dec]; by_cases h : toS a = toS b <;> simp [h])
        | simp)
def fEq (x y : AV) (S : Sto) : Out AV := match eqSc x y with
  | some k => .ok (.bl k) S
  | none => .bad
def fNe (x y : AV) (S : Sto) : Out AV := match eqSc x y with
  | some k => .ok (.bl (!k)) S
  | none => .bad
theorem rv_bl {ρ : List Addr} {H : Hp} {k : Bool} : RV G ρ H (.bl k) (.bl k) := by unfold RV; rfl
theorem rv_int {ρ : List Addr} {H : Hp} {k : Int} : RV G ρ H (.int k) (.int k) := by unfold RV; rfl
theorem rv_str {ρ : List Addr} {H : Hp} {k : List Nat} : RV G ρ H (.str k) (.str (toS k)) := by unfold RV; rfl
theorem rv_non {ρ : List Addr} {H : Hp} : RV G ρ H .non .non := by unfold RV; rfl
theorem os_eq : OpS G F W rEq fEq := fun ρ S ls σ H x y v w Q T rx ry h => by
  unfold fEq at h
  cases q : eqSc x y with
  | none => rw [q] at h; exact h.elim
  | some k =>
    rw [q] at h
    obtain ⟨h1, h2⟩ := eqSc_ok rx ry q
    exact ⟨h1, by rw [h2]; exact h ρ H (Ext.refl _ _) T _ rv_bl⟩
theorem os_ne : OpS G F W rNe fNe := fun ρ S ls σ H x y v w Q T rx ry h => by
  unfold fNe at h
  cases q : eqSc x y with
  | none => rw [q] at h; exact h.elim
  | some k =>
    rw [q] at h
    obtain ⟨h1, h2⟩ := eqSc_ok rx ry q
    exact ⟨h1, by rw [h2]; exact h ρ H (Ext.refl _ _) T _ rv_bl⟩
/-- an operator of two ints -/
def fI (g : Int → Int → Option AV) (x y : AV) (S : Sto) : Out AV := match x, y with
  | .int i, .int j => match g i j with
    | some a => .ok a S
    | none => .bad
  | _, _ => .bad
theorem os_I {C : Int → Int → Prop} {g0 : Int → Int → V} {g : Int → Int → Option AV} (hg : ∀ i j a, g i j = some a → C i j ∧ ∀ ρ H, RV G ρ H a (g0 i j)) : OpS G F W (rI C g0) (fI g) := fun ρ S ls σ H x y v w Q T rx ry h => by
  unfold fI at h
  cases x <;> first
    | exact h.elim
    | (rename_i i
       cases y <;> first
        | exact h.elim
        | (rename_i j
           unfold RV at rx ry
           cases q : g i j with
           | none => simp only [q] at h; exact h.elim
           | some a =>
             simp only [q] at h
             obtain ⟨c, r⟩ := hg i j a q
             exact ⟨i, j, rx, ry, c, h ρ H (Ext.refl _ _) T _ (r ρ H)⟩))
theorem os_I0 {g0 : Int → Int → V} {g : Int → Int → Option AV} (hg : ∀ i j a, g i j = some a → ∀ ρ H, RV G ρ H a (g0 i j)) : OpS G F W (rI0 g0) (fI g) := fun ρ S ls σ H x y v w Q T rx ry h => by
  unfold fI at h
  cases x <;> first
    | exact h.elim
    | (rename_i i
       cases y <;> first
        | exact h.elim
        | (rename_i j
           unfold RV at rx ry
           cases q : g i j with
           | none => simp only [q] at h; exact h.elim
           | some a =>
             simp only [q] at h
             exact ⟨i, j, rx, ry, h ρ H (Ext.refl _ _) T _ (hg i j a q ρ H)⟩))
def gAdd (i j : Int) : Option AV := some (.int (i + j))
def gSub (i j : Int) : Option AV := some (.int (i - j))
def gLt (i j : Int) : Option AV := some (.bl (decide (i < j)))
def gLe (i j : Int) : Option AV := some (.bl (decide (i ≤ j)))
def gGt (i j : Int) : Option AV := some (.bl (decide (j < i)))
def gGe (i j : Int) : Option AV := some (.bl (decide (j ≤ i)))
theorem os_lt : OpS G F W (rI0 fun i j => .bl (decide (i < j))) (fI gLt) := os_I0 fun i j a h ρ H => by cases h; exact rv_bl
theorem os_le : OpS G F W (rI0 fun i j => .bl (decide (i ≤ j))) (fI gLe) := os_I0 fun i j a h ρ H => by cases h; exact rv_bl
theorem os_gt : OpS G F W (rI0 fun i j => .bl (decide (j < i))) (fI gGt) := os_I0 fun i j a h ρ H => by cases h; exact rv_bl
theorem os_ge : OpS G F W (rI0 fun i j => .bl (decide (j ≤ i))) (fI gGe) := os_I0 fun i j a h ρ H => by cases h; exact rv_bl
theorem os_add : OpS G F W (rI0 fun i j => .int (i + j)) (fI gAdd) := os_I0 fun i j a h ρ H => by cases h; exact rv_int
theorem os_sub : OpS G F W (rI0 fun i j => .int (i - j)) (fI gSub) := os_I0 fun i j a h ρ H => by cases h; exact rv_int
/-! is None, is a built-in class -/
def isNon : AV → Bool
  | .non => true
  | _ => false
theorem isNon_ok {ρ : List Addr} {H : Hp} {x : AV} {v : V} (r : RV G ρ H x v) : decide (v = .non) = isNon x := by
  cases x with
  | tup xs => unfold RV at r; obtain ⟨a, vs, rfl, _⟩ := r; rfl
  | ref i => unfold RV at r; obtain ⟨a, _, rfl⟩ := r; rfl
  | clo c ks => unfold RV at r; obtain ⟨f, c', cl, rfl, _⟩ := r; rfl
  | _ => unfold RV at r; subst r; rfl
def fIsN (x y : AV) (S : Sto) : Out AV := match y with
  | .non => .ok (.bl (isNon x)) S
  | _ => .bad
def fNotN (x y : AV) (S : Sto) : Out AV := match y with
  | .non => .ok (.bl (!isNon x)) S
  | _ => .bad
theorem os_isN : OpS G F W (fun x y H Q => y = .non ∧ Q (.bl (decide (x = .non))) H) fIsN := fun ρ S ls σ H x y v w Q T rx ry h => by
  cases y <;> first
    | exact (show False from h).elim
    | (unfold RV at ry; exact ⟨ry, by rw [isNon_ok rx]; exact h ρ H (Ext.refl _ _) T _ rv_bl⟩)
theorem os_notN : OpS G F W (fun x y H Q => y = .non ∧ Q (.bl (!decide (x = .non))) H) fNotN := fun ρ S ls σ H x y v w Q T rx ry h => by
  cases y <;> first
    | exact (show False from h).elim
    | (unfold RV at ry; exact ⟨ry, by rw [isNon_ok rx]; exact h ρ H (Ext.refl _ _) T _ rv_bl⟩)
theorem tyN_inj8 : ∀ a b : Fin 8, (decide (tyN a.1 = tyN b.1)) = Nat.beq a.1 b.1 := by decide +kernel
theorem tyN_inj {a b : Nat} (ha : a ≤ 7) (hb : b ≤ 7) : (decide (tyN a = tyN b)) = Nat.beq a b := tyN_inj8 ⟨a, by omega⟩ ⟨b, by omega⟩
def fIsTy (neg : Bool) (x y : AV) (S : Sto) : Out AV := match x, y with
  | .ty a, .ty b => match Nat.ble a 7, Nat.ble b 7 with
    | true, true => .ok (.bl (if neg then !(Nat.beq a b) else Nat.beq a b)) S
    | _, _ => .bad
  | _, _ => .bad
theorem fIsTy_ok {neg : Bool} {ρ : List Addr} {S : Sto} {H : Hp} {x y : AV} {v w : V} {P : AV → Sto → Prop} {E : AE → Lo → Sto → Prop} (rx : RV G ρ H x v) (ry : RV G ρ H y w) (h : (fIsTy neg x y S).Sat P E) :
    ∃ a b, v = .ty a ∧ w = .ty b ∧ P (.bl (if neg then !decide (a = b) else decide (a = b))) S := by
  unfold fIsTy at h
  cases x <;> first
    | exact h.elim
    | (cases y <;> first
        | exact h.elim
        | (rename_i a b
           unfold RV at rx ry
           cases q1 : Nat.ble a 7 with
           | false => simp only [q1] at h; exact h.elim
           | true =>
             cases q2 : Nat.ble b 7 with
             | false => simp only [q1, q2] at h; exact h.elim
             | true =>
               simp only [q1, q2] at h
               refine ⟨_, _, rx, ry, ?_⟩
               rw [tyN_inj (Nat.le_of_ble_eq_true q1) (Nat.le_of_ble_eq_true q2)]
               exact h))
theorem os_isTy : OpS G F W (fun x y H Q => ∃ a b, x = .ty a ∧ y = .ty b ∧ Q (.bl (decide (a = b))) H) (fIsTy false) := fun ρ S ls σ H x y v w Q T rx ry h => by
  obtain ⟨a, b, e1, e2, p⟩ := fIsTy_ok rx ry h
  exact ⟨a, b, e1, e2, p ρ H (Ext.refl _ _) T _ rv_bl⟩
theorem os_notTy : OpS G F W rNT (fIsTy true) := fun ρ S ls σ H x y v w Q T rx ry h => by
  obtain ⟨a, b, e1, e2, p⟩ := fIsTy_ok rx ry h
  exact ⟨a, b, e1, e2, p ρ H (Ext.refl _ _) T _ rv_bl⟩
/-! in -/
def memN (c : Nat) : List Nat → Bool
  | [] => false
  | a :: r => match Nat.beq a c with
    | true => true
    | false => memN c r
theorem memN_dec (c : Nat) : ∀ l : List Nat, memN c l = decide (c ∈ l)
  | [] => rfl
  | a :: r => by
    unfold memN
    rw [beq_dec]
    by_cases h : a = c
    · subst h; simp
    · have h2 : ¬ c = a := fun z => h z.symm
      simp [h, h2, memN_dec c r]
def flatA : AV → Bool
  | .non => true
  | .bl _ => true
  | .int _ => true
  | .str _ => true
  | _ => false
def eqF : AV → AV → Bool
  | .non, .non => true
  | .bl a, .bl b => a == b
  | .bl a, .int b =>
      (if a then 1 else 0) == b
  | .int a, .bl b =>
      a == (if b then 1 else 0)
  | .int a, .int b => decide (a = b)
  | .str a, .str b => eqL a b
  | _, _ => false
theorem eqF_ok {ρ : List Addr} {H : Hp} {x y : AV} {v w : V} (rx : RV G ρ H x v) (ry : RV G ρ H y w) (fx : flatA x = true) (fy : flatA y = true) : eqV v w = eqF x y := by
  cases x <;> first
    | (cases fx; done)
    | (cases y <;> first
        | (cases fy; done)
        | (unfold RV at rx ry; subst rx ry; first
            | rfl
            | (rename_i a b
               show (toS a == toS b) = eqL a b
               rw [← toS_dec]; by_cases h : toS a = toS b <;> simp [h])
            | (rename_i a b
               show (a == b) = decide (a = b)
               by_cases h : a = b <;> simp [h])))
theorem flatA_ok {ρ : List Addr} {H : Hp} {x : AV} {v : V} (rx : RV G ρ H x v) (fx : flatA x = true) : flatV v = true := by
  cases x <;> first
    | (cases fx; done)
    | (unfold RV at rx; subst rx; rfl)
def inA (x : AV) : List AV → Option Bool
  | [] => some false
  | y :: r => match flatA y with
    | true => match inA x r with
      | some k => some (eqF y x || k)
      | none => none
    | false => none
theorem inA_ok {ρ : List Addr} {H : Hp} {x : AV} {v : V} (rx : RV G ρ H x v) (fx : flatA x = true) : ∀ {xs : List AV} {vs : List V} {k : Bool}, RVs G ρ H xs vs → inA x xs = some k → vs.all flatV = true ∧ inV v vs = k
  | [], vs, k, r, h => by unfold RVs at r; subst r; cases h; exact ⟨rfl, rfl⟩
  | y :: ys, vs, k, r, h => by
    unfold RVs at r
    obtain ⟨w, ws, rfl, ry, rs⟩ := r
    unfold inA at h
    cases fy : flatA y with
    | false => simp only [fy] at h; cases h
    | true =>
      cases q : inA x ys with
      | none => simp only [fy, q] at h; cases h
      | some k' =>
        simp only [fy, q] at h
        cases h
        obtain ⟨h1, h2⟩ := inA_ok rx fx rs q
        refine ⟨by simp only [List.all_cons, flatA_ok ry fy, h1, Bool.and_self], ?_⟩
        unfold inV at h2 ⊢
        rw [List.any_cons, h2, eqF_ok ry rx fy fx]
def seqOf (S : Sto) : AV → Option (List AV)
  | .tup xs => some xs
  | .ref i => match S.get i with
    | some (.lst xs) => some xs
    | _ => none
  | _ => none
theorem seqOf_ok {ρ : List Addr} {S : Sto} {ls : Lo} {σ : L2.St} {H : Hp} {y : AV} {w : V} {xs : List AV} (T : Stt G F ρ S ls σ H) (r : RV G ρ H y w) (h : seqOf S y = some xs) :
    ∃ p vs, w = .ref p ∧ RVs G ρ H xs vs ∧ ((∃ i, y = .ref i ∧ S.get i = some (.lst xs) ∧ ρ[i]? = some p ∧ H p = some (.lst vs)) ∨ (y = .tup xs ∧ SqT G.K H p vs)) := by
  cases y with
  | tup ys =>
    cases h
    unfold RV at r
    obtain ⟨p, vs, e, s, rs⟩ := r
    exact ⟨p, vs, e, rs, .inr ⟨rfl, s⟩⟩
  | ref i =>
    unfold seqOf at h
    unfold RV at r
    obtain ⟨p, hp, e⟩ := r
    cases q : S.get i with
    | none => simp only [q] at h; cases h
    | some o =>
      cases o with
      | lst ys =>
        simp only [q] at h
        cases h
        obtain ⟨vs, e2, rs⟩ := T.rel.obj i p _ hp q
        exact ⟨p, vs, e, rs, .inl ⟨i, rfl, q, hp, e2⟩⟩
      | _ => simp only [q] at h; cases h
  | _ => cases h
def fIn (neg : Bool) (x y : AV) (S : Sto) : Out AV := match x, y with
  | .str [c], .str s => .ok (.bl (if neg then !memN c s else memN c s)) S
  | x, y => match seqOf S y with
    | some xs => match flatA x with
      | true => match inA x xs with
        | some k => .ok (.bl (if neg then !k else k)) S
        | none => .bad
      | false => .bad
    | none => .bad
theorem fIn_ok {neg : Bool} {ρ : List Addr} {S : Sto} {ls : Lo} {σ : L2.St} {H : Hp} {x y : AV} {v w : V} {P : AV → Sto → Prop} {E : AE → Lo → Sto → Prop} (T : Stt G F ρ S ls σ H) (rx : RV G ρ H x v) (ry : RV G ρ H y w) (h : (fIn neg x y S).Sat P E) :
    (∃ (c : Nat) (z : Str), v = .str ⟨#[c]⟩ ∧ w = .str z ∧ P (.bl (if neg then !decide (c ∈ z.cps.toList) else decide (c ∈ z.cps.toList))) S) ∨
    (∃ p xs, w = .ref p ∧ (SqL G.K H p xs ∨ SqT G.K H p xs) ∧ flatV v = true ∧ xs.all flatV = true ∧ P (.bl (if neg then !inV v xs else inV v xs)) S) := by
  unfold fIn at h
  split at h
  · rename_i c s
    unfold RV at rx ry
    refine .inl ⟨c, toS s, rx, ry, ?_⟩
    have e : (toS s).cps.toList = s := by simp [toS]
    rw [e, ← memN_dec]
    exact h
  · cases q : seqOf S y with
    | none => simp only [q] at h; exact h.elim
    | some xs =>
      cases fx : flatA x with
      | false => simp only [q, fx] at h; exact h.elim
      | true =>
        cases q2 : inA x xs with
        | none => simp only [q, fx, q2] at h; exact h.elim
        | some k =>
          simp only [q, fx, q2] at h
          obtain ⟨p, vs, e, rs, k2⟩ := seqOf_ok T ry q
          obtain ⟨a1, a2⟩ := inA_ok rx fx rs q2
          refine .inr ⟨p, vs, e, ?_, flatA_ok rx fx, a1, by rw [a2]; exact h⟩
          rcases k2 with ⟨i, _, _, _, e3⟩ | ⟨_, e3⟩
          · exact .inl (SqL.of e3)
          · exact .inr e3
def rInB (K : PySem.W.Frag) (neg : Bool) : R2 := fun x y H Q => (∃ (c : Nat) (z : Str), x = .str ⟨#[c]⟩ ∧ y = .str z ∧ Q (.bl (if neg then !decide (c ∈ z.cps.toList) else decide (c ∈ z.cps.toList))) H) ∨ rIn K neg x y H Q
theorem op_inB : OpR X (compareOp .In) (rInB X.K false) := op_in_sign.or op_in_seq
theorem op_notInB : OpR X (compareOp .NotIn) (rInB X.K true) := op_notIn_sign.or op_notIn_seq
theorem os_in {neg : Bool} (hk : X.K = G.K) : OpS G F W (rInB X.K neg) (fIn neg) := fun ρ S ls σ H x y v w Q T rx ry h => by
  rw [hk]
  rcases fIn_ok T rx ry h with ⟨c, z, e1, e2, p⟩ | ⟨p, xs, e1, e2, e3, e4, p'⟩
  · exact .inl ⟨c, z, e1, e2, p ρ H (Ext.refl _ _) T _ rv_bl⟩
  · exact .inr ⟨p, xs, e1, e2, e3, e4, p' ρ H (Ext.refl _ _) T _ rv_bl⟩
end
end Sh

end

section
namespace Sh
open PySem PySem.Spec PyProof.Rows L2
section
variable {X : Cx} {G : Gd} {W : WX} {F : Fm} {ma mb : EM} {a b : Expr} {pos : Pos}
theorem rvs1 {ρ : List Addr} {H : Hp} {x : AV} {vs : List V} (r : RVs G ρ H [x] vs) : ∃ v, vs = [v] ∧ RV G ρ H x v := by
  unfold RVs at r
  obtain ⟨v, ws, rfl, rv, r2⟩ := r
  unfold RVs at r2
  subst r2
  exact ⟨v, rfl, rv⟩
theorem rvs2 {ρ : List Addr} {H : Hp} {x y : AV} {vs : List V} (r : RVs G ρ H [x, y] vs) : ∃ v w, vs = [v, w] ∧ RV G ρ H x v ∧ RV G ρ H y w := by
  unfold RVs at r
  obtain ⟨v, ws, rfl, rv, r2⟩ := r
  obtain ⟨w, rfl, rw⟩ := rvs1 r2
  exact ⟨v, w, rfl, rv, rw⟩
theorem rvs0 {ρ : List Addr} {H : Hp} {vs : List V} (r : RVs G ρ H [] vs) : vs = [] := by unfold RVs at r; exact r
/-! type(x) -/
def tyOf (S : Sto) : AV → Option Nat
  | .non => some 0
  | .bl _ => some 1
  | .int _ => some 2
  | .str _ => some 3
  | .tup _ => some 5
  | .ref i => match S.get i with
    | some (.lst _) => some 4
    | some (.dct _) => some 6
    | _ => none
  | _ => none
theorem tyOf_le {S : Sto} {x : AV} {n : Nat} (h : tyOf S x = some n) : n ≤ 6 := by
  cases x with
  | ref i =>
    unfold tyOf at h
    cases q : S.get i with
    | none => simp only [q] at h; cases h
    | some o => cases o <;> simp only [q] at h <;> cases h <;> decide
  | _ => cases h <;> decide
theorem tyOf_tyb {ρ : List Addr} {S : Sto} {ls : Lo} {σ : L2.St} {H : Hp} {x : AV} {v : V} {n : Nat} (T : Stt G F ρ S ls σ H) (r : RV G ρ H x v) (h : tyOf S x = some n) : TyB G.K H v (tyN n) ∧ TyX G.K H v (.type (tyN n)) := by
  cases x with
  | non => unfold RV at r; subst r; cases h; exact ⟨.non, .base .non⟩
  | bl b => unfold RV at r; subst r; cases h; exact ⟨.bl b, .base (.bl b)⟩
  | int b => unfold RV at r; subst r; cases h; exact ⟨.int b, .base (.int b)⟩
  | str b => unfold RV at r; subst r; cases h; exact ⟨.str _, .base (.str _)⟩
  | tup xs =>
    unfold RV at r
    obtain ⟨a, vs, rfl, s, _⟩ := r
    cases h
    refine ⟨.tup s, ?_⟩
    rcases s with (s | ⟨o, s⟩) | ⟨o, its, n, e, c, _⟩
    · exact .base (.tup s)
    · exact .fTuple s
    · exact .kTuple e c
  | ref i =>
    unfold RV at r
    obtain ⟨a, ha, rfl⟩ := r
    unfold tyOf at h
    cases q : S.get i with
    | none => simp only [q] at h; cases h
    | some o =>
      have ob := T.rel.obj i a o ha q
      cases o with
      | lst xs => simp only [q] at h; cases h; obtain ⟨vs, e, _⟩ := ob; exact ⟨.lst (SqL.of e), .base (.lst e)⟩
      | dct kvs =>
        simp only [q] at h
        cases h
        obtain ⟨ps, e, _⟩ := ob
        exact ⟨.dK e, .base (.dK e)⟩
      | _ => simp only [q] at h; cases h
  | _ => cases h
def fType : List AV → Sto → Out AV := fun xs S => match xs with
  | [x] => match tyOf S x with
    | some n => .ok (.ty n) S
    | none => .bad
  | _ => .bad
theorem rv_ty {ρ : List Addr} {H : Hp} {n : Nat} : RV G ρ H (.ty n) (.ty (tyN n)) := by unfold RV; rfl
theorem cs_type (hk : X.K = G.K) : CallS G F W (rTyp X.K) fType := fun ρ S ls σ H xs vs Q T r h => by
  unfold fType at h
  split at h
  · obtain ⟨v, rfl, rv⟩ := rvs1 r
    rename_i x
    cases q : tyOf S x with
    | none => rw [q] at h; exact h.elim
    | some n =>
      rw [q] at h
      exact ⟨v, _, rfl, by rw [hk]; exact (tyOf_tyb T rv q).1, h ρ H (Ext.refl _ _) T _ rv_ty⟩
  · exact h.elim
/-! isinstance(x, c), isinstance(x, (c, ..)), the classes built-in ones -/
def kitT (n c : Nat) : Bool := match Nat.beq n c with
  | true => true
  | false => match Nat.beq n 1 with
    | true => Nat.beq c 2
    | false => false
def kitL (n : Nat) : List Nat → Bool
  | [] => false
  | c :: r => match kitT n c with
    | true => true
    | false => kitL n r
def KitOk (K : PySem.W.Frag) : Prop := ∀ a b : Fin 7, PySem.W.kitOne K (.type (tyN a.1)) (.type (tyN b.1)) = some (kitT a.1 b.1)
def allLe6 : List Nat → Bool
  | [] => true
  | c :: r => match Nat.ble c 6 with
    | true => allLe6 r
    | false => false
theorem kitL_ok {K : PySem.W.Frag} (hK : KitOk K) {n : Nat} (hn : n ≤ 6) : ∀ cs : List Nat, allLe6 cs = true → PySem.W.kitAny K (.type (tyN n)) (cs.map fun c => .type (tyN c)) = some (kitL n cs)
  | [], _ => rfl
  | c :: r, h => by
    unfold allLe6 at h
    cases q : Nat.ble c 6 with
    | false => rw [q] at h; cases h
    | true =>
      rw [q] at h
      have h1 := hK ⟨n, by omega⟩ ⟨c, by have := Nat.le_of_ble_eq_true q; omega⟩
      have h2 := kitL_ok hK hn r h
      simp only [List.map_cons, PySem.W.kitAny, kitL]
      rw [h1]
      cases q2 : kitT n c with
      | true => rfl
      | false => exact h2
def mIsi (cs : List Nat) (m : EM) : EM := fun ls S => (m ls S).bind fun v S1 => match tyOf S1 v with
  | some n => .ok (.bl (kitL n cs)) S1
  | none => .bad
theorem me_isi1 {x c : Str} {p p2 : Pos} (n : Nat) (hk : X.K = G.K) (hK : KitOk G.K) (hn : Nat.ble n 6 = true) (hx : x = "isinstance") (hm : X.mg "isinstance" = none) (hmc : X.mg c = none) (hvc : bootBuiltins c = some (.type (tyN n)))
    (ha : PE X a (tE G (fm X) W ma)) (hg : Gl X "isinstance" := by rfl) (hgc : Gl X c := by rfl) (hcn : c ≠ "__name__" := by decide) (hcd : (c == ("__debug__" : Str)) = false := by decide)
    (hs : starEach [a, .Name c p2] X.env = (false, eval a X.env) :: starEach [.Name c p2] X.env := by rfl) (hs2 : starEach [.Name c p2] X.env = (false, eval (.Name c p2) X.env) :: starEach [] X.env := by rfl)
    (hpl : (backTo pos (starEach [.Name c p2] X.env)).any (·.1) = false := by rfl) :
    PE X (.Call (.Name x p) [a, .Name c p2] [] pos) (tE G (fm X) W (mIsi [n] ma)) := by
  subst hx
  refine PE_imp (pe_callB call_isi hg hm (by rfl) (pa_cons ha (pa_cons (pe_bltn hgc hmc (v := .ty (tyN n)) hvc rfl hcn hcd) pa_nil hs2) hs) (by decide) (by decide) hs hpl) fun σ H Q ⟨ρ, S, ls, T, h⟩ => ?_
  refine tE_bind T h fun v S1 ρ1 H1 x h1 x1 T1 r1 => ?_
  cases q : tyOf S1 v with
  | none => rw [q] at h1; exact h1.elim
  | some k =>
    rw [q] at h1
    have e := kitL_ok hK (tyOf_le q) [n] (by unfold allLe6; rw [hn]; rfl)
    have e2 : PySem.W.kitOne X.K (.type (tyN k)) (.type (tyN n)) = some (kitL k [n]) := by
      rw [hk]
      have h1 := hK ⟨k, by have := tyOf_le q; omega⟩ ⟨n, by have := Nat.le_of_ble_eq_true hn; omega⟩
      rw [h1]
      unfold kitL kitL
      cases kitT k n <;> rfl
    exact ⟨x, .ty (tyN n), .type (tyN k), .type (tyN n), _, rfl, .ty _, by rw [hk]; exact (tyOf_tyb T1 r1 q).2, e2, h1 ρ1 H1 x1 T1 _ rv_bl⟩
theorem paired_ty : ∀ cs : List Nat, Paired ClsV (cs.map fun c => V.ty (tyN c)) (cs.map fun c => .type (tyN c))
  | [] => .nil
  | _ :: r => .cons (.ty _) (paired_ty r)
/-- constants, one behind another -/
def tCs (vs : List V) : TA := fun _ H Q => Q vs H
theorem pa_cs0 : PA X [] (tCs []) := pa_nil
theorem pa_cs {e : Expr} {es : List Expr} {v : V} {vs : List V} (h : PE X e (tC v)) (r : PA X es (tCs vs)) (hs : starEach (e :: es) X.env = (false, eval e X.env) :: starEach es X.env := by rfl) : PA X (e :: es) (tCs (v :: vs)) := pa_cons h r hs
theorem me_isiT {x : Str} {p : Pos} {es : List Expr} {k : Nat} {p2 : Pos} (cs : List Nat) (hk : X.K = G.K) (hK : KitOk G.K) (hn : allLe6 cs = true) (hx : x = "isinstance") (hm : X.mg "isinstance" = none)
    (hes : PA X es (tCs (cs.map fun c => .ty (tyN c)))) (hl : cs.length ≤ 100) (ha : PE X a (tE G (fm X) W ma)) (hg : Gl X "isinstance" := by rfl)
    (hs : starEach [a, .Tuple es k p2] X.env = (false, eval a X.env) :: starEach [.Tuple es k p2] X.env := by rfl) (hs2 : starEach [.Tuple es k p2] X.env = (false, eval (.Tuple es k p2) X.env) :: starEach [] X.env := by rfl)
    (hpl : (backTo pos (starEach [.Tuple es k p2] X.env)).any (·.1) = false := by rfl) :
    PE X (.Call (.Name x p) [a, .Tuple es k p2] [] pos) (tE G (fm X) W (mIsi cs ma)) := by
  subst hx
  refine PE_imp (pe_callB call_isiT hg hm (by rfl) (pa_cons ha (pa_cons (pe_tup hes) pa_nil hs2) hs) (by decide) (by decide) hs hpl) fun σ H Q ⟨ρ, S, ls, T, h⟩ => ?_
  refine tE_bind T h fun v S1 ρ1 H1 x h1 x1 T1 r1 => ?_
  refine ⟨by rw [List.length_map, sizeLine_eq]; omega, fun q hq => ?_⟩
  cases qq : tyOf S1 v with
  | none => rw [qq] at h1; exact h1.elim
  | some n =>
    rw [qq] at h1
    obtain ⟨T2, x2⟩ := T1.side (o := .tup (cs.map fun c => V.ty (tyN c))) hq
    refine ⟨x, q, _, .type (tyN n), cs.map fun c => .type (tyN c), kitL n cs, rfl, upd_same, ?_, ?_, ?_, h1 _ _ (x1.trans x2) T2 _ rv_bl⟩
    · exact paired_ty cs
    · rw [hk]; exact (tyOf_tyb T2 (r1.mono x2 v) qq).2
    · rw [hk]; exact kitL_ok hK (tyOf_le qq) cs hn
/-! len -/
def fLen : List AV → Sto → Out AV := fun xs S => match xs with
  | [x] => match x with
    | .str s => match Nat.ble s.length 10000000 with
      | true => .ok (.int s.length) S
      | false => .bad
    | .ref i => match S.get i with
      | some (.lst ys) => .ok (.int ys.length) S
      | some (.dct kvs) => .ok (.int kvs.length) S
      | _ => .bad
    | .tup ys => .ok (.int ys.length) S
    | _ => .bad
  | _ => .bad
theorem KR_len {ρ : List Addr} {H : Hp} : ∀ {kvs : List (AV × AV)} {ps : List (Key × V)}, KR G ρ H kvs ps → ps.length = kvs.length
  | [], _, h => by unfold KR at h; rw [h]; rfl
  | _ :: r, _, h => by
    obtain ⟨_, _, _, rfl, _, _, hr⟩ := h
    rw [List.length_cons, List.length_cons, KR_len hr]
def rLenB (K : PySem.W.Frag) : List V → Hp → VK → Prop := fun xs H Q => (∃ x n, xs = [x] ∧ LenV K x H n ∧ Q (.int n) H) ∨ ∃ a kvs, xs = [V.ref a] ∧ H a = some (.dK kvs) ∧ Q (.int kvs.length) H
theorem call_lenB : CallR X (.builtin "len") (rLenB X.K) := call_len.or call_lenD
theorem cs_len (hk : X.K = G.K) : CallS G F W (rLenB X.K) fLen := fun ρ S ls σ H xs vs Q T r h => by
  unfold fLen at h
  split at h
  · obtain ⟨v, rfl, rv⟩ := rvs1 r
    rename_i x
    split at h
    · rename_i s
      unfold RV at rv
      subst rv
      cases q : Nat.ble s.length 10000000 with
      | false => rw [q] at h; exact h.elim
      | true =>
        rw [q] at h
        refine .inl ⟨_, s.length, rfl, ⟨by rw [toS_len]; exact Nat.le_trans (Nat.le_of_ble_eq_true q) (by rw [sizeLine_eq]; decide), (toS_len s).symm⟩, h ρ H (Ext.refl _ _) T _ rv_int⟩
    · rename_i i
      unfold RV at rv
      obtain ⟨p, hp, rfl⟩ := rv
      cases q : S.get i with
      | none => simp only [q] at h; exact h.elim
      | some o =>
        have ob := T.rel.obj i p o hp q
        cases o with
        | lst ys =>
          simp only [q] at h
          obtain ⟨ws, e, rs⟩ := ob
          exact .inl ⟨_, ws.length, rfl, .inl ⟨ws, SqL.of e, rfl⟩, by rw [RVs_len rs]; exact h ρ H (Ext.refl _ _) T _ rv_int⟩
        | dct kvs =>
          simp only [q] at h
          obtain ⟨ps, e, rs⟩ := ob
          exact .inr ⟨p, ps, rfl, e, by rw [KR_len rs]; exact h ρ H (Ext.refl _ _) T _ rv_int⟩
        | _ => simp only [q] at h; exact h.elim
    · rename_i ys
      unfold RV at rv
      obtain ⟨p, ws, rfl, s, rs⟩ := rv
      exact .inl ⟨_, ws.length, rfl, .inr ⟨ws, by rw [hk]; exact s, rfl⟩, by rw [RVs_len rs]; exact h ρ H (Ext.refl _ _) T _ rv_int⟩
    · exact h.elim
  · exact h.elim
/-! all -/
def blsOf : List AV → Option (List Bool)
  | [] => some []
  | .bl k :: r => match blsOf r with
    | some ks => some (k :: ks)
    | none => none
  | _ => none
theorem blsOf_ok {ρ : List Addr} {H : Hp} : ∀ {xs : List AV} {vs : List V} {ks : List Bool}, RVs G ρ H xs vs → blsOf xs = some ks → vs = ks.map V.bl
  | [], vs, ks, r, h => by cases h; exact rvs0 r
  | x :: xs, vs, ks, r, h => by
    unfold RVs at r
    obtain ⟨v, ws, rfl, rv, rs⟩ := r
    cases x with
    | bl k =>
      unfold blsOf at h
      cases q : blsOf xs with
      | none => simp only [q] at h; cases h
      | some ks' =>
        simp only [q] at h
        cases h
        unfold RV at rv
        rw [rv, blsOf_ok rs q]
        rfl
    | _ => cases h
def fAll : List AV → Sto → Out AV := fun xs S => match xs with
  | [.ref i] => match S.get i with
    | some (.lst ys) => match blsOf ys with
      | some ks => .ok (.bl (ks.all id)) S
      | none => .bad
    | _ => .bad
  | _ => .bad
theorem cs_all (hk : X.K = G.K) : CallS G F W (rAll X.K) fAll := fun ρ S ls σ H xs vs Q T r h => by
  unfold fAll at h
  split at h
  · obtain ⟨v, rfl, rv⟩ := rvs1 r
    rename_i i
    unfold RV at rv
    obtain ⟨p, hp, rfl⟩ := rv
    cases q : S.get i with
    | none => simp only [q] at h; exact h.elim
    | some o =>
      have ob := T.rel.obj i p o hp q
      cases o with
      | lst ys =>
        simp only [q] at h
        obtain ⟨ws, e, rs⟩ := ob
        cases q2 : blsOf ys with
        | none => simp only [q2] at h; exact h.elim
        | some ks =>
          simp only [q2] at h
          exact ⟨p, ks, rfl, SqL.of (by rw [e, blsOf_ok rs q2]), h ρ H (Ext.refl _ _) T _ rv_bl⟩
      | _ => simp only [q] at h; exact h.elim
  · exact h.elim
/-! list(x), tuple(x) -/
def fList : List AV → Sto → Out AV := fun xs S => match xs with
  | [x] => match seqOf S x with
    | some ys => newL ys S
    | none => .bad
  | _ => .bad
theorem cs_list (hk : X.K = G.K) : CallS G F W (fun xs H Q => ∃ p ys, xs = [.ref p] ∧ (SqL X.K H p ys ∨ SqT X.K H p ys) ∧ ∀ l, H l = none → Q (.ref l) (upd H l (.lst ys))) fList := fun ρ S ls σ H xs vs Q T r h => by
  unfold fList at h
  split at h
  · obtain ⟨v, rfl, rv⟩ := rvs1 r
    rename_i x
    cases q : seqOf S x with
    | none => rw [q] at h; exact h.elim
    | some ys =>
      rw [q] at h
      obtain ⟨p, ws, rfl, rs, k⟩ := seqOf_ok T rv q
      obtain ⟨_, k2⟩ := newL_ok (Q := Q) T rs h
      refine ⟨p, ws, rfl, ?_, fun l hl => ?_⟩
      · rcases k with ⟨_, _, _, _, e⟩ | ⟨_, e⟩
        · exact .inl (SqL.of e)
        · exact .inr (by rw [hk]; exact e)
      · obtain ⟨ρ', S', T2, x2, q, r⟩ := k2 l hl
        exact q ρ' _ x2 T2 _ r
  · exact h.elim
/-! x[i] -/
theorem RVs_get {ρ : List Addr} {H : Hp} : ∀ {xs : List AV} {vs : List V} {j : Nat} {a : AV}, RVs G ρ H xs vs → xs[j]? = some a → ∃ v, vs[j]? = some v ∧ RV G ρ H a v
  | [], _, _, _, _, h =>
      by simp at h
  | x :: xs, vs, j, a, r, h => by
    unfold RVs at r
    obtain ⟨v, ws, rfl, rv, rs⟩ := r
    cases j with
    | zero => simp at h; subst h; exact ⟨v, rfl, rv⟩
    | succ j => simp at h; obtain ⟨w, e, r⟩ := RVs_get rs h; exact ⟨w, by simpa using e, r⟩
theorem atI_ok {ρ : List Addr} {H : Hp} {xs : List AV} {vs : List V} {i : Int} {a : AV} (r : RVs G ρ H xs vs) (h : atI xs i = some a) : ∃ v, atI vs i = some v ∧ RV G ρ H a v := by
  unfold atI at h ⊢
  rw [RVs_len r]
  cases q : ixN xs.length i with
  | none => rw [q] at h; cases h
  | some j => rw [q] at h; exact RVs_get r h
def fIx (x y : AV) (S : Sto) : Out AV := match y with
  | .int i => match x with
    | .str s => match Nat.ble s.length 10000000, atI s i with
      | true, some c => .ok (.str [c]) S
      | _, _ => .bad
    | x => match seqOf S x with
      | some ys => match atI ys i with
        | some a => .ok a S
        | none => .bad
      | none => .bad
  | _ => .bad
theorem os_ix (hk : X.K = G.K) : OpS G F W (rIx X.K) fIx := fun ρ S ls σ H x y v w Q T rx ry h => by
  unfold fIx at h
  split at h
  · rename_i i
    unfold RV at ry
    split at h
    · rename_i s
      unfold RV at rx
      cases q : Nat.ble s.length 10000000 with
      | false => rw [q] at h; exact h.elim
      | true =>
        cases q2 : atI s i with
        | none => rw [q, q2] at h; exact h.elim
        | some c =>
          rw [q, q2] at h
          refine .inr (.inr ⟨toS s, i, c, rx, ry, by rw [toS_len]; exact Nat.le_trans (Nat.le_of_ble_eq_true q) (by rw [sizeLine_eq]; decide), by simpa [toS] using q2, h ρ H (Ext.refl _ _) T _ (by unfold RV; rfl)⟩)
    · cases q : seqOf S x with
      | none => simp only [q] at h; exact h.elim
      | some ys =>
        cases q2 : atI ys i with
        | none => simp only [q, q2] at h; exact h.elim
        | some a =>
          simp only [q, q2] at h
          obtain ⟨p, ws, e, rs, k⟩ := seqOf_ok T rx q
          obtain ⟨u, e2, ru⟩ := atI_ok rs q2
          have hq := h ρ H (Ext.refl _ _) T _ ru
          rcases k with ⟨_, _, _, _, e3⟩ | ⟨_, e3⟩
          · exact .inl ⟨p, ws, i, u, e, ry, SqL.of e3, e2, hq⟩
          · exact .inr (.inl ⟨p, ws, i, u, e, ry, by rw [hk]; exact e3, e2, hq⟩)
  · exact h.elim
/-! slices -/
abbrev OM := Lo → Sto → Out (Option Int)
def PostO (G : Gd) (F : Fm) (ρ : List Addr) (ls : Lo) (σ : L2.St) (H : Hp) (Q : Option Int → Hp → Prop) : Option Int → Sto → Prop := fun o S' => ∀ ρ' H', Ext ρ H ρ' H' → Stt G F ρ' S' ls σ H' → Q o H'
def tO (G : Gd) (F : Fm) (W : WX) (m : OM) : TO := fun σ H Q => ∃ ρ S ls, Stt G F ρ S ls σ H ∧ (m ls S).Sat (PostO G F ρ ls σ H Q) (PostX G F W ρ H)
theorem PO_imp {e : Option Expr} {t t' : TO} (h : PO X e t) (i : ∀ σ H Q, t' σ H Q → t σ H Q) : PO X e t' := ⟨fun pins s σ H Q I q => h.run pins s σ H Q I (i σ H Q q)⟩
def mONone : OM := fun _ S => .ok none S
def mOSome (m : EM) : OM := fun ls S => (m ls S).bind fun v S1 => match v with
  | .int i => .ok (some i) S1
  | _ => .bad
theorem mo_none : PO X none (tO G (fm X) W mONone) := PO_imp po_none fun σ H Q ⟨ρ, S, ls, T, h⟩ => h ρ H (Ext.refl _ _) T
theorem mo_some (ha : PE X a (tE G (fm X) W ma)) : PO X (some a) (tO G (fm X) W (mOSome ma)) := PO_imp (po_some ha) fun σ H Q ⟨ρ, S, ls, T, h⟩ => by
  refine tE_bind T h fun v S1 ρ1 H1 x h1 x1 T1 r1 => ?_
  cases v with
  | int i => unfold RV at r1; exact ⟨i, r1, h1 ρ1 H1 x1 T1⟩
  | _ => exact h1.elim
def cutG {α : Type} (xs : List α) (lo hi : Option Int) : List α := (xs.drop (HT.sIx xs.length 0 lo)).take (HT.sIx xs.length xs.length hi - HT.sIx xs.length 0 lo)
theorem RVs_drop {ρ : List Addr} {H : Hp} : ∀ {xs : List AV} {vs : List V} (n : Nat), RVs G ρ H xs vs → RVs G ρ H (xs.drop n) (vs.drop n)
  | _, _, 0, r => r
  | [], vs, n + 1, r => by rw [rvs0 r]; unfold RVs; simp
  | x :: xs, vs, n + 1, r => by
    unfold RVs at r
    obtain ⟨v, ws, rfl, rv, rs⟩ := r
    exact RVs_drop n rs
theorem RVs_take {ρ : List Addr} {H : Hp} : ∀ {xs : List AV} {vs : List V} (n : Nat), RVs G ρ H xs vs → RVs G ρ H (xs.take n) (vs.take n)
  | xs, _, 0, r => by simp only [List.take_zero]; unfold RVs; rfl
  | [], vs, n + 1, r => by rw [rvs0 r]; unfold RVs; simp
  | x :: xs, vs, n + 1, r => by
    unfold RVs at r
    obtain ⟨v, ws, rfl, rv, rs⟩ := r
    simp only [List.take_succ_cons]
    unfold RVs
    exact ⟨v, _, rfl, rv, RVs_take n rs⟩
theorem RVs_cut {ρ : List Addr} {H : Hp} {xs : List AV} {vs : List V} {lo hi : Option Int} (r : RVs G ρ H xs vs) : RVs G ρ H (cutG xs lo hi) (cutV vs lo hi) := by
  unfold cutG cutV
  rw [RVs_len r]
  exact RVs_take _ (RVs_drop _ r)
def fSl (x : AV) (lo hi : Option Int) (S : Sto) : Out AV := match x with
  | .str s => match Nat.ble s.length 10000000 with
    | true => .ok (.str (cutG s lo hi)) S
    | false => .bad
  | .tup ys => .ok (.tup (cutG ys lo hi)) S
  | x => match seqOf S x with
    | some ys => newL (cutG ys lo hi) S
    | none => .bad
def rSlB (K : PySem.W.Frag) : V → Option Int → Option Int → Hp → VK → Prop := fun x lo hi H Q => rSlL K x lo hi H Q ∨ (rSlA K x lo hi H Q ∨ rSlS x lo hi H Q)
theorem sl_B : SlR X (rSlB X.K) := sl_list.or (sl_tupA.or sl_str)
def mSl (m : EM) (lo hi : OM) : EM := fun ls S => (m ls S).bind fun v S1 => (lo ls S1).bind fun l S2 => (hi ls S2).bind fun u S3 => fSl v l u S3
theorem tO_bind {σ : L2.St} {H : Hp} {ρ : List Addr} {S : Sto} {ls : Lo} {α : Type} {m : OM} {f : Option Int → Sto → Out α} {P : α → Sto → Prop} {Q : Option Int → Hp → Prop} (T : Stt G F ρ S ls σ H) (h : ((m ls S).bind f).Sat P (PostX G F W ρ H))
    (k : ∀ v S' ρ' H', (f v S').Sat P (PostX G F W ρ' H') → Ext ρ H ρ' H' → Stt G F ρ' S' ls σ H' → Q v H') : tO G F W m σ H Q := by
  refine ⟨ρ, S, ls, T, Out.sat_mono (fun v S' q ρ' H' y T' => ?_) (fun _ _ _ q => q) (Out.sat_bind.mp h)⟩
  exact k v S' ρ' H' (Out.sat_mono (fun _ _ z => z) (fun _ _ _ z => z.ext y) q) y T'
theorem me_slice {lo hi : Option Expr} {ml mh : OM} {p2 : Pos} (hk : X.K = G.K) (ha : PE X a (tE G (fm X) W ma)) (hl : PO X lo (tO G (fm X) W ml)) (hh : PO X hi (tO G (fm X) W mh)) : PE X (.Subscript a (.Slice lo hi none p2) pos) (tE G (fm X) W (mSl ma ml mh)) := by
  refine PE_imp (pe_slice sl_B ha hl hh) fun σ H Q ⟨ρ, S, ls, T, h⟩ => ?_
  refine tE_bind T h fun v S1 ρ1 H1 x h1 x1 T1 r1 => ?_
  refine tO_bind T1 h1 fun l S2 ρ2 H2 h2 x2 T2 => ?_
  refine tO_bind T2 h2 fun u S3 ρ3 H3 h3 x3 T3 => ?_
  have r3 := (r1.mono x2 v).mono x3 v
  have xx := x1.trans (x2.trans x3)
  unfold fSl at h3
  split at h3
  · rename_i s
    cases q : Nat.ble s.length 10000000 with
    | false => rw [q] at h3; exact h3.elim
    | true =>
      rw [q] at h3
      unfold RV at r3
      subst r3
      refine .inr (.inr ⟨toS s, rfl, by rw [toS_len]; exact Nat.le_trans (Nat.le_of_ble_eq_true q) (by rw [sizeLine_eq]; decide), h3 ρ3 H3 xx T3 _ ?_⟩)
      unfold RV
      show V.str (cutS (toS s) l u) = V.str (toS (cutG s l u))
      unfold cutS cutG
      rw [toS_len]
      rfl
  · rename_i ys
    unfold RV at r3
    obtain ⟨p, ws, rfl, s, rs⟩ := r3
    refine .inr (.inl ⟨p, ws, rfl, by rw [hk]; exact s, fun hw => ?_, fun _ q hq => ?_⟩)
    · refine h3 ρ3 H3 xx T3 _ ?_
      unfold RV
      refine ⟨p, ws, rfl, s, ?_⟩
      have e : cutG ys l u = ys := by
        unfold cutG
        rw [RVs_len rs] at hw
        rw [hw.1, hw.2]
        simp
      rw [e]
      exact rs
    · obtain ⟨T4, x4⟩ := T3.side (o := .tup (cutV ws l u)) hq
      refine h3 ρ3 _ (xx.trans x4) T4 _ ?_
      unfold RV
      exact ⟨q, _, rfl, SqT.of upd_same, (RVs_cut rs).mono x4 _⟩
  · cases q : seqOf S3 v with
    | none => simp only [q] at h3; exact h3.elim
    | some ys =>
      simp only [q] at h3
      obtain ⟨p, ws, rfl, rs, k⟩ := seqOf_ok T3 r3 q
      rcases k with ⟨_, _, _, _, e⟩ | ⟨e, _⟩
      · refine .inl ⟨p, ws, rfl, SqL.of e, fun l' hl' => ?_⟩
        obtain ⟨_, k2⟩ := newL_ok (Q := Q) T3 (RVs_cut (lo := l) (hi := u) rs) h3
        obtain ⟨ρ', S', T4, x4, q4, r4⟩ := k2 l' hl'
        exact q4 ρ' _ (xx.trans x4) T4 _ r4
      · subst e
        rename_i hno1 hno2
        exact (hno2 _ rfl).elim
/-! methods of lists -/
def isL (x : AV) (S : Sto) : Bool := match x with
  | .ref i => match S.get i with
    | some (.lst _) => true
    | _ => false
  | _ => false
theorem isL_ok : TypS G F "list" isL := fun ρ S ls σ H x v T r h => by
  unfold isL at h
  split at h
  · rename_i i
    unfold RV at r
    obtain ⟨p, hp, rfl⟩ := r
    cases q : S.get i with
    | none => simp only [q] at h; cases h
    | some o =>
      have ob := T.rel.obj i p o hp q
      cases o with
      | lst ys => obtain ⟨ws, e, _⟩ := ob; exact .inl ⟨rfl, ws, SqL.of e⟩
      | _ => simp only [q] at h; cases h
  · cases h
def setLst (i : Nat) (xs : List AV) (v : AV) (S : Sto) : Out AV := match lenOk xs with
  | true => .ok v (S.put i (.lst xs))
  | false => .bad
/-- list i is written anew -/
theorem putL {ρ : List Addr} {S : Sto} {ls : Lo} {σ : L2.St} {H : Hp} {i : Nat} {p : Addr} {xs ys : List AV} {vs ws : List V} (T : Stt G F ρ S ls σ H) (hi : ρ[i]? = some p) (hg : S.get i = some (.lst xs)) (e : H p = some (.lst vs)) (rs : RVs G ρ H ys ws) :
    Stt G F ρ (S.put i (.lst ys)) ls σ (upd H p (.lst ws)) ∧ Ext ρ H ρ (upd H p (.lst ws)) :=
  T.upd hi hg e (fun z => z) (fun _ z => by cases z) rfl rfl fun x => ⟨ws, upd_same, rs.mono x ys⟩
theorem RVs_app {ρ : List Addr} {H : Hp} : ∀ {xs ys : List AV} {vs ws : List V}, RVs G ρ H xs vs → RVs G ρ H ys ws → RVs G ρ H (xs ++ ys) (vs ++ ws)
  | [], _, _, _, r, q => by rw [rvs0 r]; exact q
  | x :: xs, ys, vs, ws, r, q => by
    unfold RVs at r
    obtain ⟨v, us, rfl, rv, rs⟩ := r
    simp only [List.cons_append]
    unfold RVs
    exact ⟨v, _, rfl, rv, RVs_app rs q⟩
theorem RVs_one {ρ : List Addr} {H : Hp} {x : AV} {v : V} (r : RV G ρ H x v) : RVs G ρ H [x] [v] := by
  unfold RVs
  exact ⟨v, [], rfl, r, by unfold RVs; rfl⟩
def fAppend (x : AV) (as : List AV) (S : Sto) : Out AV := match x, as with
  | .ref i, [a] => match S.get i with
    | some (.lst xs) => setLst i (xs ++ [a]) .non S
    | _ => .bad
  | _, _ => .bad
theorem ms_append : MethS G F W "list" rAppend fAppend := fun ρ S ls σ H x xs v vs Q T r rs h => by
  unfold fAppend at h
  split at h
  · rename_i i a
    obtain ⟨w, rfl, rw_⟩ := rvs1 rs
    unfold RV at r
    obtain ⟨p, hp, rfl⟩ := r
    cases q : S.get i with
    | none => simp only [q] at h; exact h.elim
    | some o =>
      have ob := T.rel.obj i p o hp q
      cases o with
      | lst ys =>
        simp only [q, setLst] at h
        obtain ⟨ws, e, r2⟩ := ob
        cases q2 : lenOk (ys ++ [a]) with
        | false => rw [q2] at h; exact h.elim
        | true =>
          rw [q2] at h
          have rr := RVs_app r2 (RVs_one rw_)
          have := lenOk_le q2 rr
          rw [List.length_append, List.length_singleton] at this
          obtain ⟨T2, x2⟩ := putL T hp q e rr
          exact ⟨p, ws, w, rfl, rfl, e, by omega, h ρ _ x2 T2 _ rv_non⟩
      | _ => simp only [q] at h; exact h.elim
  · exact h.elim
def popG : List AV → Option (AV × List AV)
  | [] => none
  | x :: r => match popG r with
    | none => some (x, [])
    | some (y, q) => some (y, x :: q)
theorem popG_ok : ∀ {xs : List AV} {y : AV} {q : List AV}, popG xs = some (y, q) → xs[xs.length - 1]? = some y ∧ xs.dropLast = q
  | [], y, q, h => by cases h
  | [x], y, q, h => by cases h; exact ⟨rfl, rfl⟩
  | x :: z :: r, y, q, h => by
    unfold popG at h
    cases e : popG (z :: r) with
    | none =>
      unfold popG at e
      cases e2 : popG r with
      | none => simp only [e2] at e; cases e
      | some p => simp only [e2] at e; cases e
    | some p =>
      obtain ⟨y', q'⟩ := p
      simp only [e] at h
      cases h
      obtain ⟨h1, h2⟩ := popG_ok e
      refine ⟨?_, by rw [List.dropLast_cons₂, h2]⟩
      have : (x :: z :: r).length - 1 = ((z :: r).length - 1) + 1 := by simp
      rw [this, List.getElem?_cons_succ]
      exact h1
theorem RVs_init {ρ : List Addr} {H : Hp} : ∀ {xs : List AV} {vs : List V}, RVs G ρ H xs vs → RVs G ρ H xs.dropLast vs.dropLast
  | [], vs, r => by rw [rvs0 r]; exact (by unfold RVs; rfl)
  | [x], vs, r => by obtain ⟨v, rfl, _⟩ := rvs1 r; exact (by unfold RVs; rfl)
  | x :: y :: xs, vs, r => by
    unfold RVs at r
    obtain ⟨v, ws, rfl, rv, rs⟩ := r
    have h := RVs_init rs
    unfold RVs at rs
    obtain ⟨w, us, rfl, rw_, rs2⟩ := rs
    rw [List.dropLast_cons₂, List.dropLast_cons₂]
    unfold RVs
    exact ⟨v, _, rfl, rv, h⟩
def fPop (x : AV) (as : List AV) (S : Sto) : Out AV := match x, as with
  | .ref i, [] => match S.get i with
    | some (.lst xs) => match popG xs with
      | some (y, q) => .ok y (S.put i (.lst q))
      | none => .bad
    | _ => .bad
  | _, _ => .bad
theorem ms_pop : MethS G F W "list" rPop fPop := fun ρ S ls σ H x xs v vs Q T r rs h => by
  unfold fPop at h
  split at h
  · rename_i i
    have e0 := rvs0 rs
    subst e0
    unfold RV at r
    obtain ⟨p, hp, rfl⟩ := r
    cases q : S.get i with
    | none => simp only [q] at h; exact h.elim
    | some o =>
      have ob := T.rel.obj i p o hp q
      cases o with
      | lst ys =>
        simp only [q] at h
        obtain ⟨ws, e, r2⟩ := ob
        cases q2 : popG ys with
        | none => simp only [q2] at h; exact h.elim
        | some pq =>
          obtain ⟨y, qs⟩ := pq
          simp only [q2] at h
          obtain ⟨g1, g2⟩ := popG_ok q2
          obtain ⟨w, hw, rw_⟩ := RVs_get r2 g1
          have r3 := RVs_init r2
          rw [g2] at r3
          obtain ⟨T2, x2⟩ := putL T hp q e r3
          exact ⟨p, ws, w, rfl, rfl, e, by rw [RVs_len r2]; exact hw, h ρ _ x2 T2 _ (rw_.mono x2 y)⟩
      | _ => simp only [q] at h; exact h.elim
  · exact h.elim
end
end Sh

end

section
namespace Sh
open PySem PySem.Spec PyProof.Rows L2
section
variable {X : Cx} {G : Gd} {W : WX} {F : Fm} {ma mb : EM} {a b e iter tg : Expr} {es : List Expr} {st : Stmt} {rest body : List Stmt} {pos : Pos}
/-! ### what cannot be reached here -/
def mBad : EM := fun _ _ => .bad
def mBadS : SM := fun _ _ => .bad
theorem me_bad : PE X e (tE G F W mBad) := ⟨fun _ _ _ _ _ _ ⟨_, _, _, _, h⟩ => h.elim⟩
theorem ms_bad : PSs X rest (tS G F W mBadS) := ⟨fun _ _ _ _ _ _ ⟨_, _, _, _, h⟩ => h.elim⟩
theorem ma_bad {m : AM} : PA X es (tA G F W fun _ _ => .bad) := ⟨fun _ _ _ _ _ _ _ ⟨_, _, _, _, h⟩ => h.elim⟩
/-! ### sequences -/
def mNx : SM := fun ls S => .ok (.nx, ls) S
def mSeq (m n : SM) : SM := fun ls S => (m ls S).bind fun r S1 => match r.1 with
  | .nx => n r.2 S1
  | .br => .ok r S1
  | .ct => .ok r S1
  | .rt _ => .ok r S1
theorem ms_nil : PSs X [] (tS G (fm X) W mNx) := PSs_imp pss_nil fun D σ H ⟨ρ, S, ls, T, h⟩ => h ρ H σ (Ext.refl _ _) T
theorem PostS.ext {D : Ends} {ρ ρ' : List Addr} {H H' : Hp} (x : Ext ρ H ρ' H') {r : Fl × Lo} {S : Sto} (h : PostS G F ρ H D r S) : PostS G F ρ' H' D r S := fun ρ2 H2 σ2 y => h ρ2 H2 σ2 (x.trans y)
theorem ms_cons {m n : SM} (h1 : PS X st (tS G (fm X) W m)) (h2 : PSs X rest (tS G (fm X) W n)) : PSs X (st :: rest) (tS G (fm X) W (mSeq m n)) := by
  refine PSs_imp (pss_cons h1 h2) fun D σ H ⟨ρ, S, ls, T, h⟩ => ?_
  refine ⟨ρ, S, ls, T, Out.sat_mono (fun r S1 q ρ1 H1 σ1 x1 T1 => ?_) (fun _ _ _ q => q) (Out.sat_bind.mp h)⟩
  obtain ⟨f, l⟩ := r
  cases f with
  | nx => exact ⟨ρ1, S1, l, T1, Out.sat_mono (fun _ _ z => z.ext x1) (fun _ _ _ z => z.ext x1) q⟩
  | br => exact q ρ1 H1 σ1 x1 T1
  | ct => exact q ρ1 H1 σ1 x1 T1
  | rt v => exact q ρ1 H1 σ1 x1 T1
theorem ms_one {m : SM} (h1 : PS X st (tS G (fm X) W m)) : PSs X [st] (tS G (fm X) W m) := PSs_imp (pss_one h1) fun _ _ _ h => h
/-! ### simple statements -/
def mRet (m : EM) : SM := fun ls S => (m ls S).bind fun v S1 => .ok (.rt v, ls) S1
theorem ms_ret (ha : PE X a (tE G (fm X) W ma)) : PS X (.Return (some a) pos) (tS G (fm X) W (mRet ma)) := PS_imp (ps_ret ha) fun D σ H ⟨ρ, S, ls, T, h⟩ => by
  refine tE_bind T h fun v S1 ρ1 H1 x h1 x1 T1 r1 => ?_
  exact h1 ρ1 H1 σ x1 T1 x r1
def mRetN : SM := fun ls S => .ok (.rt .non, ls) S
theorem ms_retN : PS X (.Return none pos) (tS G (fm X) W mRetN) := PS_imp ps_retN fun D σ H ⟨ρ, S, ls, T, h⟩ => h ρ H σ (Ext.refl _ _) T _ rv_non
def mExpr (m : EM) : SM := fun ls S => (m ls S).bind fun v S1 => .ok (.nx, ls) S1
theorem ms_expr (ha : PE X a (tE G (fm X) W ma)) (hs : swapsWith a none pos.line X.env = pure false := by rfl) : PS X (.Expr a pos) (tS G (fm X) W (mExpr ma)) := PS_imp (ps_expr ha hs) fun D σ H ⟨ρ, S, ls, T, h⟩ => by
  refine tE_bind T h fun v S1 ρ1 H1 x h1 x1 T1 r1 => ?_
  exact h1 ρ1 H1 σ x1 T1
def mIfS (t : TM) (m n : SM) : SM := fun ls S => (t ls S).bind fun k S1 => match k with
  | true => m ls S1
  | false => n ls S1
theorem ms_if {t : TM} {m n : SM} {c : Expr} {A B : List Stmt} (hc : PT X c (tT G (fm X) W t)) (ha : PSs X A (tS G (fm X) W m)) (hb : PSs X B (tS G (fm X) W n)) : PS X (.If c A B pos) (tS G (fm X) W (mIfS t m n)) := by
  refine PS_imp (ps_if hc ha hb) fun D σ H ⟨ρ, S, ls, T, h⟩ => ?_
  refine tT_bind T h fun v S1 ρ1 H1 h1 x1 T1 => ?_
  cases v with
  | true => exact iteT ⟨ρ1, S1, ls, T1, Out.sat_mono (fun _ _ z => z.ext x1) (fun _ _ _ z => z) h1⟩
  | false => exact iteF ⟨ρ1, S1, ls, T1, Out.sat_mono (fun _ _ z => z.ext x1) (fun _ _ _ z => z) h1⟩
def mBrk : SM := fun ls S => .ok (.br, ls) S
theorem ms_brk : PS X (.Break pos) (tS G (fm X) W mBrk) := PS_imp ps_break fun D σ H ⟨ρ, S, ls, T, h⟩ => h ρ H σ (Ext.refl _ _) T
/-! ### targets -/
abbrev GM := AV → Lo → Sto → Out Lo
abbrev GsM := List AV → Lo → Sto → Out Lo
def PostG (G : Gd) (F : Fm) (ρ : List Addr) (H : Hp) (Q : L2.St → Hp → Prop) : Lo → Sto → Prop := fun L S' => ∀ ρ' H' σ', Ext ρ H ρ' H' → Stt G F ρ' S' L σ' H' → Q σ' H'
def tGm (G : Gd) (F : Fm) (g : GM) : TG := fun v σ H Q => ∃ ρ S ls a, Stt G F ρ S ls σ H ∧ RV G ρ H a v ∧ (g a ls S).Sat (PostG G F ρ H Q) (fun _ _ _ => False)
def tGs (G : Gd) (F : Fm) (g : GsM) : TGs := fun vs σ H Q => ∃ ρ S ls as, Stt G F ρ S ls σ H ∧ RVs G ρ H as vs ∧ (g as ls S).Sat (PostG G F ρ H Q) (fun _ _ _ => False)
theorem PG_imp {t t' : TG} (h : PG X e t) (i : ∀ v σ H Q, t' v σ H Q → t v σ H Q) : PG X e t' := ⟨fun pins s σ H v u Q I r q => h.run pins s σ H v u Q I r (i v σ H Q q)⟩
theorem PGs_imp {t t' : TGs} (h : PGs X es t) (i : ∀ v σ H Q, t' v σ H Q → t v σ H Q) : PGs X es t' := ⟨fun pins s σ H v u Q I r q => h.run pins s σ H v u Q I r (i v σ H Q q)⟩
def isC : LV → Bool
  | .c _ => true
  | _ => false
def gSet (i : Nat) : GM := fun a ls S => match Nat.blt i ls.length, isC (nth ls i) with
  | true, false => .ok (setL ls i (.v a)) S
  | _, _ => .bad
theorem mg_name (i : Nat) {x : Str} (hN : X.N.Nodup) (hi : X.N[i]? = some x) (hx : Loc X.env.scope x) (hf : X.fn x = true ∨ X.env.scope.names.lookup x = some .local := by first | exact .inl rfl | exact .inr rfl | assumption) : PG X (.Name x pos) (tGm G (fm X) (gSet i)) := by
  refine PG_imp (pg_name hN hi hx hf) fun v σ H Q ⟨ρ, S, ls, a, T, r, h⟩ => ?_
  unfold gSet at h
  cases q : Nat.blt i ls.length with
  | false => rw [q] at h; exact h.elim
  | true =>
    cases q2 : isC (nth ls i) with
    | true => rw [q, q2] at h; exact h.elim
    | false =>
      rw [q, q2] at h
      exact h ρ H _ (Ext.refl _ _) (T.set (Nat.le_of_ble_eq_true q) (fun k z => by rw [z] at q2; cases q2) r)
def gsNil : GsM := fun as ls S => match as with
  | [] => .ok ls S
  | _ => .bad
def gsCons (g : GM) (r : GsM) : GsM := fun as ls S => match as with
  | a :: q => (g a ls S).bind fun l S1 => r q l S1
  | [] => .bad
theorem mgs_nil : PGs X [] (tGs G (fm X) gsNil) := PGs_imp pgs_nil fun vs σ H Q ⟨ρ, S, ls, as, T, r, h⟩ => by
  unfold gsNil at h
  split at h
  · exact ⟨rvs0 r, h ρ H σ (Ext.refl _ _) T⟩
  · exact h.elim
theorem mgs_cons {g : GM} {gr : GsM} (h1 : PG X e (tGm G (fm X) g)) (h2 : PGs X es (tGs G (fm X) gr)) (hs : ∀ {t : TG} {u : TGs}, PG X e t → PGs X es u → PGs X (e :: es) (gCons t u)) : PGs X (e :: es) (tGs G (fm X) (gsCons g gr)) := by
  refine PGs_imp (hs h1 h2) fun vs σ H Q ⟨ρ, S, ls, as, T, r, h⟩ => ?_
  unfold gsCons at h
  split at h
  · rename_i a q
    unfold RVs at r
    obtain ⟨v, ws, rfl, rvA, rs⟩ := r
    refine ⟨v, ws, rfl, ρ, S, ls, a, T, rvA, Out.sat_mono (fun l S1 z ρ1 H1 σ1 x1 T1 => ?_) (fun _ _ _ z => z) (Out.sat_bind.mp h)⟩
    exact ⟨ρ1, S1, l, q, T1, rs.mono x1 q, Out.sat_mono (fun _ _ y ρ2 H2 σ2 x2 => y ρ2 H2 σ2 (x1.trans x2)) (fun _ _ _ z => z) z⟩
  · exact h.elim
def gTupM (n : Nat) (g : GsM) : GM := fun a ls S => match a with
  | .tup xs => match Nat.beq xs.length n with
    | true => g xs ls S
    | false => .bad
  | _ => .bad
theorem mg_tup {g : GsM} {k : Nat} (n : Nat) (hk : X.K = G.K) (hc : X.calm = true) (h : PGs X es (tGs G (fm X) g)) (hn : (assignEach es X.env).length = n := by rfl) (hst : (assignEach es X.env).findIdx? (·.1) = none := by rfl) :
    PG X (.Tuple es k pos) (tGm G (fm X) (gTupM n g)) := by
  refine PG_imp (pg_tup hc h hn hst) fun v σ H Q ⟨ρ, S, ls, a, T, r, h⟩ => ?_
  unfold gTupM at h
  split at h
  · rename_i xs
    unfold RV at r
    obtain ⟨isS, ws, rfl, s, rs⟩ := r
    cases q : Nat.beq xs.length n with
    | false => rw [q] at h; exact h.elim
    | true =>
      rw [q] at h
      exact ⟨isS, ws, rfl, by rw [hk]; exact s, (RVs_len rs).trans (Nat.eq_of_beq_eq_true q), ρ, S, ls, xs, T, rs, h⟩
  · exact h.elim
def mAsg (m : EM) (g : GM) : SM := fun ls S => (m ls S).bind fun v S1 => noX ((g v ls S1).bind fun l S2 => .ok (.nx, l) S2)
where noX : Out (Fl × Lo) → Out (Fl × Lo)
  | .ok a S => .ok a S
  | _ => .bad
theorem noX_sat {m : Out (Fl × Lo)} {P : Fl × Lo → Sto → Prop} {E E' : AE → Lo → Sto → Prop} (h : (mAsg.noX m).Sat P E) : m.Sat P E' := by
  cases m with
  | ok a S => exact h
  | _ => exact h.elim
theorem ms_asg {g : GM} (ha : PE X a (tE G (fm X) W ma)) (hg : PG X tg (tGm G (fm X) g)) (hs : swapsWithSole [tg] a pos.line X.env = pure false := by rfl) (hw : swappedStores [tg] a X.env = pure none := by rfl)
    (h1 : (assignEach [tg] X.env).map (·.2) = [assign tg X.env] := by rfl) : PS X (.Assign [tg] a pos) (tS G (fm X) W (mAsg ma g)) := by
  refine PS_imp (ps_asg ha hg hs hw h1) fun D σ H ⟨ρ, S, ls, T, h⟩ => ?_
  refine tE_bind T h fun v S1 ρ1 H1 x h1 x1 T1 r1 => ?_
  refine ⟨ρ1, S1, ls, v, T1, r1, Out.sat_mono (fun l S2 z ρ2 H2 σ2 x2 T2 => ?_) (fun _ _ _ z => z) (Out.sat_bind.mp (noX_sat (E' := fun _ _ _ => False) h1))⟩
  exact z ρ2 H2 σ2 (x1.trans x2) T2
theorem ms_set (i : Nat) {x : Str} {pos' : Pos} (hN : X.N.Nodup) (hi : X.N[i]? = some x) (hx : Loc X.env.scope x) (ha : PE X a (tE G (fm X) W ma)) (hs : swapsWith a (some (.Name x pos')) pos.line X.env = pure false := by rfl) (hf : X.fn x = true ∨ X.env.scope.names.lookup x = some .local := by first | exact .inl rfl | exact .inr rfl | assumption) :
    PS X (.Assign [.Name x pos'] a pos) (tS G (fm X) W (mAsg ma (gSet i))) := by
  refine PS_imp (ps_set hN hi hx ha hs hf) fun D σ H ⟨ρ, S, ls, T, h⟩ => ?_
  refine tE_bind T h fun v S1 ρ1 H1 x h1 x1 T1 r1 => ?_
  unfold gSet at h1
  cases q : Nat.blt i ls.length with
  | false => rw [q] at h1; exact h1.elim
  | true =>
    cases q2 : isC (nth ls i) with
    | true => rw [q, q2] at h1; exact h1.elim
    | false =>
      rw [q, q2] at h1
      exact h1 ρ1 H1 _ x1 (T1.set (Nat.le_of_ble_eq_true q) (fun k z => by rw [z] at q2; cases q2) r1)
/-! ### iterators -/
inductive IT where
  | l (i : Nat) | t (xs : List AV) | s (xs : List Nat) | zl (i j : Nat) | zt (xs ys : List AV) | zs (xs : List Nat) (ys : List AV)
def at? {α : Type} : List α → Nat → Option α
  | [], _ => none
  | x :: _, 0 => some x
  | _ :: r, i + 1 => at? r i
theorem at?_eq {α : Type} : ∀ (l : List α) (i : Nat), at? l i = l[i]?
  | [], _ => rfl
  | _ :: _, 0 => rfl
  | _ :: r, i + 1 => by simp [at?, at?_eq r i]
def zip2 {α β : Type} (f : α → β → AV) (x : Option α) (y : Option β) : Option AV := match x, y with
  | some a, some b =>
      some (f a b)
  | _, _ => none
def lstAt (S : Sto) (i : Nat) : Option (List AV) := match S.get i with
  | some (.lst xs) => some xs
  | _ => none
def nxt (I : IT) (k : Nat) (S : Sto) : Option (Option AV) := match I with
  | .l i => match lstAt S i with
    | some xs => some (at? xs k)
    | none => none
  | .t xs => some (at? xs k)
  | .s xs => match at? xs k with
    | some c => some (some (.str [c]))
    | none => some none
  | .zl i j => match lstAt S i, lstAt S j with
    | some xs, some ys => some (zip2 (fun a b => .tup [a, b]) (at? xs k) (at? ys k))
    | _, _ => none
  | .zt xs ys => some (zip2 (fun a b => .tup [a, b]) (at? xs k) (at? ys k))
  | .zs xs ys => match Nat.ble k xs.length, Nat.ble k ys.length with
    | true, true => some (zip2 (fun a b => .tup [.str [a], b]) (at? xs k) (at? ys k))
    | _, _ => none
def RI (G : Gd) (F : Fm) (I : IT) (J : It) (ρ : List Addr) (H : Hp) : Prop := ∀ (ρ' : List Addr) (H' : Hp) (S : Sto) (ls : Lo) (σ : L2.St) (k : Nat), Ext ρ H ρ' H' → Stt G F ρ' S ls σ H' →
  (nxt I k S = some none → J.stop k H') ∧ ∀ v, nxt I k S = some (some v) → J.go k H' ∧ ∀ x H2, J.yld k H' x H2 → ∃ ρ2, Ext ρ' H' ρ2 H2 ∧ Stt G F ρ2 S ls σ H2 ∧ RV G ρ2 H2 v x
theorem RI.mono {I : IT} {J : It} {ρ ρ' : List Addr} {H H' : Hp} (x : Ext ρ H ρ' H') (h : RI G F I J ρ H) : RI G F I J ρ' H' := fun ρ2 H2 S ls σ k y => h ρ2 H2 S ls σ k (x.trans y)
abbrev IM := Lo → Sto → Out IT
def PostI (G : Gd) (F : Fm) (ρ : List Addr) (ls : Lo) (σ : L2.St) (H : Hp) (R : It → Hp → Prop) : IT → Sto → Prop := fun I S' => ∀ ρ' H' J, Ext ρ H ρ' H' → Stt G F ρ' S' ls σ H' → RI G F I J ρ' H' → R J H'
def tI (G : Gd) (F : Fm) (W : WX) (m : IM) : TI := fun σ H R => ∃ ρ S ls, Stt G F ρ S ls σ H ∧ (m ls S).Sat (PostI G F ρ ls σ H R) (PostX G F W ρ H)
theorem PI_imp {wi wi' : TI} (h : PI X tg iter wi) (i : ∀ σ H R, wi' σ H R → wi σ H R) : PI X tg iter wi' := ⟨fun pins s σ H R I q => h.run pins s σ H R I (i σ H R q)⟩
/-- over a list, a tuple, a text -/
def iAny (K : PySem.W.Frag) (tl : TE) : TI := fun σ H R => tl σ H fun x H1 => (∃ a, x = .ref a ∧ (∃ xs, SqL K H1 a xs) ∧ R (Itl K a) H1) ∨ (∃ a, x = .ref a ∧ (∃ xs, SqT K H1 a xs) ∧ R (Itt K a) H1) ∨ (∃ z, x = .str z ∧ R (Its z) H1)
theorem pi_any {l : Expr} {tl : TE} (hl : PE X l tl) : PI X tg l (iAny X.K tl) := by
  have hf : PE X l tl := hl
  refine ⟨fun pins s σ H R I h =>
      ?_⟩
  refine thn (hl.run pins s σ H _ I h) fun v s1 ⟨x, H1, I1, r1, got⟩ => ?_
  have he : ∀ (E : Value → Shared → Prop), wpAny (model X.prog X.w) X.A (pure v : Sem Value) (EP X pins σ fun y H => y = x ∧ H = H1) E s1 := fun E => wpAny_pure ⟨x, H1, I1, r1, rfl, rfl⟩
  rcases got with ⟨a, rfl, ⟨xs, hq⟩, q⟩ | ⟨a, rfl, ⟨xs, hq⟩, q⟩ | ⟨z, rfl, q⟩
  · cases r1
    obtain ⟨elA, rvA, isS, atZ⟩ := I1.list hq
    refine wpAny_pyIter_list isS.isList ?_
    refine pi_one (tk := s1.toks) I1 _ (turn_list a _) ⟨_, Heap.get?_push_size _ rfl, rfl, rfl⟩ q
  · cases r1
    obtain ⟨elA, rvA, isS, atZ⟩ := I1.tuple hq
    refine wpAny_pyIter_tuple (show s1.heap.IsTuple a elA.toArray from isS) ?_
    refine pi_one (tk := s1.toks) I1 _ (turn_tuple a _) ⟨_, Heap.get?_push_size _ rfl, rfl, rfl⟩ q
  · obtain ⟨t, rfl⟩ := r1
    cases ha : z.cps.all (· < 128)
    · exact wpAny_pyIter_wide ha (pi_one (tk := s1.toks) I1 _ (turn_str _ z t "str_iterator" (.inr rfl)) ⟨_, Heap.get?_push_size _ rfl, rfl, rfl⟩ q)
    · exact wpAny_pyIter_ascii ha (pi_one (tk := s1.toks) I1 _ (turn_str _ z t "str_ascii_iterator" (.inl rfl)) ⟨_, Heap.get?_push_size _ rfl, rfl, rfl⟩ q)
def itOf (S : Sto) : AV → Option IT
  | .tup xs => some (.t xs)
  | .str s => some (.s s)
  | .ref i => match lstAt S i with
    | some _ => some (.l i)
    | none => none
  | _ => none
theorem lstAt_eq {S : Sto} {i : Nat} {xs : List AV} (h : lstAt S i = some xs) : S.get i = some (.lst xs) := by
  unfold lstAt at h
  split at h
  · rename_i e; cases h; exact e
  · cases h
theorem lst_of {ρ : List Addr} {S : Sto} {ls : Lo} {σ : L2.St} {H : Hp} {i : Nat} {isS : Addr} {xs : List AV} (T : Stt G F ρ S ls σ H) (hp : ρ[i]? = some isS) (h : lstAt S i = some xs) : ∃ vs, H isS = some (.lst vs) ∧ RVs G ρ H xs vs := T.rel.obj i isS _ hp (lstAt_eq h)
theorem ri_l {ρ : List Addr} {H : Hp} {i : Nat} {isS : Addr} (hp : ρ[i]? = some isS) : RI G F (.l i) (Itl G.K isS) ρ H := fun ρ' H' S ls σ k x T => by
  have hp' := x.at hp
  cases q : lstAt S i with
  | none => exact ⟨fun z => (by simp only [nxt, q] at z; cases z), fun v z => (by simp only [nxt, q] at z; cases z)⟩
  | some xs =>
    obtain ⟨vs, e, rs⟩ := lst_of T hp' q
    refine ⟨fun z => ?_, fun v z => ?_⟩
    · simp only [nxt, q, at?_eq] at z
      refine ⟨vs, SqL.of e, ?_⟩
      rw [RVs_len rs]
      exact List.getElem?_eq_none_iff.mp (Option.some.inj z)
    · simp only [nxt, q, at?_eq] at z
      obtain ⟨y, hy, ry⟩ := RVs_get rs (Option.some.inj z)
      refine ⟨⟨vs, y, SqL.of e, hy⟩, fun y' H2 ⟨e2, h2⟩ => ?_⟩
      subst e2
      have := h2 vs (SqL.of e)
      rw [hy] at this
      cases this
      exact ⟨ρ', Ext.refl _ _, T, ry⟩
theorem ri_t {ρ : List Addr} {H : Hp} {xs : List AV} {isS : Addr} {vs : List V} (s : SqT G.K H isS vs) (rs : RVs G ρ H xs vs) : RI G F (.t xs) (Itt G.K isS) ρ H := fun ρ' H' S ls σ k x T => by
  have s' := x.sqT s
  have rs' := rs.mono x xs
  refine ⟨fun z => ?_, fun v z => ?_⟩
  · simp only [nxt, at?_eq] at z
    refine ⟨vs, s', ?_⟩
    rw [RVs_len rs]
    exact List.getElem?_eq_none_iff.mp (Option.some.inj z)
  · simp only [nxt, at?_eq] at z
    obtain ⟨y, hy, ry⟩ := RVs_get rs' (Option.some.inj z)
    refine ⟨⟨vs, y, s', hy⟩, fun y' H2 ⟨e2, h2⟩ => ?_⟩
    subst e2
    have := h2 vs s'
    rw [hy] at this
    cases this
    exact ⟨ρ', Ext.refl _ _, T, ry⟩
theorem ri_s {ρ : List Addr} {H : Hp} {xs : List Nat} : RI G F (.s xs) (Its (toS xs)) ρ H := fun ρ' H' S ls σ k x T => by
  have e : ∀ k : Nat, (toS xs).cps[k]? = xs[k]? := fun k => by simp [toS]
  have e2 : (toS xs).cps.size = xs.length := by simp [toS]
  refine ⟨fun z => ?_, fun v z => ?_⟩
  · simp only [nxt, at?_eq] at z
    cases q : xs[k]? with
    | none => show (toS xs).cps.size ≤ k; rw [e2]; exact List.getElem?_eq_none_iff.mp q
    | some c => simp only [q] at z; cases z
  · simp only [nxt, at?_eq] at z
    cases q : xs[k]? with
    | none => simp only [q] at z; cases z
    | some c =>
      simp only [q] at z
      cases z
      refine ⟨by show k < (toS xs).cps.size; rw [e2]; exact (List.getElem?_eq_some_iff.mp q).1, fun y H2 ⟨h1, c', h2, h3⟩ => ?_⟩
      subst h1
      rw [e, q] at h2
      cases h2
      exact ⟨ρ', Ext.refl _ _, T, by unfold RV; exact h3⟩
def mIt (m : EM) : IM := fun ls S => (m ls S).bind fun v S1 => match itOf S1 v with
  | some I => .ok I S1
  | none => .bad
theorem mi_any (hk : X.K = G.K) (ha : PE X a (tE G (fm X) W ma)) : PI X tg a (tI G (fm X) W (mIt ma)) := by
  refine PI_imp (pi_any ha) fun σ H R ⟨ρ, S, ls, T, h⟩ => ?_
  refine tE_bind T h fun v S1 ρ1 H1 x h1 x1 T1 r1 => ?_
  rw [hk]
  cases v with
  | tup xs =>
    unfold RV at r1
    obtain ⟨isS, ws, rfl, s, rs⟩ := r1
    exact .inr (.inl ⟨isS, rfl, ⟨ws, s⟩, h1 ρ1 H1 _ x1 T1 (ri_t s rs)⟩)
  | str s =>
    unfold RV at r1
    subst r1
    exact .inr (.inr ⟨_, rfl, h1 ρ1 H1 _ x1 T1 ri_s⟩)
  | ref i =>
    unfold RV at r1
    obtain ⟨isS, hp, rfl⟩ := r1
    unfold itOf at h1
    cases q : lstAt S1 i with
    | none => simp only [q] at h1; exact h1.elim
    | some xs =>
      simp only [q] at h1
      obtain ⟨vs, e, _⟩ := lst_of T1 hp q
      exact .inl ⟨isS, rfl, ⟨vs, SqL.of e⟩, h1 ρ1 H1 _ x1 T1 (ri_l hp)⟩
  | _ => exact h1.elim
/-! ### for -/
def loopF (g : GM) (body : SM) (I : IT) : Nat → Nat → Lo → Sto → Out (Fl × Lo)
  | 0, _, _, _ => .bad
  | f + 1, k, ls, S => match nxt I k S with
    | none => .bad
    | some none => .ok (.nx, ls) S
    | some (some v) => match g v ls S with
      | .ok l1 S1 => (body l1 S1).bind fun r S2 => match r.1 with
        | .nx => loopF g body I f (k + 1) r.2 S2
        | .ct => loopF g body I f (k + 1) r.2 S2
        | .br => .ok (.nx, r.2) S2
        | .rt v => .ok (.rt v, r.2) S2
      | _ => .bad
def fuel : Nat := 100000
def mFor (i : IM) (g : GM) (body : SM) : SM := fun ls S => (i ls S).bind fun I S1 => loopF g body I fuel 0 ls S1
theorem for_ok {g : GM} {mb : SM} {I : IT} {J : It} {D : Ends} {ρ0 : List Addr} {H0 : Hp} (ri : RI G F I J ρ0 H0) {ρ : List Addr} {S : Sto} {ls : Lo} {σ : L2.St} {H : Hp} {n : Nat} (x : Ext ρ0 H0 ρ H) (T : Stt G F ρ S ls σ H) (h : (loopF g mb I n 0 ls S).Sat (PostS G F ρ0 H0 D) (PostX G F W ρ0 H0)) :
    ∃ Wm : Nat → Nat → L2.St → Hp → Prop, (∃ m, Wm 0 m σ H) ∧ ∀ i m σ H, Wm i m σ H →
  (J.stop i H ∧ D.nx σ H) ∨ (J.go i H ∧ ∃ N : L2.St → Hp → Prop, (∀ σ' H', N σ' H' → ∃ m', m' < m ∧ Wm (i + 1) m' σ' H') ∧ ∀ x H', J.yld i H x H' → tGm G F g x σ H' fun σ2 H2 => tS G F W mb { D with nx := N, ct := N, bk := D.nx } σ2 H2) := by
  refine ⟨fun i m σ H => ∃ ρ S ls, Ext ρ0 H0 ρ H ∧ Stt G F ρ S ls σ H ∧ (loopF g mb I m i ls S).Sat (PostS G F ρ0 H0 D) (PostX G F W ρ0 H0), ⟨n, ρ, S, ls, x, T, h⟩, ?_⟩
  rintro i m σ1 H1 ⟨ρ1, S1, l1, x1, T1, h1⟩
  cases m with
  | zero => exact h1.elim
  | succ m =>
    obtain ⟨r1, r2⟩ := ri ρ1 H1 S1 l1 σ1 i x1 T1
    unfold loopF at h1
    cases q : nxt I i S1 with
    | none => rw [q] at h1; exact h1.elim
    | some o =>
      cases o with
      | none =>
        rw [q] at h1
        exact .inl ⟨r1 q, h1 ρ1 H1 σ1 x1 T1⟩
      | some v =>
        rw [q] at h1
        obtain ⟨go, yl⟩ := r2 v q
        refine .inr ⟨go, fun σ' H' => ∃ ρ S ls, Ext ρ0 H0 ρ H' ∧ Stt G F ρ S ls σ' H' ∧ (loopF g mb I m (i + 1) ls S).Sat (PostS G F ρ0 H0 D) (PostX G F W ρ0 H0), fun σ' H' n => ⟨m, Nat.lt_succ_self _, n⟩, fun y H2 hy => ?_⟩
        obtain ⟨ρ2, x2, T2, rvA⟩ := yl y H2 hy
        refine ⟨ρ2, S1, l1, v, T2, rvA, ?_⟩
        dsimp only at h1
        cases qg : g v l1 S1 with
        | ok l2 S2 =>
          rw [qg] at h1
          intro ρ3 H3 σ3 x3 T3
          refine ⟨ρ3, S2, l2, T3, Out.sat_mono (fun r S4 z ρ4 H4 σ4 x4 T4 => ?_) (fun _ _ _ z => z.ext (x1.trans (x2.trans x3))) (Out.sat_bind.mp h1)⟩
          have xx := x1.trans (x2.trans (x3.trans x4))
          obtain ⟨f, l4⟩ := r
          cases f with
          | nx => exact ⟨ρ4, S4, l4, xx, T4, z⟩
          | ct => exact ⟨ρ4, S4, l4, xx, T4, z⟩
          | br => exact z ρ4 H4 σ4 xx T4
          | rt w => exact z ρ4 H4 σ4 xx T4
        | _ => rw [qg] at h1; exact h1.elim
theorem ms_for {i : IM} {g : GM} {mb : SM} (hp : PassesOwn (model X.prog X.w) X.A X.env X.xe) (hc : X.calm = true) (hi : PI X tg iter (tI G (fm X) W i)) (hg : PG X tg (tGm G (fm X) g)) (hb : PSs X body (tS G (fm X) W mb))
    (hs : ∀ x, foldedSetIterable iter X.env x = pure x := by intro _; rfl) : PS X (.For tg iter body [] pos) (tS G (fm X) W (mFor i g mb)) := by
  refine PS_imp (ps_for hp hc hi hg hb hs) fun D σ H ⟨ρ, S, ls, T, h⟩ => ?_
  refine ⟨ρ, S, ls, T, Out.sat_mono (fun I S1 q ρ1 H1 J x1 T1 ri => ?_) (fun _ _ _ q => q) (Out.sat_bind.mp h)⟩
  exact for_ok ri (Ext.refl _ _) T1 (Out.sat_mono (fun _ _ z => z.ext x1) (fun _ _ _ z => z.ext x1) q)
/-! ### while -/
def loopW (t : TM) (body : SM) : Nat → Lo → Sto → Out (Fl × Lo)
  | 0, _, _ => .bad
  | f + 1, ls, S => (t ls S).bind fun k S1 => match k with
    | true => (body ls S1).bind fun r S2 => match r.1 with
      | .nx => loopW t body f r.2 S2
      | .ct => loopW t body f r.2 S2
      | .br => .ok (.nx, r.2) S2
      | .rt v => .ok (.rt v, r.2) S2
    | false => .ok (.nx, ls) S1
def mWhile (t : TM) (body : SM) : SM := fun ls S => loopW t body fuel ls S
theorem ms_while {c : Expr} {t : TM} {mb : SM} (hp : PassesOwn (model X.prog X.w) X.A X.env X.xe) (hc : PT X c (tT G (fm X) W t)) (hb : PSs X body (tS G (fm X) W mb)) : PS X (.While c body [] pos) (tS G (fm X) W (mWhile t mb)) := by
  refine PS_imp (ps_while hp hc hb) fun D σ0 H0 ⟨ρ0, S0, l0, T0, h0⟩ => ?_
  refine ⟨fun m σ H => ∃ ρ S ls, Ext ρ0 H0 ρ H ∧ Stt G (fm X) ρ S ls σ H ∧ (loopW t mb m ls S).Sat (PostS G (fm X) ρ0 H0 D) (PostX G (fm X) W ρ0 H0), ⟨fuel, ρ0, S0, l0, Ext.refl _ _, T0, h0⟩, ?_⟩
  rintro m σ H ⟨ρ, S, ls, x, T, h⟩
  cases m with
  | zero => exact h.elim
  | succ m =>
    unfold loopW at h
    refine ⟨ρ, S, ls, T, Out.sat_mono (fun v S1 h1 ρ1 H1 x1 T1 => ?_) (fun _ _ _ z => z.ext x) (Out.sat_bind.mp h)⟩
    cases v with
    | true =>
      refine iteT ⟨fun σ' H' => ∃ ρ S ls, Ext ρ0 H0 ρ H' ∧ Stt G (fm X) ρ S ls σ' H' ∧ (loopW t mb m ls S).Sat (PostS G (fm X) ρ0 H0 D) (PostX G (fm X) W ρ0 H0), fun σ' H' n => ⟨m, Nat.lt_succ_self _, n⟩, ?_⟩
      refine ⟨ρ1, S1, ls, T1, Out.sat_mono (fun r S4 z ρ4 H4 σ4 x4 T4 => ?_) (fun _ _ _ z => z.ext (x.trans x1)) (Out.sat_bind.mp h1)⟩
      have xx := x.trans (x1.trans x4)
      obtain ⟨f, l4⟩ := r
      cases f with
      | nx => exact ⟨ρ4, S4, l4, xx, T4, z⟩
      | ct => exact ⟨ρ4, S4, l4, xx, T4, z⟩
      | br => exact z ρ4 H4 σ4 xx T4
      | rt w => exact z ρ4 H4 σ4 xx T4
    | false => exact iteF (h1 ρ1 H1 σ (x.trans x1) T1)
end
end Sh

end

section
namespace Sh
open PySem PySem.Spec PyProof.Rows L2
section
variable {X : Cx} {G : Gd} {W : WX} {F : Fm} {ma mb : EM} {a b e iter tg : Expr} {es : List Expr} {pos : Pos}
/-! ### targets that store own names only -/
def PostGv (G : Gd) (F : Fm) (vs : List Nat) (ρ : List Addr) (σ : L2.St) (H : Hp) (Q : L2.St → Hp → Prop) : Lo → Sto → Prop := fun L S' => ∀ ρ' H' σ', Ext ρ H ρ' H' → Stt G F ρ' S' L σ' H' → wipe σ' vs = wipe σ vs → Q σ' H'
def tGv (G : Gd) (F : Fm) (vs : List Nat) (g : GM) : TG := fun v σ H Q => ∃ ρ S ls a, Stt G F ρ S ls σ H ∧ RV G ρ H a v ∧ (g a ls S).Sat (PostGv G F vs ρ σ H Q) (fun _ _ _ => False)
def tGsv (G : Gd) (F : Fm) (vs : List Nat) (g : GsM) : TGs := fun us σ H Q => ∃ ρ S ls as, Stt G F ρ S ls σ H ∧ RVs G ρ H as us ∧ (g as ls S).Sat (PostGv G F vs ρ σ H Q) (fun _ _ _ => False)
theorem wipe_set {i : Nat} {x : V} : ∀ {vs : List Nat} {σ : L2.St}, i ∈ vs → wipe (σ.set i (some x)) vs = wipe σ vs
  | [], _, h => by cases h
  | v :: vs, σ, h => by
    unfold wipe
    by_cases hi : i ∈ vs
    · rw [wipe_set hi]
    · have e : v = i := by
        rcases List.mem_cons.mp
            h with q | q
        · exact q.symm
        · exact absurd q hi
      subst e
      have comm : ∀ (vs : List Nat) (σ : L2.St), v ∉ vs → wipe (σ.set v (some x)) vs = (wipe σ vs).set v (some x) := by
        intro vs
        induction vs with
        | nil => intro σ _; rfl
        | cons w ws ih =>
          intro σ hn
          unfold wipe
          rw [ih σ (fun z => hn (List.mem_cons_of_mem _ z))]
          exact List.set_comm _ _ (fun z => hn (by rw [z]; exact List.mem_cons_self))
      rw [comm vs σ hi, List.set_set]
theorem mgv_name {vs : List Nat} (i : Nat) {x : Str} (hN : X.N.Nodup) (hi : X.N[i]? = some x) (hx : Loc X.env.scope x) (hv : i ∈ vs) (hf : X.fn x = true ∨ X.env.scope.names.lookup x = some .local := by first | exact .inl rfl | exact .inr rfl | assumption) : PG X (.Name x pos) (tGv G (fm X) vs (gSet i)) := by
  refine PG_imp (pg_name hN hi hx hf) fun v σ H Q ⟨ρ, S, ls, a, T, r, h⟩ => ?_
  unfold gSet at h
  cases q : Nat.blt i ls.length with
  | false => rw [q] at h; exact h.elim
  | true =>
    cases q2 : isC (nth ls i) with
    | true => rw [q, q2] at h; exact h.elim
    | false =>
      rw [q, q2] at h
      exact h ρ H _ (Ext.refl _ _) (T.set (Nat.le_of_ble_eq_true q) (fun k z => by rw [z] at q2; cases q2) r) (wipe_set hv)
theorem mgvs_nil {vs : List Nat} : PGs X [] (tGsv G (fm X) vs gsNil) := PGs_imp pgs_nil fun us σ H Q ⟨ρ, S, ls, as, T, r, h⟩ => by
  unfold gsNil at h
  split at h
  · exact ⟨rvs0 r, h ρ H σ (Ext.refl _ _) T rfl⟩
  · exact h.elim
theorem mgvs_cons {vs : List Nat} {g : GM} {gr : GsM} (h1 : PG X e (tGv G (fm X) vs g)) (h2 : PGs X es (tGsv G (fm X) vs gr)) (hs : (assignEach (e :: es) X.env).map (·.2) = assign e X.env :: (assignEach es X.env).map (·.2) := by rfl) : PGs X (e :: es) (tGsv G (fm X) vs (gsCons g gr)) := by
  refine PGs_imp (pgs_cons h1 h2 hs) fun us σ H Q ⟨ρ, S, ls, as, T, r, h⟩ => ?_
  unfold gsCons at h
  split at h
  · rename_i a q
    unfold RVs at r
    obtain ⟨v, ws, rfl, rv, rs⟩ := r
    refine ⟨v, ws, rfl, ρ, S, ls, a, T, rv, Out.sat_mono (fun l S1 z ρ1 H1 σ1 x1 T1 w1 => ?_) (fun _ _ _ z => z) (Out.sat_bind.mp h)⟩
    exact ⟨ρ1, S1, l, q, T1, rs.mono x1 q, Out.sat_mono (fun _ _ y ρ2 H2 σ2 x2 T2 w2 => y ρ2 H2 σ2 (x1.trans x2) T2 (w2.trans w1)) (fun _ _ _ z => z) z⟩
  · exact h.elim
theorem mgs_cons' {g : GM} {gr : GsM} (h1 : PG X e (tGm G (fm X) g)) (h2 : PGs X es (tGs G (fm X) gr)) (hs : (assignEach (e :: es) X.env).map (·.2) = assign e X.env :: (assignEach es X.env).map (·.2) := by rfl) : PGs X (e :: es) (tGs G (fm X) (gsCons g gr)) := mgs_cons h1 h2 fun a b => pgs_cons a b hs
theorem mgv_tup {vs : List Nat} {g : GsM} {k : Nat} (n : Nat) (hk : X.K = G.K) (hc : X.calm = true) (h : PGs X es (tGsv G (fm X) vs g)) (hn : (assignEach es X.env).length = n := by rfl) (hst : (assignEach es X.env).findIdx? (·.1) = none := by rfl) :
    PG X (.Tuple es k pos) (tGv G (fm X) vs (gTupM n g)) := by
  refine PG_imp (pg_tup hc h hn hst) fun v σ H Q ⟨ρ, S, ls, a, T, r, h⟩ => ?_
  unfold gTupM at h
  split at h
  · rename_i xs
    unfold RV at r
    obtain ⟨p, ws, rfl, s, rs⟩ := r
    cases q : Nat.beq xs.length n with
    | false => rw [q] at h; exact h.elim
    | true =>
      rw [q] at h
      exact ⟨p, ws, rfl, by rw [hk]; exact s, (RVs_len rs).trans (Nat.eq_of_beq_eq_true q), ρ, S, ls, xs, T, rs, h⟩
  · exact h.elim
theorem wipe_wipe (σ : L2.St) (vs : List Nat) : wipe (wipe σ vs) vs = wipe σ vs := by
  have sn : ∀ (vs : List Nat) (σ : L2.St) (v : Nat), v ∈ vs → (wipe σ vs).set v none = wipe σ vs := by
    intro vs
    induction vs with
    | nil => intro σ v h; cases h
    | cons w ws ih =>
      intro σ v h
      unfold wipe
      by_cases e : v = w
      · subst e; rw [List.set_set]
      · rcases List.mem_cons.mp h with q | q
        · exact absurd q e
        · rw [List.set_comm _ _ (Ne.symm e), ih σ v q]
  have mid : ∀ (ws : List Nat) (σ : L2.St), (∀ v ∈ ws, σ.set v none = σ) → wipe σ ws = σ := by
    intro ws
    induction ws with
    | nil => intro σ _; rfl
    | cons w ws ih =>
      intro σ h
      unfold wipe
      rw [ih σ fun v hv => h v (List.mem_cons_of_mem _ hv)]
      exact h w List.mem_cons_self
  exact mid vs _ fun v hv => sn vs σ v hv
def wipeL (ls : Lo) : List Nat → Lo
  | [] => ls
  | v :: vs => setL (wipeL ls vs) v .u
theorem wipeL_len (ls : Lo) : ∀ vs : List Nat, (wipeL ls vs).length = ls.length
  | [] => rfl
  | v :: vs => by unfold wipeL; rw [setL_len, wipeL_len ls vs]
theorem Stt.wipe {ρ : List Addr} {S : Sto} {ls : Lo} {σ : L2.St} {H : Hp} (T : Stt G F ρ S ls σ H) : ∀ vs : List Nat, Stt G F ρ S (wipeL ls vs) (L2.wipe σ vs) H
  | [] => T
  | v :: vs => by
    have T1 := Stt.wipe T vs
    refine ⟨T1.rel, ?_, fun i => ?_, T1.ok⟩
    · rw [wipe_length, wipeL_len]; exact T.len
    · unfold wipeL L2.wipe
      rw [nth_setL]
      split
      · trivial
      · rename_i hn
        have h := T1.loc i
        by_cases e : i = v
        · have hl : ¬ v < (wipeL ls vs).length := fun z => hn ⟨e, z⟩
          have hu : nth (wipeL ls vs) i = .u := by
            cases q : nth (wipeL ls vs) i with
            | u => rfl
            | v a => exact absurd (nth_lt (i := i) (by rw [q]; exact fun z => by cases z)) (by rw [e]; exact hl)
            | c k => exact absurd (nth_lt (i := i) (by rw [q]; exact fun z => by cases z)) (by rw [e]; exact hl)
          rw [hu]
          trivial
        · have es : ((L2.wipe σ vs).set v none)[i]? = (L2.wipe σ vs)[i]? := List.getElem?_set_ne (Ne.symm e)
          cases q : nth (wipeL ls vs) i with
          | u => trivial
          | v a => rw [q] at h; unfold RLV at h ⊢; rw [es]; exact h
          | c k => rw [q] at h; exact h.elim
/-! ### comprehensions -/
abbrev W0 : WX := fun _ _ _ _ => False
def loopC (g : GM) (t : Option TM) (m : EM) (I : IT) (r : Nat) (l0 : Lo) : Nat → Nat → Sto → Out AV
  | 0, _, _ => .bad
  | f + 1, k, S => match nxt I k S with
    | none => .bad
    | some none => .ok (.ref r) S
    | some (some v) => match g v l0 S with
      | .ok l1 S1 => (match t with
        | none => Out.ok true S1
        | some t => t l1 S1).bind fun b S2 => match b with
          | true => (m l1 S2).bind fun y S3 => match lstAt S3 r with
            | some acc => match lenOk (y :: acc) with
              | true => loopC g t m I r l0 f (k + 1) (S3.put r (.lst (acc ++ [y])))
              | false => .bad
            | none => .bad
          | false => loopC g t m I r l0 f (k + 1) S2
      | _ => .bad
def mLc (i : IM) (vs : List Nat) (g : GM) (t : Option TM) (m : EM) : EM := fun ls S => (i ls S).bind fun I S1 => (newL [] S1).bind fun _ S2 => xBad (loopC g t m I S1.n (wipeL ls vs) fuel 0 S2)
where xBad : Out AV → Out AV
  | .ok a S => .ok a S
  | .ex _ _ _ => .bad
  | .bad => .bad
  | .dr n k => .dr n fun i => xBad (k i)
theorem xBad_sat {P : AV → Sto → Prop} {E E' : AE → Lo → Sto → Prop} : ∀ {m : Out AV}, (mLc.xBad m).Sat P E → m.Sat P E'
  | .ok _ _, h => h
  | .ex _ _ _, h => h.elim
  | .bad, h => h
  | .dr n k, h => fun i h0 h1 => xBad_sat (h i h0 h1)
def tYesM (t : Option TM) : Lo → Sto → Out Bool := fun ls S => match t with
  | none => .ok true S
  | some t => t ls S
theorem pts_none : PTs X [] (tT G F W (tYesM none)) := ⟨fun pins s σ H Q I ⟨ρ, S, ls, T, h⟩ => (pts_nil (X := X)).run pins s σ H Q I (h ρ H (Ext.refl _ _) T)⟩
theorem pts_some {c : Expr} {t : TM} (h : PT X c (tT G F W t)) : PTs X [c] (tT G F W (tYesM (some t))) := pts_one h
theorem me_lc {i : IM} {g : GM} {t : Option TM} {m : EM} {elt : Expr} {ifs : List Expr} {scope : Scope} (own : List (Str × Nat)) (hc : X.calm = true) (hN : X.N.Nodup) (hi : PI X tg iter (tI G (fm X) W i)) (ok : BlkOk X.N X.env.scope scope own)
    (hg : ∀ (s : Shared) (H : Hp) (C : Addr) (cl : List (Str × Addr)) (fp : List Addr), PG (X.blk s H scope (compEnvC scope cl C X.env) fp) tg (tGv G F0 (own.map (·.2)) g))
    (ht : ∀ (s : Shared) (H : Hp) (C : Addr) (cl : List (Str × Addr)) (fp : List Addr), PTs (X.blk s H scope (compEnvC scope cl C X.env) fp) ifs (tT G F0 W0 (tYesM t)))
    (he : ∀ (s : Shared) (H : Hp) (C : Addr) (cl : List (Str × Addr)) (fp : List Addr), PE (X.blk s H scope (compEnvC scope cl C X.env) fp) elt (tE G F0 W0 m)) (hs : ∀ x, foldedSetIterable iter X.env x = pure x := by intro _; rfl) :
    PE X (.ListComp elt [⟨tg, iter, ifs, 0⟩] scope pos) (tE G (fm X) W (mLc i (own.map (·.2)) g t m)) := by
  refine PE_imp (pe_lc hc hN hi ok hg ht he hs) fun σ H Q ⟨ρ, S, ls, T, h⟩ => ?_
  refine ⟨ρ, S, ls, T, Out.sat_mono (fun I S1 q ρ1 H1 J x1 T1 ri => ?_) (fun _ _ _ z => z) (Out.sat_bind.mp h)⟩
  intro D hD
  have hn := Out.sat_bind.mp q
  obtain ⟨_, kk⟩ := newL_ok (Q := Q) T1 (by unfold RVs; rfl) hn
  obtain ⟨ρ2, S2, T2, x2, q2, r2⟩ := kk D hD
  unfold RV at r2
  obtain ⟨D', hD', e⟩ := r2
  injection e with e
  subst e
  have q3 := xBad_sat (E' := fun _ _ _ => False) q2
  clear q2 q h hn
  have xx := x1.trans x2
  refine ⟨fun k m' H' => ∃ ρ S, Ext ρ2 (upd H1 D (.lst [])) ρ H' ∧ Stt G (fm X) ρ S ls σ H' ∧ (loopC g t m I S1.n (wipeL ls (own.map (·.2))) m' k S).Sat (PostV G (fm X) ρ2 ls σ (upd H1 D (.lst [])) Q) (fun _ _ _ => False),
    ⟨fuel, ρ2, S2, Ext.refl _ _, T2, Out.sat_mono (fun _ _ z => z.ext xx) (fun _ _ _ z => z) q3⟩, ?_⟩
  rintro k m' H' ⟨ρ3, S3, x3, T3, h3⟩
  cases m' with
  | zero => exact h3.elim
  | succ m' =>
    obtain ⟨ra, rb⟩ := ri ρ3 H' S3 ls σ k (x2.trans x3) T3
    unfold loopC at h3
    cases qn : nxt I k S3 with
    | none => rw [qn] at h3; exact h3.elim
    | some o =>
      cases o with
      | none =>
        rw [qn] at h3
        exact .inl ⟨ra qn, h3 ρ3 H' x3 T3 _ (by unfold RV; exact ⟨D, x3.at hD', rfl⟩)⟩
      | some v =>
        rw [qn] at h3
        obtain ⟨go, yl⟩ := rb v qn
        refine .inr ⟨go, fun H'' => ∃ ρ S, Ext ρ2 (upd H1 D (.lst [])) ρ H'' ∧ Stt G (fm X) ρ S ls σ H'' ∧ (loopC g t m I S1.n (wipeL ls (own.map (·.2))) m' (k + 1) S).Sat (PostV G (fm X) ρ2 ls σ (upd H1 D (.lst [])) Q) (fun _ _ _ => False), fun H'' n => ⟨m', Nat.lt_succ_self _, n⟩, fun y H4 hy => ?_⟩
        obtain ⟨ρ4, x4, T4, rv⟩ := yl y H4 hy
        dsimp only at h3
        cases qg : g v (wipeL ls (own.map (·.2))) S3 with
        | ok l2 S5 =>
          rw [qg] at h3
          refine ⟨ρ4, S3, _, v, T4.wipe _, rv, ?_⟩
          rw [qg]
          intro ρ5 H5 σ5 x5 T5 w5
          refine ⟨w5.trans (wipe_wipe _ _), ?_⟩
          have back : ∀ {ρ : List Addr} {H : Hp} {S : Sto}, Ext ρ4 H4 ρ H → Rel G ρ S H → Stt G (fm X) ρ S ls σ H := fun {ρ H S} y R => ⟨R, T4.len, fun i => by
            have hl := T4.loc i
            cases ql : nth ls i with
            | u => trivial
            | v a =>
              rw [ql] at hl
              obtain ⟨z, h1, h2⟩ := hl
              exact ⟨z, h1, h2.mono y a⟩
            | c k => rw [ql] at hl; exact hl.elim, T4.ok⟩
          refine ⟨ρ5, S5, l2, T5, Out.sat_mono (fun b S6 z ρ6 H6 x6 T6 => ?_) (fun _ _ _ z => z.elim) (Out.sat_bind.mp h3)⟩
          cases b with
          | false =>
            refine iteF ⟨ρ6, S6, x3.trans (x4.trans (x5.trans x6)), back (x5.trans x6) T6.rel, z⟩
          | true =>
            refine iteT ⟨ρ6, S6, l2, T6, Out.sat_mono (fun w S7 z7 ρ7 H7 x7 T7 u ru => ?_) (fun _ _ _ z => z.elim) (Out.sat_bind.mp z)⟩
            have x37 := x3.trans (x4.trans (x5.trans (x6.trans x7)))
            have hDp : ρ7[S1.n]? = some D := x37.at hD'
            cases ql : lstAt S7 S1.n with
            | none => rw [ql] at z7; exact z7.elim
            | some acc =>
              rw [ql] at z7
              cases qo : lenOk (w :: acc) with
              | false => simp only [qo] at z7; exact z7.elim
              | true =>
                simp only [qo] at z7
                obtain ⟨vacc, eD, racc⟩ := lst_of T7 hDp ql
                obtain ⟨T8, x8⟩ := putL T7 hDp (lstAt_eq ql) eD (RVs_app racc (RVs_one ru))
                refine ⟨vacc, eD, ?_, ρ7, _, x37.trans x8, back (x5.trans (x6.trans (x7.trans x8))) T8.rel, z7⟩
                have hl : vacc.length + 1 ≤ sizeLine := by
                  have := lenOk_le (vs := u :: vacc) qo (by unfold RVs; exact ⟨u, vacc, rfl, ru, racc⟩)
                  simpa using this
                omega
        | _ => rw [qg] at h3; exact h3.elim
end
end Sh

end

section
set_option maxHeartbeats 1000000
namespace Sh
open PySem PySem.Spec PyProof.Rows L2 RZ
/-! ### zip(a text, a tuple) -/
abbrev zsH1 (h : Heap) (x : Str) (t : Tok) : Heap := h.push { cls := .type "str_ascii_iterator", data := .fields #[.str x t, .int 0 0] }
abbrev zsH2 (h : Heap) (x : Str) (t : Tok) (l : Addr) : Heap := (zsH1 h x t).push { cls := .type "tuple_iterator", data := .fields #[.ref l, .int 0 0] }
abbrev zsH3 (h : Heap) (x : Str) (t : Tok) (l : Addr) : Heap := (zsH2 h x t l).push { cls := .type "tuple", data := .seq #[.ref h.objs.size, .ref (zsH1 h x t).objs.size] }
abbrev zsH4 (h : Heap) (x : Str) (t : Tok) (l : Addr) : Heap := (zsH3 h x t l).push { cls := .type "tuple", data := .seq #[.none, .none] }
abbrev zsH5 (h : Heap) (x : Str) (t : Tok) (l : Addr) : Heap := (zsH4 h x t l).push { cls := .type "zip", data := .fields #[.none, .bool false, .bool false, .ref (zsH2 h x t l).objs.size, .ref (zsH3 h x t l).objs.size] }
open PySem.Sem (wp) in
theorem meets_zs_new (x : Str) (t : Tok) (l : Addr) (ys : Array Value) (ha : x.cps.all (· < 128) = true) :
    Meets (Builtin.«zip.__new__» ⟨[.type "zip", .str x t, .ref l], []⟩) (fun _ R s => s.heap.IsTuple l ys ∧
      R (.ok (.ret (.ref (zsH4 s.heap x t l).objs.size))) { s with heap := zsH5 s.heap x t l }) :=
  .of_wp fun prog
      w A R s h => by
    obtain ⟨hp, g, d, tk, os⟩ := s; obtain ⟨hl2, h⟩ := h
    have hsub := sub_zip
    have hL2 : Heap.IsTuple (Shared.heap ⟨hp.push { cls := .type "str_ascii_iterator", data := .fields #[.str x t, .int 0 0] }, g, d, tk, os⟩) l ys := Heap.IsTuple.push hl2 _
    wp_walk using wpAny_pyIter_ascii ha, wpAny_pyIter_tuple hL2
    exact ⟨_, rfl, h⟩
section
variable {prog : Program} {w : World} {A : Around} {E : Value → Shared → Prop} {s : Shared}
theorem call_zs {x : Str} {t : Tok} {l2 : Addr} {ys : Array Value} {Q : Value → Shared → Prop} (ha : x.cps.all (· < 128) = true) (hl2 : s.heap.IsTuple l2 ys)
    (h : ∀ h', IsZip h' (s.heap.objs.size + 4) (s.heap.objs.size + 2) (s.heap.objs.size + 3) .none → IsPair h'
        (s.heap.objs.size + 2) (.ref s.heap.objs.size) (.ref (s.heap.objs.size + 1)) →
      IsPair h' (s.heap.objs.size + 3) .none .none → h'.IsStrIter s.heap.objs.size "str_ascii_iterator" x t 0 → h'.IsTupleIter (s.heap.objs.size + 1) l2 0 → h'.objs.size = s.heap.objs.size + 5 →
      (∀ c o, s.heap.get? c = some o → h'.get? c = some o) → Q (.ref (s.heap.objs.size + 4)) { s with heap :=
          h' }) :
    wpAny (model prog w) A (call (.type "zip") [.str x t, .ref l2]) Q E s := by
  refine callType_new F.called_zip (by decide) (F.typeCall_zip_2 _ _) (F.newCall_zip_2 _ _) (fun obj =>
      F.args_object_init_3 obj _ _) F.entry_zip_new
    (meets_zs_new x t l2 ys ha) ⟨hl2, ?_⟩
  have z1 : (zsH1 s.heap x t).objs.size = s.heap.objs.size + 1 := Heap.size_push ..
  have z2 : (zsH2 s.heap x t l2).objs.size = s.heap.objs.size + 2 := by rw [Heap.size_push, z1]
  have z3 : (zsH3 s.heap x t l2).objs.size = s.heap.objs.size + 3 := by rw [Heap.size_push, z2]
  have z4 : (zsH4 s.heap x t l2).objs.size = s.heap.objs.size + 4 := by rw [Heap.size_push, z3]
  have five : (zsH5 s.heap x t l2).objs.size = s.heap.objs.size + 5 := by rw [Heap.size_push, z4]
  have gE : (zsH5 s.heap x t l2).get? (zsH4 s.heap x t l2).objs.size = some _ := Heap.get?_push_size _ rfl
  have gD : (zsH5 s.heap x t l2).get? (zsH3 s.heap x t l2).objs.size = some _ := Heap.get?_push_of_some _ (Heap.get?_push_size _ rfl)
  have gC : (zsH5 s.heap x t l2).get? (zsH2 s.heap x t l2).objs.size = some _ := Heap.get?_push_of_some _ (Heap.get?_push_of_some _ (Heap.get?_push_size _ rfl))
  have g2 : (zsH5 s.heap x t l2).get? (zsH1 s.heap x t).objs.size = some _ := Heap.get?_push_of_some _ (Heap.get?_push_of_some _ (Heap.get?_push_of_some _ (Heap.get?_push_size _ rfl)))
  have gA : (zsH5 s.heap x t l2).get? s.heap.objs.size = some _ := Heap.get?_push_of_some _ (Heap.get?_push_of_some _ (Heap.get?_push_of_some _ (Heap.get?_push_of_some _ (Heap.get?_push_size _ rfl))))
  show _ ∧ _
  rw [z2, z3, z4] at gE
  rw [z1, z2] at gC
  rw [z3] at gD
  rw [z1] at g2
  rw [z4]
  exact ⟨⟨_, gE, rfl⟩, h _ gE gC gD ⟨_, gA, rfl, rfl⟩ ⟨_, g2, rfl, rfl⟩ five fun c o x =>
    Heap.get?_push_of_some _ (Heap.get?_push_of_some _ (Heap.get?_push_of_some _
        (Heap.get?_push_of_some _ (Heap.get?_push_of_some _ x))))⟩
end
def ItzS (K : PySem.W.Frag) (x : Str) (b : Addr) : It :=
  ⟨fun i H => ∃ (ys : List V) (c : Nat) (y : V), SqT K H b ys ∧ x.cps[i]? = some c ∧ ys[i]? = some y,
    fun i H v H' => ∃ T c y, v = .ref T ∧ H T = none ∧ H' = upd H T (.tup [.str ⟨#[c]⟩, y]) ∧ x.cps[i]? = some c ∧ ∀ ys, SqT K H b ys → ys[i]? = some y,
    fun i H => ∃ ys : List V, SqT K H b ys ∧ (x.cps.size ≤ i ∨ ys.length ≤ i) ∧ i ≤ x.cps.size ∧ i ≤ ys.length⟩
theorem turn_zs {P : Program} {w : World} {K : PySem.W.Frag} {elts : List Expr} {kk : Nat} {tpos : Pos} {b z TI TO i1 i2 : Addr} {x : Str} {t : Tok} (D : ZipApart z TI TO i1 i2 b b) :
    Turn P w K (.Tuple elts kk tpos) (ItzS K x b) [z, TI, TO, i1, i2] z (fun i h => IsZip h z TI TO .none ∧ IsPair h TI (.ref i1) (.ref i2) ∧ (∃ x y, IsPair h TO x y) ∧ h.IsStrIter i1 "str_ascii_iterator" x t i ∧ h.IsTupleIter i2 b i) where
  mem := by simp
  obj := fun i h st c hc => by
    obtain ⟨atZ, atI, ⟨x, y, atO⟩, ⟨o1, e1, _, d1⟩, ⟨o2, e2, _, d2⟩⟩ := st
    have which : c = z ∨ c = TI ∨ c = TO ∨ c = i1 ∨ c = i2 := by simpa using hc
    rcases which with q | q | q | q | q
    · rw [q]; exact ⟨_, atZ, fun v q => nomatch q⟩
    · rw [q]; exact ⟨_, atI, fun v q => nomatch q⟩
    · rw [q]; exact ⟨_, atO, fun v q => nomatch q⟩
    · rw [q]; exact ⟨o1, e1, fun v q =>
          by rw [d1] at q; cases q⟩
    · rw [q]; exact ⟨o2, e2, fun v q =>
          by rw [d2] at q; cases q⟩
  keep := fun i h h' st k => by
    obtain ⟨atZ, atI, ⟨x, y, atO⟩, ⟨o1, e1, r1⟩, h2⟩ := st
    exact ⟨k z (by simp) _ atZ, k TI (by simp) _ atI, ⟨x, y, k TO (by simp) _ atO⟩, ⟨o1, k i1 (by simp) _ e1, r1⟩, h2.at fun o q => k i2 (by simp) o q⟩
  item := by
    intro X hP hw hK hc i
        pins s σ H E I hf st hg
    subst hP hw hK
    obtain ⟨atZ, atI, ⟨xOld, yOld, atO⟩, h1, h2⟩ := st
    obtain ⟨ys, c, y, eqY, hx, hy⟩ := hg
    obtain ⟨elB, rvB, isB, _⟩ := I.tuple eqY
    obtain ⟨uB, gB, vB⟩ := rvB.get hy
    have zIn : z < s.heap.objs.size := Heap.lt_size atZ
    have hlt1 : i < x.cps.size := (Array.getElem?_eq_some_iff.mp hx).1
    have hlt2 : i < elB.toArray.size := by have := (List.getElem?_eq_some_iff.mp gB).1; simpa using this
    have hh : X.A.in1.handled = none := I.ok.hd hc
    have SP : ZipSep2 z TI TO i1 i2 [i1] [i2, b] := ⟨D.TIz, D.TOz, D.TITO, D.TIi1, by simp, by simpa using D.i1z.symm, by simpa using D.TOi1, D.TIi2, by simp, by simpa using ⟨D.i2z.symm, D.l2z.symm⟩, by simpa using ⟨D.TOi2, D.l2TO.symm⟩, by simpa using ⟨D.i12, D.l2i1.symm⟩, by simpa using D.i12.symm⟩
    refine wpAny_pyNext_zipD2_item SP (Draws.strAscii hh i1 x t) (Draws.tuple hh i2 b D.l2i2 elB.toArray) atZ atI atO h1 ⟨h2, isB⟩ hlt1 hlt2 fun v1 v2 h' tk y1 y2 z' TO' h1' h2' hT fits hk => ?_
    obtain ⟨c', t', hc', rfl⟩ := y1
    have ec : c' = c := by rw [hc'] at hx; exact Option.some.inj hx
    subst ec
    have ev : v2 = uB := by
      have e1 : elB.toArray[i]? = some uB := by simpa using gB
      have e2 : elB.toArray[i]? = some v2 := y2
      rw [e1] at e2
      exact (Option.some.inj e2).symm
    subst ev
    refine ⟨_, rfl, wpAny_letOwnedTupleGo_zip (s := { s with heap := h', toks := tk }) z' fun h'' z'' sb => ?_⟩
    have hT2 : h''.get? s.heap.objs.size = some { cls := .type "tuple", data := .seq #[.str ⟨#[c']⟩ t', v2] } := (sb.2 _ (Nat.ne_of_gt zIn)).trans hT
    have new : ObjOk X.prog X.w (upd H s.heap.objs.size (.tup [.str ⟨#[c']⟩, y])) h'' s.heap.objs.size (.tup [.str ⟨#[c']⟩, y]) :=
      ⟨by show 2 ≤ sizeLine; decide, [.str ⟨#[c']⟩ t', v2], .cons ⟨t', rfl⟩ (.cons vB .nil), ⟨_, hT2, rfl, _, rfl⟩⟩
    have I1 : Inv X pins σ (upd H s.heap.objs.size (.tup [.str ⟨#[c']⟩, y])) { s with heap := h'', toks := tk } :=
      I.turnedNew (t' := tk) (ch := [z, TI, TO, i1, i2]) (fun c o hb q => (sb.2 c (fun q' => hb (by simp [q']))).trans (hk c o (fun q' => hb (by simp [q'])) (fun q' => hb (by simp [q'])) (fun q' => hb (by simp [q'])) (fun q' => hb (by simp [q'])) q)) hf (Nat.le_refl _) new
    refine ⟨.ref s.heap.objs.size, _, I1, rfl, ⟨_, c', y, rfl, I.hok.fresh (Nat.le_refl _), rfl, hc', fun l hl => by rw [I.tuple_inj hl eqY]; exact hy⟩, ⟨z'', ?_, ⟨.str ⟨#[c']⟩ t', v2, ?_⟩, ?_, ?_⟩, fun c inC => ?_⟩
    · exact (sb.2 _ D.TIz).trans (hk _ _ D.TIz D.TITO D.TIi1 D.TIi2 atI)
    · exact (sb.2 _
          D.TOz).trans TO'
    · obtain ⟨o1, e1, r1⟩ := h1'
      exact ⟨o1, (sb.2 _ D.i1z).trans e1, r1⟩
    · exact h2'.1.at fun o q => (sb.2 _ D.i2z).trans q
    · have isLt : c < s.heap.objs.size := by
        have which : c = z ∨ c = TI ∨ c = TO ∨ c = i1 ∨ c = i2 := by simpa using inC
        rcases which with q | q | q | q | q
        · rw [q]; exact zIn
        · rw [q]; exact Heap.lt_size atI
        · rw [q]; exact Heap.lt_size atO
        · rw [q]; obtain ⟨_, e1, _⟩ :=
              h1; exact Heap.lt_size e1
        · rw [q]; obtain ⟨_, e2, _⟩ :=
              h2; exact Heap.lt_size e2
      rw [upd_ne (Nat.ne_of_lt isLt)]
      exact (hf c inC).1
  done := by
    intro X hP hw hK hc i
        pins s σ H E I hf st hg
    subst hP hw hK
    obtain ⟨atZ, atI, ⟨xOld, yOld, atO⟩, h1, h2⟩ := st
    obtain ⟨ys, eqY, hend, hle1, hle2⟩ := hg
    obtain ⟨elB, rvB, isB, _⟩ := I.tuple eqY
    have l2 := rvB.length
    have hh : X.A.in1.handled = none := I.ok.hd hc
    have SP : ZipSep2 z TI TO i1 i2 [i1] [i2, b] := ⟨D.TIz, D.TOz, D.TITO, D.TIi1, by simp, by simpa using D.i1z.symm, by simpa using D.TOi1, D.TIi2, by simp, by simpa using ⟨D.i2z.symm, D.l2z.symm⟩, by simpa using ⟨D.TOi2, D.l2TO.symm⟩, by simpa using ⟨D.i12, D.l2i1.symm⟩, by simpa using D.i12.symm⟩
    have fits : elB.toArray.size = ys.length := by simp; omega
    exact wpAny_pyNext_zipD2_end SP (Draws.strAscii hh i1 x t) (Draws.tuple hh i2 b D.l2i2 elB.toArray) atZ atI atO h1 ⟨h2, isB⟩ hle1 (by omega) (by omega) fun h' tk hk => ⟨rfl, I.turnedL (t' := tk) (ch := [z, TI, TO, i1, i2]) (fun c o hb q =>
      hk c o (fun q' => hb (by simp [q'])) (fun q' => hb (by simp [q'])) (fun q' =>
          hb (by simp [q'])) (fun q' => hb (by simp [q'])) q) hf⟩
  self := fun A i s Q E st h =>
      wpAny_pyIter_zip st.1 h
end Sh

end

section
set_option maxHeartbeats 1000000
namespace Sh
open PySem PySem.Spec PyProof.Rows L2 RZ
def iZipB (K : PySem.W.Frag) (ta : TA) : TI := fun σ H R => ta σ H fun vs H1 => (∃ a b xs ys, vs = [.ref a, .ref b] ∧ ((SqL K H1 a xs ∧ SqL K H1 b ys ∧ R (Itz K a b) H1) ∨ (SqT K H1 a xs ∧ SqT K H1 b ys ∧ R (ItzT K a b) H1))) ∨
  ∃ x b ys, vs = [.str x, .ref b] ∧ x.cps.all (· < 128) = true ∧ SqT K H1 b ys ∧ R (ItzS K x b) H1
theorem pi_zipB {X : Cx} {e e2 : Expr} {ta : TA} {isS pos tpos : Pos} {elts : List Expr} {kk : Nat} (hg : Gl X "zip") (hm : X.mg "zip" = none) (ha : PA X [e, e2] ta)
    (hs : starEach [e, e2] X.env = (false, eval e X.env) :: starEach [e2] X.env :=
        by rfl) (hpl : (backTo pos (starEach [e2] X.env)).any (·.1) = false := by rfl) :
    PI X (.Tuple elts kk tpos) (.Call (.Name "zip" isS) [e, e2] [] pos) (iZipB X.K ta) := by
  refine ⟨fun pins s σ H R I h =>
      ?_⟩
  refine Call_ (ld_blt I hg hm PyProof.Rows.boot_zip (PyProof.Rows.callWith_type1 (thn (ha.run pos pins s σ H _ I h) fun us s1 ⟨vs, H1, I1, r1, got⟩ => ?_) hs hpl))
  have allNew : ∀ c, c ∈ [s1.heap.objs.size + 4, s1.heap.objs.size + 2, s1.heap.objs.size + 3, s1.heap.objs.size, s1.heap.objs.size + 1] → FpOk X pins H1 c := fun c inC => by
    have which : c = s1.heap.objs.size + 4 ∨ c = s1.heap.objs.size + 2 ∨ c = s1.heap.objs.size + 3 ∨ c = s1.heap.objs.size ∨ c = s1.heap.objs.size + 1 := by simpa using inC
    have above : s1.heap.objs.size ≤ c := by
      rcases which with z | z | z | z | z
      · rw [z];
            exact Nat.le_add_right _ _
      · rw [z];
            exact Nat.le_add_right _ _
      · rw [z];
            exact Nat.le_add_right _ _
      · rw [z]; exact Nat.le_refl _
      · rw [z];
            exact Nat.le_add_right _ _
    exact I1.fpOk above (I1.hok.fresh above)
  rcases got with ⟨a, b, xs, ys, ex, got⟩ | ⟨x, b, ys, ex, hasc, eqY, q⟩
  · subst ex
    cases r1 with
    | cons r rr =>
      cases rr with
      | cons r' rr =>
        cases rr
        cases r
        cases r'
        rcases got with ⟨eqX, eqY, q⟩ | ⟨eqX, eqY, q⟩
        · obtain ⟨elA, rvA, isA, _⟩ := I1.list eqX
          obtain ⟨elB, rvB, isB, _⟩ := I1.list eqY
          refine call_zip_2 isA.isList isB.isList fun h' atZ atI atO h1 h2 fits hk => wpAny_pyIter_zip atZ ?_
          have I2 : Inv X pins σ H1 { s1 with heap :=
              h' } := I1.kept (t' := s1.toks) hk
          exact ⟨s1.heap.objs.size + 4, [s1.heap.objs.size + 4, s1.heap.objs.size + 2, s1.heap.objs.size + 3, s1.heap.objs.size, s1.heap.objs.size + 1], _, _, H1, rfl, I2, turn_zip (PySem.W.ktu_apart s1.heap.objs.size a b isA.lt isB.lt), ⟨atZ, atI, ⟨_, _, atO⟩, h1, h2⟩, allNew, q⟩
        · obtain ⟨elA, rvA, isA, _⟩ := I1.tuple eqX
          obtain ⟨elB, rvB, isB, _⟩ := I1.tuple eqY
          obtain ⟨o1, ho1, _⟩ := id isA
          obtain ⟨o2, ho2, _⟩ := id isB
          refine call_zipT (show s1.heap.IsTuple a elA.toArray from isA) (show s1.heap.IsTuple b elB.toArray from isB) fun h' atZ atI atO h1 h2 fits hk => wpAny_pyIter_zip atZ ?_
          have I2 : Inv X pins σ H1 { s1 with heap :=
              h' } := I1.kept (t' := s1.toks) hk
          exact ⟨s1.heap.objs.size + 4, [s1.heap.objs.size + 4, s1.heap.objs.size + 2, s1.heap.objs.size + 3, s1.heap.objs.size, s1.heap.objs.size + 1], _, _, H1, rfl, I2, turn_zipT (PySem.W.ktu_apart s1.heap.objs.size a b (Heap.lt_size ho1) (Heap.lt_size ho2)), ⟨atZ, atI, ⟨_, _, atO⟩, h1, h2⟩, allNew, q⟩
  · subst ex
    cases r1 with
    | cons r rr =>
      cases rr with
      | cons r' rr =>
        cases rr
        obtain ⟨t, rfl⟩ := r
        cases r'
        obtain ⟨elB, rvB, isB, _⟩ := I1.tuple eqY
        obtain ⟨o2, ho2, _⟩ := id isB
        refine call_zs hasc (show s1.heap.IsTuple b elB.toArray from isB) fun h' atZ atI atO h1 h2 fits hk => wpAny_pyIter_zip atZ ?_
        have I2 : Inv X pins σ H1 { s1 with heap :=
            h' } := I1.kept (t' := s1.toks) hk
        exact ⟨s1.heap.objs.size + 4, [s1.heap.objs.size + 4, s1.heap.objs.size + 2, s1.heap.objs.size + 3, s1.heap.objs.size, s1.heap.objs.size + 1], _, _, H1, rfl, I2, turn_zs (PySem.W.ktu_apart s1.heap.objs.size b b (Heap.lt_size ho2) (Heap.lt_size ho2)), ⟨atZ, atI, ⟨_, _, atO⟩, h1, h2⟩, allNew, q⟩
section
variable {X : Cx} {G : Gd} {W : WX} {F : Fm} {ma mb : EM} {a b e : Expr} {es : List Expr} {pos : Pos}
theorem zip2_none {α β : Type} {f : α → β → AV} {x : Option α} {y : Option β} (h : zip2 f x y = none) : x = none ∨ y = none := by
  cases x with
  | none => exact .inl rfl
  | some a => cases y with
    | none => exact .inr rfl
    | some b => cases h
theorem zip2_some {α β : Type} {f : α → β → AV} {x : Option α} {y : Option β} {v : AV} (h : zip2 f x y = some v) : ∃ a b, x = some a ∧ y = some b ∧ v = f a b := by
  cases x with
  | none => cases h
  | some a => cases y with
    | none => cases h
    | some b => cases h; exact ⟨a, b, rfl, rfl, rfl⟩
theorem pairRV {ρ : List Addr} {H : Hp} {isS : Addr} {a b : AV} {v w : V} (hp : H isS = some (.tup [v, w])) (ra : RV G ρ H a v) (rb : RV G ρ H b w) : RV G ρ H (.tup [a, b]) (.ref isS) := by
  unfold RV
  refine ⟨isS, [v, w], rfl, SqT.of hp, ?_⟩
  unfold RVs
  exact ⟨v, [w], rfl, ra, RVs_one rb⟩
theorem ri_zl {ρ : List Addr} {H : Hp} {i j : Nat} {isS q : Addr} (hp : ρ[i]? = some isS) (hq : ρ[j]? = some q) : RI G F (.zl i j) (Itz G.K isS q) ρ H := fun ρ' H' S ls σ k x T => by
  have hp' := x.at hp
  have hq' := x.at hq
  cases got : lstAt S i with
  | none => exact ⟨fun z => (by simp only [nxt, got] at z; cases z), fun v z => (by simp only [nxt, got] at z; cases z)⟩
  | some xs =>
    cases q2 : lstAt S j with
    | none => exact ⟨fun z => (by simp only [nxt, got, q2] at z; cases z), fun v z => (by simp only [nxt, got, q2] at z; cases z)⟩
    | some ys =>
      obtain ⟨vs, e1, r1⟩ := lst_of T hp' got
      obtain ⟨ws, e2, r2⟩ := lst_of T hq' q2
      refine ⟨fun z => ?_, fun v z => ?_⟩
      · simp only [nxt, got, q2, at?_eq] at z
        refine ⟨vs, ws, SqL.of e1, SqL.of e2, ?_⟩
        rw [RVs_len r1, RVs_len r2]
        rcases zip2_none (Option.some.inj z) with h | h
        · exact .inl (List.getElem?_eq_none_iff.mp h)
        · exact .inr (List.getElem?_eq_none_iff.mp h)
      · simp only [nxt, got, q2, at?_eq] at z
        obtain ⟨a, b, ea, eb, rfl⟩ := zip2_some (Option.some.inj z)
        obtain ⟨u, hu, ru⟩ := RVs_get r1 ea
        obtain ⟨w, hw, rw_⟩ := RVs_get r2 eb
        refine ⟨⟨vs, ws, u, w, SqL.of e1, SqL.of e2, hu, hw⟩, fun y' H2 ⟨t, x', y, ev, hT, eH, h1, h2⟩ => ?_⟩
        subst ev eH
        have := h1 vs (SqL.of e1); rw [hu] at this; cases this
        have := h2 ws (SqL.of e2); rw [hw] at this; cases this
        obtain ⟨T2, x2⟩ := T.side (o := .tup [u, w]) hT
        exact ⟨ρ', x2, T2, pairRV upd_same (ru.mono x2 a) (rw_.mono x2 b)⟩
theorem ri_zt {ρ : List Addr} {H : Hp} {xs ys : List AV} {isS q : Addr} {vs ws : List V} (s1 : SqT G.K H isS vs) (r1 : RVs G ρ H xs vs) (s2 : SqT G.K H q ws) (r2 : RVs G ρ H ys ws) : RI G F (.zt xs ys) (ItzT G.K isS q) ρ H := fun ρ' H' S ls σ k x T => by
  have s1 := x.sqT s1
  have s2 := x.sqT s2
  have r1 := r1.mono x xs
  have r2 := r2.mono x ys
  refine ⟨fun z => ?_, fun v z => ?_⟩
  · simp only [nxt, at?_eq] at z
    refine ⟨vs, ws, s1, s2, ?_⟩
    rw [RVs_len r1, RVs_len r2]
    rcases zip2_none (Option.some.inj z) with h | h
    · exact .inl (List.getElem?_eq_none_iff.mp h)
    · exact .inr (List.getElem?_eq_none_iff.mp h)
  · simp only [nxt, at?_eq] at z
    obtain ⟨a, b, ea, eb, rfl⟩ := zip2_some (Option.some.inj z)
    obtain ⟨u, hu, ru⟩ := RVs_get r1 ea
    obtain ⟨w, hw, rw_⟩ := RVs_get r2 eb
    refine ⟨⟨vs, ws, u, w, s1, s2, hu, hw⟩, fun y' H2 ⟨t, x', y, ev, hT, eH, h1, h2⟩ => ?_⟩
    subst ev eH
    have := h1 vs s1; rw [hu] at this; cases this
    have := h2 ws s2; rw [hw] at this; cases this
    obtain ⟨T2, x2⟩ := T.side (o := .tup [u, w]) hT
    exact ⟨ρ', x2, T2, pairRV upd_same (ru.mono x2 a) (rw_.mono x2 b)⟩
theorem ri_zs {ρ : List Addr} {H : Hp} {xs : List Nat} {ys : List AV} {q : Addr} {ws : List V} (s2 : SqT G.K H q ws) (r2 : RVs G ρ H ys ws) : RI G F (.zs xs ys) (ItzS G.K (toS xs) q) ρ H := fun ρ' H' S ls σ k x T => by
  have s2 := x.sqT s2
  have r2 := r2.mono x ys
  have e : ∀ k : Nat, (toS xs).cps[k]? = xs[k]? := fun k => by simp [toS]
  have e2 : (toS xs).cps.size = xs.length := by simp [toS]
  cases got : Nat.ble k xs.length with
  | false => exact ⟨fun z => (by simp only [nxt, got] at z; cases z), fun v z => (by simp only [nxt, got] at z; cases z)⟩
  | true =>
    cases q2 : Nat.ble k ys.length with
    | false => exact ⟨fun z => (by simp only [nxt, got, q2] at z; cases z), fun v z => (by simp only [nxt, got, q2] at z; cases z)⟩
    | true =>
      refine ⟨fun z => ?_, fun v z => ?_⟩
      · simp only [nxt, got, q2, at?_eq] at z
        refine ⟨ws, s2, ?_, by rw [e2]; exact Nat.le_of_ble_eq_true got, by rw [RVs_len r2]; exact Nat.le_of_ble_eq_true q2⟩
        rw [RVs_len r2, e2]
        rcases zip2_none (Option.some.inj z) with h | h
        · exact .inl (List.getElem?_eq_none_iff.mp h)
        · exact .inr (List.getElem?_eq_none_iff.mp h)
      · simp only [nxt, got, q2, at?_eq] at z
        obtain ⟨a, b, ea, eb, rfl⟩ := zip2_some (Option.some.inj z)
        obtain ⟨w, hw, rw_⟩ := RVs_get r2 eb
        refine ⟨⟨ws, a, w, s2, by rw [e]; exact ea, hw⟩, fun y' H2 ⟨t, c, y, ev, hT, eH, h1, h2⟩ => ?_⟩
        subst ev eH
        rw [e, ea] at h1; cases h1
        have := h2 ws s2; rw [hw] at this; cases this
        obtain ⟨T2, x2⟩ := T.side (o := .tup [.str ⟨#[a]⟩, w]) hT
        exact ⟨ρ', x2, T2, pairRV upd_same (by unfold RV; rfl) (rw_.mono x2 b)⟩
def ascii : List Nat → Bool
  | [] => true
  | c :: r => match Nat.blt c 128 with
    | true => ascii r
    | false => false
theorem ascii_ok : ∀ {s : List Nat}, ascii s = true → ∀ c ∈ s, c < 128
  | [], _, c, h => by cases h
  | a :: r, h, c, hc => by
    unfold ascii at h
    cases q : Nat.blt a 128 with
    | false => rw [q] at h; cases h
    | true =>
      rw [q] at h
      rcases List.mem_cons.mp hc with e | e
      · rw [e]; exact Nat.le_of_ble_eq_true q
      · exact ascii_ok h c e
def mZip (m : AM) : IM := fun ls S => (m ls S).bind fun xs S1 => match xs with
  | [.ref i, .ref j] => match lstAt S1 i, lstAt S1 j with
    | some _, some _ => .ok (.zl i j) S1
    | _, _ => .bad
  | [.tup xs, .tup ys] => .ok (.zt xs ys) S1
  | [.str s, .tup ys] => match ascii s with
    | true => .ok (.zs s ys) S1
    | false => .bad
  | _ => .bad
theorem mi_zip {m : AM} {isS tpos : Pos} {elts : List Expr} {kk : Nat} (hk : X.K = G.K) (hm : X.mg "zip" = none) (ha : PA X [a, b] (tA G (fm X) W m)) (hg : Gl X "zip" := by rfl)
    (hs : starEach [a, b] X.env = (false, eval a X.env) :: starEach [b] X.env := by rfl) (hpl : (backTo pos (starEach [b] X.env)).any (·.1) = false := by rfl) :
    PI X (.Tuple elts kk tpos) (.Call (.Name "zip" isS) [a, b] [] pos) (tI G (fm X) W (mZip m)) := by
  refine PI_imp (pi_zipB hg hm ha hs hpl) fun σ H R ⟨ρ, S, ls, T, h⟩ => ?_
  refine tA_bind T h fun vs S1 ρ1 H1 xs h1 x1 T1 r1 => ?_
  rw [hk]
  split at h1
  · rename_i i j
    obtain ⟨v, w, rfl, rvA, rw_⟩ := rvs2 r1
    unfold RV at rvA rw_
    obtain ⟨isS, hp, rfl⟩ := rvA
    obtain ⟨q, hq, rfl⟩ := rw_
    cases got : lstAt S1 i with
    | none => simp only [got] at h1; exact h1.elim
    | some xs =>
      cases q2 : lstAt S1 j with
      | none => simp only [got, q2] at h1; exact h1.elim
      | some ys =>
        simp only [got, q2] at h1
        obtain ⟨us, e1, _⟩ := lst_of T1 hp got
        obtain ⟨ws, e2, _⟩ := lst_of T1 hq q2
        exact .inl ⟨isS, q, us, ws, rfl, .inl ⟨SqL.of e1, SqL.of e2, h1 ρ1 H1 _ x1 T1 (ri_zl hp hq)⟩⟩
  · obtain ⟨v, w, rfl, rvA, rw_⟩ := rvs2 r1
    unfold RV at rvA rw_
    obtain ⟨isS, us, rfl, s1, rs1⟩ := rvA
    obtain ⟨q, ws, rfl, s2, rs2⟩ := rw_
    exact .inl ⟨isS, q, us, ws, rfl, .inr ⟨s1, s2, h1 ρ1 H1 _ x1 T1 (ri_zt s1 rs1 s2 rs2)⟩⟩
  · rename_i s ys
    obtain ⟨v, w, rfl, rvA, rw_⟩ := rvs2 r1
    unfold RV at rvA rw_
    obtain ⟨q, ws, rfl, s2, rs2⟩ := rw_
    subst rvA
    cases qa : ascii s with
    | false => simp only [qa] at h1; exact h1.elim
    | true =>
      simp only [qa] at h1
      refine .inr ⟨toS s, q, ws, rfl, ?_, s2, h1 ρ1 H1 _ x1 T1 (ri_zs s2 rs2)⟩
      show (s.toArray.all fun c => decide (c < 128)) = true
      simp only [List.all_toArray, List.all_eq_true, decide_eq_true_eq]
      exact ascii_ok qa
  · exact h1.elim
/-! l.extend(a list or a tuple) -/
theorem meets_extT (l : Addr) (items : Array Value) (n : Nat) (b : Addr) (o : Obj) (items2 : Array Value) (n2 : Nat) (hc : o.cls = .type "tuple") (hd : o.data = .seq items2 n2) (hs0 : ¬(!items.isEmpty && Builtin.List.listTooLong (items.size + items2.size)) = true) (hs1 : items.size ≤ sizeLine) (hs2 : items.size + items2.size ≤ sizeLine + 1) :
    Meets (Builtin.«list.extend» ⟨[.ref l, .ref b], []⟩) (fun _ R s => s.heap.get? l = some { cls := .type "list", dict := none, data := .seq items n, slots := #[] } ∧ s.heap.get? b = some o ∧ R (.ok (.ret Value.none)) { s with heap := s.heap.update l (Obj.mapSeq fun x => x ++ items2), toks := s.toks }) :=
  .of_wp fun prog
      w A R s h => by
    obtain ⟨oc, od,
        odt, osl⟩ := o
    dsimp only at hc hd
    subst hc hd
    obtain ⟨hp, g, d, tk, os⟩ := s; obtain ⟨hl, hb, h⟩ := h; have f1 := AutoSeq1.idx_int; have f2 := AutoSeq1.sub_tuple_tuple; have f3 := AutoSeq1.sub_list_list; have f4 := AutoSeq1.sub_tuple_list; have f5 := AutoSeq1.sub_list_tuple;
    have szAll : (items ++ items2).size ≤ sizeLine + 1 :=
        by rw [Array.size_append]; exact hs2
    wp_walk using (wpAny_updateSeq hl rfl (hz := hs1) (_hz' := szAll)), wpAny_loadPart' hl, wpAny_loadPart' hb; exact ⟨_, rfl, h⟩
end
end Sh

end

section
namespace Sh
open PySem PySem.Spec PyProof.Rows L2
section
variable {X : Cx} {G : Gd} {W : WX} {F : Fm} {ma mb : EM} {a b e : Expr} {es : List Expr} {pos : Pos}
/-! l.extend -/
def rExtT (K : PySem.W.Frag) : V → List V → Hp → VK → Prop := fun x vs H Q => ∃ l b xs zs, x = .ref l ∧ vs = [.ref b] ∧ H l = some (.lst xs) ∧ SqT K H b zs ∧ xs.length + zs.length ≤ sizeLine ∧ Q .non (upd H l (.lst (xs ++ zs)))
theorem mt_extT : MtM X "list.extend" (rExtT X.K) := by
  intro pins s σ H x vs v us Q I rx rvA h
  obtain ⟨l, b, xs, zs, rfl, rfl, seeL, seeB, atZ, q⟩ := h
  cases rx
  obtain ⟨u, rfl, ru⟩ := rvA.one
  cases ru
  obtain ⟨z, elA, n, r, hl, e⟩ := I.lstM seeL
  obtain ⟨elB, r2, ⟨o, e2, c2, n2, d2⟩, hl2⟩ := I.tuple seeB
  have hl2 := r2.length
  have fits : elA.toArray.size + elB.toArray.size ≤ sizeLine := by rw [List.size_toArray, List.size_toArray]; omega
  have short : ¬ (!elA.toArray.isEmpty && Builtin.List.listTooLong (elA.toArray.size + elB.toArray.size)) = true := by
    rw [notLongL fits, Bool.and_false]
    exact Bool.false_ne_true
  refine call_meets F.slot_list_extend ⟨_, e,
      rfl⟩ F.entry_list_extend (F.args_list_extend_2 _ _)
    (meets_extT l elA.toArray n b o elB.toArray n2 c2 d2 short (by rw [List.size_toArray]; omega) (by omega)) ⟨e, e2, ?_⟩
  refine ⟨.non, _, I.lset (its' := elA ++ elB) seeL e (by simp) (r.append r2) ?_, rfl, q⟩
  rw [List.length_append]
  omega
def rExtB (K : PySem.W.Frag) : V → List V → Hp → VK → Prop := fun x vs H Q => rExtend x vs H Q ∨ rExtT K x vs H Q
theorem mt_extB : MtM X "list.extend" (rExtB X.K) := by
  intro pins s σ H x vs v us Q I rx rvA h
  rcases h with h | h
  · exact mt_extend pins s σ H x vs v us Q I rx rvA h
  · exact mt_extT pins s σ H x vs v us Q I rx rvA h
def fExtend (x : AV) (as : List AV) (S : Sto) : Out AV := match x, as with
  | .ref i, [a] => match S.get i with
    | some (.lst xs) => match seqOf S a with
      | some ys => setLst i (xs ++ ys) .non S
      | none => .bad
    | _ => .bad
  | _, _ => .bad
theorem ms_extend (hk : X.K = G.K) : MethS G F W "list" (rExtB X.K) fExtend := fun ρ S ls σ H x xs v vs Q T r rs h => by
  unfold fExtend at h
  split at h
  · rename_i i a
    obtain ⟨w, rfl, rw_⟩ := rvs1 rs
    unfold RV at r
    obtain ⟨isS, hp, rfl⟩ := r
    cases q : S.get i with
    | none => simp only [q] at h; exact h.elim
    | some o =>
      have ob := T.rel.obj i isS o hp q
      cases o with
      | lst ys =>
        simp only [q] at h
        obtain ⟨ws, e, r2⟩ := ob
        cases q3 : seqOf S a with
        | none => simp only [q3] at h; exact h.elim
        | some zs =>
          simp only [q3, setLst] at h
          obtain ⟨isB, us, rfl, r3, k⟩ := seqOf_ok T rw_ q3
          cases q2 : lenOk (ys ++ zs) with
          | false => rw [q2] at h; exact h.elim
          | true =>
            rw [q2] at h
            have rr := RVs_app r2 r3
            have := lenOk_le q2 rr
            rw [List.length_append] at this
            obtain ⟨T2, x2⟩ := putL T hp q e rr
            have hq := h ρ _ x2 T2 _ rv_non
            rcases k with ⟨_, _, _, _, e3⟩ | ⟨_, e3⟩
            · exact .inl ⟨isS, isB, ws, us, rfl, rfl, e, e3, this, hq⟩
            · exact .inr ⟨isS, isB, ws, us, rfl, rfl, e, by rw [hk]; exact e3, this, hq⟩
      | _ => simp only [q] at h; exact h.elim
  · exact h.elim
theorem me_append {o : Expr} {apos : Pos} {mo : EM} {m : AM} (hk : X.K = G.K) (ho : PE X o (tE G (fm X) W mo)) (ha : PA X [e] (tA G (fm X) W m))
    (hbase : attributeBase o "append" X.env (eval o X.env) = eval o X.env := by rfl)
    (hfew : ((backTo pos (starEach (e :: []) X.env)).all (fun x => !x.1) && (backToKw pos (keywordEach [] X.env)).all (fun x => x.1.isSome)
      && decide ((e :: []).length + ([] : List Keyword).length + (if ([] : List Keyword).isEmpty then 0 else 1) < 30)) = true := by rfl)
    (hline : (apos.endLine == pos.line) = true := by rfl) (hs : starEach (e :: []) X.env = (false, eval e X.env) :: starEach [] X.env := by rfl) (hplain : (backTo pos (starEach [] X.env)).any (·.1) = false := by rfl) :
    PE X (.Call (.Attribute o "append" apos) [e] [] pos) (tE G (fm X) W (mMeth isL fAppend mo m)) :=
  me_bm (id := "list.append") hk (pe_bm PySem.F.plainAttrs_list PySem.F.slot_list_append PySem.F.type_list_append mt_append ho ha hbase hfew hline hs hplain) isL_ok (ms_append)
theorem me_extend {o : Expr} {apos : Pos} {mo : EM} {m : AM} (hk : X.K = G.K) (ho : PE X o (tE G (fm X) W mo)) (ha : PA X [e] (tA G (fm X) W m))
    (hbase : attributeBase o "extend" X.env (eval o X.env) = eval o X.env := by rfl)
    (hfew : ((backTo pos (starEach (e :: []) X.env)).all (fun x => !x.1) && (backToKw pos (keywordEach [] X.env)).all (fun x => x.1.isSome)
      && decide ((e :: []).length + ([] : List Keyword).length + (if ([] : List Keyword).isEmpty then 0 else 1) < 30)) = true := by rfl)
    (hline : (apos.endLine == pos.line) = true := by rfl) (hs : starEach (e :: []) X.env = (false, eval e X.env) :: starEach [] X.env := by rfl) (hplain : (backTo pos (starEach [] X.env)).any (·.1) = false := by rfl) :
    PE X (.Call (.Attribute o "extend" apos) [e] [] pos) (tE G (fm X) W (mMeth isL fExtend mo m)) :=
  me_bm (id := "list.extend") hk (pe_bm PySem.F.plainAttrs_list PySem.F.slot_list_extend PySem.F.type_list_extend mt_extB ho ha hbase hfew hline hs hplain) isL_ok (ms_extend hk)
theorem me_pop {o : Expr} {apos : Pos} {mo : EM} (hk : X.K = G.K) (ho : PE X o (tE G (fm X) W mo))
    (hbase : attributeBase o "pop" X.env (eval o X.env) = eval o X.env := by rfl) (hline : (apos.endLine == pos.line) = true := by rfl) :
    PE X (.Call (.Attribute o "pop" apos) [] [] pos) (tE G (fm X) W (mMeth isL fPop mo mNil)) :=
  me_bm0 (id := "list.pop") hk (pe_bm0 PySem.F.plainAttrs_list PySem.F.slot_list_pop PySem.F.type_list_pop mt_pop ho hbase hline) isL_ok ms_pop
/-! ### defs -/
def PostF (G : Gd) (ρ : List Addr) (H : Hp) (Q : VK) : AV → Sto → Prop := fun v S' => ∀ ρ' H', Ext ρ H ρ' H' → Rel G ρ' S' H' → ∀ x, RV G ρ' H' v x → Q x H'
def PostFX (G : Gd) (ρ : List Addr) (H : Hp) (E : XK) : AE → Lo → Sto → Prop := fun e _ S' => ∀ ρ' H', Ext ρ H ρ' H' → Rel G ρ' S' H' → ∀ cls d, RE G ρ' H' e cls d → E cls d H'
abbrev Fn := List AV → Sto → Out AV
def SPf (G : Gd) (n : Nat) (f : Fn) : Sp := fun vs H Q E => ∃ ρ S xs, Rel G ρ S H ∧ RVs G ρ H xs vs ∧ xs.length = n ∧ (f xs S).Sat (PostF G ρ H Q) (PostFX G ρ H E)
theorem SPf.len {n : Nat} {f : Fn} {vs : List V} {H : Hp} {Q : VK} {E : XK} (h : SPf G n f vs H Q E) : vs.length = n := by
  obtain ⟨ρ, S, xs, _, r, e, _⟩ := h
  rw [RVs_len r, e]
theorem Stt.fwd {ρ ρ' : List Addr} {S S' : Sto} {ls : Lo} {σ : L2.St} {H H' : Hp} (T : Stt G F ρ S ls σ H) (x : Ext ρ H ρ' H') (R : Rel G ρ' S' H') : Stt G F ρ' S' ls σ H' := ⟨R, T.len, fun i => by
  have hl := T.loc i
  cases ql : nth ls i with
  | u => trivial
  | v a =>
    rw [ql] at hl
    obtain ⟨z, h1, h2⟩ := hl
    exact ⟨z, h1, h2.mono x a⟩
  | c k => rw [ql] at hl; exact hl.elim, T.ok⟩
def startL (N : Nat) (xs : List AV) : Lo := xs.map LV.v ++ List.replicate (N - xs.length) .u
def runF (N : Nat) (body : SM) : Fn := fun xs S => (body (startL N xs) S).bind fun r S1 => match r.1 with
  | .nx => .ok .non S1
  | .rt v => .ok v S1
  | _ => .bad
theorem nth_eq : ∀ (l : Lo) (i : Nat), nth l i = (l[i]?).getD .u
  | [], i => by simp [nth]
  | x :: r, 0 => by simp [nth]
  | x :: r, i + 1 => by simp [nth, nth_eq r i]
theorem start_stt {ρ : List Addr} {S : Sto} {H : Hp} {xs : List AV} {vs : List V} {N : List Str} (R : Rel G ρ S H) (r : RVs G ρ H xs vs) : Stt G F0 ρ S (startL N.length xs) (L2.start N vs) H := by
  have hl := RVs_len r
  refine ⟨R, ?_, fun i => ?_, F0_ok⟩
  · unfold L2.start startL
    simp [hl]
  · unfold startL
    rw [nth_eq]
    by_cases h : i < xs.length
    · obtain ⟨v, hv, rvA⟩ := RVs_get r (List.getElem?_eq_getElem h)
      have e1 : (xs.map LV.v ++ List.replicate (N.length - xs.length) LV.u)[i]? = some (.v xs[i]) := by
        rw [List.getElem?_append_left (by simpa using h)]
        simp [h]
      rw [e1]
      refine ⟨v, ?_, rvA⟩
      unfold L2.start
      rw [List.getElem?_append_left (by simpa [hl] using h)]
      simp [hv]
    · have e1 : ((xs.map LV.v ++ List.replicate (N.length - xs.length) LV.u)[i]?).getD .u = .u := by
        rw [List.getElem?_append_right (by simpa using h)]
        cases q : (List.replicate (N.length - xs.length) LV.u)[i - (xs.map LV.v).length]? with
        | none => rfl
        | some y =>
          have := List.mem_of_getElem? q
          rw [List.mem_replicate] at this
          rw [this.2]
          rfl
      rw [e1]
      trivial
abbrev WF (E : XK) : WX := fun cls d _ H => E cls d H
/-- a def keeps to elA plain function -/
theorem fn_ok {P : Program} {w : World} {K : PySem.W.Frag} {mg : Str → Option Value} {base : Heap} {N ps : List Str} {k n : Nat} {x qual : Str} {params : Arguments} {body : List Stmt} {scope : Scope} {dvs : List V} {kws : List (Str × V)} {f : Addr} {fd : FuncData} {m : SM}
    (Fd : FunD K x qual params body scope dvs kws f fd) (Sc : FnScope N ps scope) (hn : ps.length = n)
    (hbody : ∀ (cdv : Value) (A : Around) (outer : List Env) (s : Shared) (H : Hp) (E : XK), fd.code = cdv → Room k (A.deeper (envOfC qual scope s.heap.objs.size f cdv)) →
      PSs (cxOf (L2.CX P w) P w K mg base N qual scope f cdv A outer s H E) body (tS G F0 (WF E) m)) : FnOk P w K mg base (L2.CX P w) (k + 1) f fd ps (SPf G n (runF N.length m)) := by
  obtain ⟨oc, od, dV, kV, doc, pm, an, cdv, ct, osl, rfl, lk, hcd, _, _⟩ := Fd.ex
  refine fn_of lk hcd Sc (fun vs H Q E h => by rw [h.len, hn]) fun A outer s H vs Q E hr hsp => ?_
  refine ⟨_, hbody cdv A outer s H E rfl hr, ?_⟩
  obtain ⟨ρ, S, xs, R, r, e, h⟩ := hsp
  refine ⟨ρ, S, _, start_stt R r, Out.sat_mono (fun q S1 z ρ1 H1 σ1 x1 T1 => ?_) (fun e L S1 z ρ1 H1 σ1 x1 T1 cls d re => z ρ1 H1 x1 T1.rel cls d re) (Out.sat_bind.mp h)⟩
  obtain ⟨fl, L⟩ := q
  cases fl with
  | nx => exact z ρ1 H1 x1 T1.rel _ rv_non
  | rt v => exact fun y ry => z ρ1 H1 x1 T1.rel y ry
  | br => exact z.elim
  | ct => exact z.elim
/-- the frame's names as they stood at the call -/
def exL (ls : Lo) : Out AV → Out AV
  | .ok a S => .ok a S
  | .ex e _ S => .ex e ls S
  | .bad => .bad
  | .dr n k => .dr n fun i => exL ls (k i)
theorem exL_sat {P P' : AV → Sto → Prop} {E E' : AE → Lo → Sto → Prop} {ls : Lo} (hP : ∀ a S, P a S → P' a S) (hE : ∀ e L S, E e ls S → E' e L S) : ∀ {m : Out AV}, (exL ls m).Sat P E → m.Sat P' E'
  | .ok _ _, h => hP _ _ h
  | .ex _ _ _, h => hE _ _ _ h
  | .bad, h => h
  | .dr n k, h => fun i h0 h1 => exL_sat hP hE (h i h0 h1)
def callF (n : Nat) (f : Fn) (xs : List AV) (ls : Lo) (S : Sto) : Out AV := match Nat.beq xs.length n with
  | true => exL ls (f xs S)
  | false => .bad
theorem callF_sp {n : Nat} {f : Fn} {xs : List AV} {ls : Lo} {S : Sto} {σ : L2.St} {ρ : List Addr} {H : Hp} {Q : VK} {vs : List V} (T : Stt G F ρ S ls σ H) (r : RVs G ρ H xs vs) (h : (callF n f xs ls S).Sat (PostV G F ρ ls σ H Q) (PostX G F W ρ H)) : SPf G n f vs H Q (WE W σ) := by
  unfold callF at h
  cases q : Nat.beq xs.length n with
  | false => rw [q] at h; exact h.elim
  | true =>
    rw [q] at h
    refine ⟨ρ, S, xs, T.rel, r, Nat.eq_of_beq_eq_true q, exL_sat (fun a S' z ρ' H' x R y ry => z ρ' H' x (T.fwd x R) y ry) (fun e L S' z ρ' H' x R cls d re => z ρ' H' σ x (T.fwd x R) cls d re) h⟩
def mCallF (n : Nat) (f : Fn) (m : AM) : EM := fun ls S => (m ls S).bind fun xs S1 => callF n f xs ls S1
theorem me_call {x : Str} {k n : Nat} {fd : FuncData} {ps : List Str} {f : Fn} {ad : Addr} {m : AM} {isS : Pos} (Fk : FnOk X.prog X.w X.K X.mg X.base (L2.CX X.prog X.w) k ad fd ps (SPf G n f)) (hr : Room k X.A) (hm : X.mg x = some (.ref ad)) (hk : PySem.W.keepIn X.K (.ref ad) = true) (hb : Binds X.K fd ps []) (tk : Takes X W)
    (ha : PA X (e :: es) (tA G (fm X) W m)) (hg : Gl X x := by rfl) (hdb : (x == ("__debug__" : Str)) = false := by decide) (he : starEach (e :: es) X.env = (false, eval e X.env) :: starEach es X.env := by rfl) (hpl : (backTo pos (starEach es X.env)).any (·.1) = false := by rfl) :
    PE X (.Call (.Name x isS) (e :: es) [] pos) (tE G (fm X) W (mCallF n f m)) := by
  refine PE_imp (pe_callS Fk hr hg hm hk hb (passAt tk) ha hdb he hpl) fun σ H Q ⟨ρ, S, ls, T, h⟩ => ?_
  refine tA_bind T h fun vs S1 ρ1 H1 xs h1 x1 T1 r1 => ?_
  exact callF_sp T1 r1 (Out.sat_mono (fun _ _ z => z.ext x1) (fun _ _ _ z => z) h1)
/-- a def by value, in a local name -/
def mCallV (i : Nat) (D : Nat → Option (Nat × Fn)) (m : AM) : EM := fun ls S => match nth ls i with
  | .v (.fn j) => match D j with
    | some (n, f) => mCallF n f m ls S
    | none => .bad
  | _ => .bad
theorem me_callV (i : Nat) {x : Str} {k : Nat} {D : Nat → Option (Nat × Fn)} {m : AM} {isS : Pos} (hD : ∀ j n f, D j = some (n, f) → ∃ fd ps, FnOk X.prog X.w X.K X.mg X.base (L2.CX X.prog X.w) k (G.fa j) fd ps (SPf G n f) ∧ PySem.W.keepIn X.K (.ref (G.fa j)) = true ∧ Binds X.K fd ps []) (hr : Room k X.A) (tk : Takes X W)
    (ha : PA X (e :: es) (tA G (fm X) W m)) (hN : X.N[i]? = some x := by rfl) (hv : Vis X.env.scope x := by first | exact Or.inl rfl | exact Or.inr (Or.inl rfl) | exact Or.inr (Or.inr rfl)) (hdb : (x == ("__debug__" : Str)) = false := by decide) (hcd : (x == ("__classdict__" : Str)) = false := by decide)
    (he : starEach (e :: es) X.env = (false, eval e X.env) :: starEach es X.env :=
        by rfl) (hpl : (backTo pos (starEach es X.env)).any (·.1) = false := by rfl) :
    PE X (.Call (.Name x isS) (e :: es) [] pos) (tE G (fm X) W (mCallV i D m)) := by
  refine ⟨fun pins s σ H Q I h => ?_⟩
  obtain ⟨ρ, S, ls, T, h⟩ := h
  have l := T.loc i
  unfold mCallV at h
  cases q : nth ls i with
  | u => rw [q] at h; exact h.elim
  | c k => rw [q] at h; exact h.elim
  | v av =>
    rw [q] at h l
    cases av with
    | fn j =>
      cases qd : D j with
      | none => simp only [qd] at h; exact h.elim
      | some nf =>
        obtain ⟨n, f⟩ := nf
        simp only [qd] at h
        obtain ⟨fd, ps, Fk, hk, hb⟩ := hD j n f qd
        obtain ⟨xOld, hs, rx⟩ := l
        unfold RV at rx
        subst rx
        have ht : tA G (fm X) W m σ H (fun vs H1 => SPf G n f vs H1 Q (WE W σ)) := by
          refine tA_bind (f := fun xs S1 => callF n f xs ls S1) T h fun vs S1 ρ1 H1 xs h1 x1 T1 r1 => ?_
          exact callF_sp T1 r1 (Out.sat_mono (fun _ _ z => z.ext x1) (fun _ _ _ z => z) h1)
        refine wpAny_Call_Name_kw (thn ((pe_var (pos := isS) hN hv hdb hcd).run pins s σ H (fun v H1 => v = .ref (G.fa j) ∧ H1 = H) I ⟨_, hs, rfl, rfl⟩) fun u s1 ⟨v, H1, I1, r1, got⟩ => ?_)
        obtain ⟨rfl, rfl⟩ := got
        cases r1
        refine PySem.W.callWith_K (h₀ :=
            X.base) I.ok.mod.kin hk (thn (ha.run pos pins s1 σ _ _ I1 ht) fun us s2 ⟨vs, H2, I2, r, q⟩ => ⟨I2.kIn, ?_⟩) he hpl
        exact run_fnS Fk hr hb (passAt tk σ) I2 r q
    | _ => exact h.elim
end
end Sh

end

section
set_option maxHeartbeats 2000000
namespace PySem
namespace OX_text
open PySem.W PySem.Calls PyProof.Rows PySem.HandSPX
/-! ### the text of __init__ -/
def iA (p1 p2 : Pos) : Arguments := { posonlyargs := [], args := [{ arg := "self", annotation := none, pos := p1 }, { arg := "text", annotation := none, pos := p2 }], vararg := none, kwonlyargs := [], kw_defaults := [], kwarg := none, defaults := [] }
def iB (q1 q2 q3 q4 : Pos) : List Stmt := [.Assign [.Attribute (.Name "self" q1) "text" q2] (.Name "text" q3) q4]
def iS : Scope := { kind := .function, names := [(PySem.Str.ofString "self", .local), (PySem.Str.ofString "text", .local)], isGenerator := false, isCoroutine := false, more := [] }
/-- what the written part says of Low, at C, and of its __init__, at fI -/
structure OTxt (K : Frag) (mg : Str → Option Value) (C fI : Addr) : Prop where
  gC : mg "BadText" = some (.ref C)
  cls : ∃ nm q N bs bm sn sub ab col dd k0 k1 k2 k3 k5, K.lookup C = some (excClassObj nm q C N bs bm true sn sub ab col dd k0 k1 k2 k3 k5 "ValueError.__new__") ∧ refsVE bm = true
  sa : findIn K (.ref C) "__setattr__" = some (some (.builtin "object.__setattr__"))
  ga : findIn K (.ref C) "__getattribute__" = some (some (.builtin "BaseException.__getattribute__"))
  gg : findIn K (.ref C) "__getattr__" = some none
  noN : findIn K (.ref C) "text" = some none
  iC : findIn K (.ref C) "__init__" = some (some (.ref fI))
  tC : typeIn K (.ref fI) = some (.type "function")
  kC : keepIn K (.ref C) = true
  exC : subIn K (.ref C) (.type "BaseException") = some true
  tyC : typeIn K (.ref C) = some (.type "type")
  hdC : hasDictIn K C = true
  te : exmOne K (.ref C) (.ref C) = some true
  fn : ∃ (oc : Value) (od : Option Addr) (doc pm kV : Value) (an : Option Addr) (cdv ct : Value) (osl : Array (Option Value)) (p1 p2 q1 q2 q3 q4 : Pos),
    K.lookup fI = some ⟨oc, od, .func (fnOf "__init__" "BadText.__init__" (iA p1 p2) (iB q1 q2 q3 q4) iS .none kV doc pm an cdv ct), osl⟩ ∧ codeIn K cdv "BadText.__init__" = true
theorem one_size (v : Value) : [v].length ≤ sizeLine := by
  rw [sizeLine_eq]
  exact (by decide : 1 ≤ 16777216)
theorem kept_but {K : Frag} {h h' : Heap} {x : Addr} (X : K.In h) (hx : K.lookup x = none) (k : ∀ b o, b ≠ x → h.get? b = some o → h'.get? b = some o) : K.In h' := fun a o e =>
  k a o (fun z => by rw [z, hx] at e; cases e) (X a o e)
theorem ldC {M : Model} {s : Shared} {name : Str} {scope : Scope} {L a : Addr} {cd : Value} {m : Str → Option Value} {x : Str} {pos : Pos} {v : Value} {Q : Value → Shared → Prop} {A : Around} {E : Value → Shared → Prop} (hn : s.heap.Ns L m) (hv : m x = some v) (h : Q v s)
    (hk : scope.kind = .function := by rfl) (hl : (envOfC name scope L a cd).kindOf x = some .local := by rfl) (hd : (x == ("__debug__" : Str)) = false := by decide) :
    wpAny M A (eval (.Name x pos) (envOfC name scope L a cd)) Q E s := wpAny_Name (wpAny_loadName_local hk hl hn hv h) hd
/-- what __init__ leaves of a fresh exception at x -/
structure InitEnd (h h' : Heap) (x C dx t1 : Addr) (v : Value) : Prop where
  keep : ∀ b o, b ≠ x → h.get? b = some o → h'.get? b = some o
  obj : h'.get? x = some { cls := .ref C, dict := some dx, data := .fields #[.ref t1, .none, .none, .none, .bool false, .none] }
  dbig : h.objs.size ≤ dx
  dne : dx ≠ x
  ns : h'.Ns1 dx (fun y => if y = "text" then some v else none)

structure OwnMade (h h' : Heap) (e C d : Addr) (v : Value) : Prop where
  keep : ∀ b o, h.get? b = some o → h'.get? b = some o
  new : h.objs.size ≤ e
  obj : ∃ oe vs, h'.get? e = some oe ∧ oe.cls = .ref C ∧ oe.dict = some d ∧ oe.data = .fields vs ∧ vs[1]? = some .none
  dbig : h.objs.size ≤ d
  dne : d ≠ e
  ns : h'.Ns1 d (fun y => if y = "text" then some v else none)
section
variable {prog : Program} {w : World} {A : Around} {E : Value → Shared → Prop} {R : Result → Shared → Prop} {s : Shared} {K : Frag} {mg : Str → Option Value} {C fI : Addr}
theorem oinit_text (T : OTxt K mg C fI) {x t0 : Addr} {v : Value} (X : K.In s.heap) (hlim : s.heap.NoLimit) (hx : s.heap.get? x = some (excO C t0)) (hnx : K.lookup x = none) (hroom : A.depth < recursionLimit)
    (hq : ∀ h' tk dx, InitEnd s.heap h' x C dx t0 v → R (.ok (.ret .none)) { s with heap := h', toks := tk }) :
    codeAny (model prog w) A (.call (.ref fI) ⟨[.ref x, v], []⟩) R s := by
  obtain ⟨oc, od, doc, pm, kV, an, cdv, ct, osl, p1, p2, q1, q2, q3, q4, ho, hcd⟩ := T.fn
  obtain ⟨nm, q, N, bs, bm, sn, sub, ab, col, dd, k0, k1, k2, k3, k5, hC, hbm⟩ := T.cls
  have hcl : clsIn K C = some { name := nm, bases := bs, mro := .ref C :: bm, ns := N, qualname := q, hasDict := true, slotNames := sn, subclasses := sub, abstract := ab, collection := col, hasDel := false } := by unfold clsIn; rw [hC] <;> rfl
  refine Att.call_fn (binds := [("self", .ref x), ("text", v)]) X hlim ho hcd hroom (BindsTo.of_eq (by first | rfl | with_unfolding_all rfl)) (by first | rfl | decide | with_unfolding_all rfl) (fun s₁ IC => ?_) rfl rfl rfl
  obtain ⟨h₁, tk₁, rfl⟩ := IC.toInCall.same
  have k : ∀ b o, s.heap.get? b = some o → h₁.get? b = some o := IC.toInCall.keep
  have hn := IC.toInCall.ns
  have hxL : s.heap.objs.size ≠ x := Nat.ne_of_gt (Heap.lt_size hx)
  have X₁ : K.In h₁ := X.keeps k
  have hx₁ := k _ _ hx
  -- self.by = by
  show wpAny _ _ (execs _ _) _ _ _
  refine wpAny_execs_cons (plainObj_wpAny_Assign_Attribute ?_)
  refine ldC (v := v) hn (by first | rfl | with_unfolding_all rfl | kernel_rfl) (ldC (v := .ref x) hn (by first | rfl | with_unfolding_all rfl | kernel_rfl) ?_)
  refine set_plain X₁ (ox := excO C t0) (od := none) ⟨hx₁, rfl, rfl, trivial⟩ T.sa ?_
  refine exc_osa X₁ hx₁ hcl (show refsVE (.ref C :: bm) = true from hbm) rfl T.noN (fun h₃ tk₃ dx k₃ dn dne hx₃ hn₃ => ?_)
  show wpAny _ _ (execs _ _) _ _ _
  have z : s.heap.objs.size < h₁.objs.size := hn.lt
  exact wpAny_execs_nil (hq h₃ tk₃ dx ⟨fun b o hb e => k₃ b o hb (k b o e), hx₃, Nat.le_of_lt (Nat.lt_of_lt_of_le z dn), dne, hn₃⟩)
theorem omade_text (T : OTxt K mg C fI) {v : Value} (X : K.In s.heap) (hlim : s.heap.NoLimit) (hroom : A.depth + 1 < recursionLimit)
    (hq : ∀ h' tk e d, OwnMade s.heap h' e C d v → R (.ok (.ret (.ref e))) { s with heap := h', toks := tk }) :
    codeAny (model prog w) A (.call (.ref C) ⟨[v], []⟩) R s := by
  obtain ⟨nm, q, N, bs, bm, sn, sub, ab, col, dd, k0, k1, k2, k3, k5, hC, hbm⟩ := T.cls
  obtain ⟨hp, g, dr, tk, os⟩ := s
  have k : ∀ b o, hp.get? b = some o → ((hp.push (kdv_tup [v])).push (excO C hp.objs.size)).get? b = some o := fun b o e => Heap.get?_push_of_some _ (Heap.get?_push_of_some _ e)
  have hget : ((hp.push (kdv_tup [v])).push (excO C hp.objs.size)).get? (hp.objs.size + 1) = some (excO C hp.objs.size) := by heap_get
  have hnx : K.lookup (hp.objs.size + 1) = none := by
    cases e : K.lookup (hp.objs.size + 1) with
    | none => rfl
    | some o =>
      have z : hp.get? (hp.objs.size + 1) = some o := X _ _ e
      exact absurd (Nat.lt_of_succ_lt (Heap.lt_size z)) (Nat.lt_irrefl _)
  refine call_own F.excBase_ValueError (fun X => refsVE_contains X bm hbm) (X _ _ hC) (looks_findIn X T.iC) (fun self => bind_fn X self T.tC) (one_size v) ?_
  refine oinit_text (s := ⟨(hp.push (kdv_tup [v])).push (excO C hp.objs.size), g, dr, tk, os⟩) T (X.keeps k) (hlim.keeps k) hget hnx ?_ fun h' tk' dx ⟨k', hx, dn, dne, hns⟩ => ?_
  · show A.depth + 1 < recursionLimit
    exact hroom
  · have old : ∀ b o, hp.get? b = some o → h'.get? b = some o := fun b o e => k' b o (Nat.ne_of_lt (Nat.lt_succ_of_lt (Heap.lt_size e))) (k b o e)
    have z : hp.objs.size + 1 + 1 ≤ dx := by
      first
        | (simpa only [Heap.size_push] using dn)
        | exact dn
        | (have q := dn; rw [Heap.size_push, Heap.size_push] at q; exact q)
    exact ⟨rfl, hq h' tk' (hp.objs.size + 1) dx ⟨old, Nat.le_succ _, ⟨_, _, hx, rfl, rfl, rfl, rfl⟩, Nat.le_trans (Nat.le_trans (Nat.le_succ _) (Nat.le_succ _)) z, dne, hns⟩⟩
end
end OX_text
end PySem
namespace L2
open PySem PySem.Spec PyProof.Rows
theorem relO_text {v : V} {v' : Value} (r : RelV v v') (f : Str) : RelO (List.lookup f [(("text" : Str), v)]) (if f = "text" then some v' else none) := by
  by_cases hw : f = "text"
  · subst hw
    rw [if_pos rfl]
    have q : List.lookup ("text" : Str) [(("text" : Str), v)] = some v := by simp [List.lookup]
    rw [q]
    exact r
  · rw [if_neg hw]
    have qw : (f == ("text" : Str)) = false := by simpa using hw
    have q2 : List.lookup f [(("text" : Str), v)] = none := by simp [List.lookup, qw]
    rw [q2]
    trivial
section
variable {X : Cx} {C fI : Addr}
/-- BadText(e) -/
def tMk_text (C : Addr) (ta : TA) : St → Hp → XK → Prop := fun σ H Q => ta σ H fun vs H1 => ∃ v, vs = [v] ∧ ∀ d, H1 d = none → Q (.ref C) (some d) (upd H1 d (.xd [(("text" : Str), v)]))
theorem pmk_text {a : Expr} {ta : TA} {p pos : Pos} {k : Nat} (T : PySem.OX_text.OTxt X.K X.mg C fI) (hr : Room k X.A) (ha : PA X [a] ta) (hg : Gl X "BadText" := by rfl)
    (he : starEach (a :: []) X.env = (false, eval a X.env) :: starEach [] X.env := by rfl) (hpl : (backTo pos (starEach [] X.env)).any (·.1) = false := by rfl) :
    PMk X (.Call (.Name "BadText" p) [a] [] pos) (tMk_text C ta) := by
  intro pins s σ H Q I h
  refine wpAny_Call_Name_kw (ld_glob I hg T.gC ?_)
  refine PySem.W.callWith_K (h₀ := X.base) I.ok.mod.kin T.kC (thn (ha.run pos pins s σ H _ I h) fun us s1 hh => ?_) he hpl
  obtain ⟨vs, H1, I1, r1, v, ev, q1⟩ := hh
  subst ev
  refine ⟨I1.kIn, ?_⟩
  cases r1 with
  | cons rv rn =>
    rename_i v' us'
    cases rn
    show wpAny _ _ (call (.ref C) [v']) _ _ _
    have hlim := I1.nolimit
    obtain ⟨hp, g, dr, tk, os⟩ := s1
    refine wpAny_call (PySem.OX_text.omade_text T I1.kIn hlim (by have := hr.dp; omega) fun h' tk' e d M => ?_)
    show MkP X pins σ Q (.ref e) ⟨h', g, dr, tk', os⟩
    obtain ⟨oe, fv, hoe, hc, hd, hdat, h1⟩ := M.obj
    have hns := M.ns
    obtain ⟨G', g1, g2⟩ := restrict h' fun b => decide (b ≠ e)
    have gk : ∀ b, b ≠ e → G'.get? b = h'.get? b := fun b hb => g1 b (decide_eq_true hb)
    have ge : G'.get? e = none := g2 e (by simp)
    have old : ∀ b o, hp.get? b = some o → G'.get? b = some o := fun b o q => (gk b (Nat.ne_of_lt (Nat.lt_of_lt_of_le (Heap.lt_size q) M.new))).trans (M.keep b o q)
    have ob : ObjOk X.prog X.w (upd H1 d (.xd [(("text" : Str), v)])) G' d (.xd [(("text" : Str), v)]) :=
      ⟨_, hns.at (fun o q => (gk d M.dne).trans q), fun f => relO_text rv f⟩
    have J : Inv X pins σ (upd H1 d (.xd [(("text" : Str), v)])) ⟨G', g, dr, tk', os⟩ := I1.laid (t' := tk') old M.dbig ob
    refine ⟨e, oe, fv, ⟨G', g, dr, tk', os⟩, _, .ref C, some d, rfl, J, fun b o q => ?_, ge, hoe, ⟨hc, hd⟩, hdat, h1, ?_, rfl, I1.bare, raises_own T.exC T.tyC, q1 d (I1.hok.fresh M.dbig)⟩
    · by_cases hb : b = e
      · have q' : G'.get? b = some o := q
        rw [hb, ge] at q'; cases q'
      · exact (gk b hb).symm.trans q
    · rw [upd_ne (Ne.symm M.dne)]
      exact I1.hok.fresh M.new

def tRaise_text (C : Addr) (W : WX) (ta : TA) : TS := fun _ σ H => tMk_text C ta σ H fun cls d H' => W cls d σ H'
theorem psr_text {a : Expr} {ta : TA} {W : WX} {p pos pos2 : Pos} {k : Nat} (hc : X.calm = true) (T : PySem.OX_text.OTxt X.K X.mg C fI) (hr : Room k X.A) (tk : Takes X W) (ha : PA X [a] ta) (hg : Gl X "BadText" := by rfl)
    (he : starEach (a :: []) X.env = (false, eval a X.env) :: starEach [] X.env := by rfl) (hpl : (backTo pos (starEach [] X.env)).any (·.1) = false := by rfl) :
    PS X (.Raise (some (.Call (.Name "BadText" p) [a] [] pos)) none pos2) (tRaise_text C W ta) := ps_raise hc tk (pmk_text T hr ha hg he hpl)
end
end L2

namespace Sh
open PySem PySem.Spec PyProof.Rows L2
def mRaise_text (c f : Nat) (m : EM) : SM := fun ls S => (m ls S).bind fun v S1 => .ex ⟨c, [(f, v)]⟩ ls S1
theorem msr_text {X : Cx} {G : Gd} {W : WX} {fI : Addr} {a : Expr} {ma : EM} {p pos pos2 : Pos} {k : Nat} (c f : Nat) (hc : X.calm = true) (T : PySem.OX_text.OTxt X.K X.mg (G.ca c) fI) (hf : G.nm f = "text") (hr : Room k X.A) (tk : Takes X W) (ha : PE X a (tE G (fm X) W ma)) (hg : Gl X "BadText" := by rfl)
    (he : starEach (a :: []) X.env = (false, eval a X.env) :: starEach [] X.env := by rfl) (hpl : (backTo pos (starEach [] X.env)).any (·.1) = false := by rfl) :
    PS X (.Raise (some (.Call (.Name "BadText" p) [a] [] pos)) none pos2) (tS G (fm X) W (mRaise_text c f ma)) := by
  refine PS_imp (psr_text hc T hr tk (pa_cons ha pa_nil he) hg he hpl) fun D σ H ⟨ρ, S, ls, Tt, h⟩ => ?_
  refine tE_bind Tt h fun v S1 ρ1 H1 x h1 x1 T1 r1 => ?_
  refine ⟨x, rfl, fun d hd => ?_⟩
  obtain ⟨T2, x2⟩ := T1.side (o := .xd [(("text" : Str), x)]) hd
  refine h1 ρ1 _ σ (x2) T2 _ _ ⟨rfl, d, _, rfl, upd_same, x, [], by rw [hf], r1.mono x2 v, rfl⟩
end Sh
namespace PySem
namespace OX_program
open PySem.W PySem.Calls PyProof.Rows PySem.HandSPX
/-! ### the text of __init__ -/
def iA (p1 p2 : Pos) : Arguments := { posonlyargs := [], args := [{ arg := "self", annotation := none, pos := p1 }, { arg := "program", annotation := none, pos := p2 }], vararg := none, kwonlyargs := [], kw_defaults := [], kwarg := none, defaults := [] }
def iB (q1 q2 q3 q4 : Pos) : List Stmt := [.Assign [.Attribute (.Name "self" q1) "program" q2] (.Name "program" q3) q4]
def iS : Scope := { kind := .function, names := [(PySem.Str.ofString "self", .local), (PySem.Str.ofString "program", .local)], isGenerator := false, isCoroutine := false, more := [] }
/-- what the written part says of Low, at C, and of its __init__, at fI -/
structure OTxt (K : Frag) (mg : Str → Option Value) (C fI : Addr) : Prop where
  gC : mg "BadProgram" = some (.ref C)
  cls : ∃ nm q N bs bm sn sub ab col dd k0 k1 k2 k3 k5, K.lookup C = some (excClassObj nm q C N bs bm true sn sub ab col dd k0 k1 k2 k3 k5 "ValueError.__new__") ∧ refsVE bm = true
  sa : findIn K (.ref C) "__setattr__" = some (some (.builtin "object.__setattr__"))
  ga : findIn K (.ref C) "__getattribute__" = some (some (.builtin "BaseException.__getattribute__"))
  gg : findIn K (.ref C) "__getattr__" = some none
  noN : findIn K (.ref C) "program" = some none
  iC : findIn K (.ref C) "__init__" = some (some (.ref fI))
  tC : typeIn K (.ref fI) = some (.type "function")
  kC : keepIn K (.ref C) = true
  exC : subIn K (.ref C) (.type "BaseException") = some true
  tyC : typeIn K (.ref C) = some (.type "type")
  hdC : hasDictIn K C = true
  te : exmOne K (.ref C) (.ref C) = some true
  fn : ∃ (oc : Value) (od : Option Addr) (doc pm kV : Value) (an : Option Addr) (cdv ct : Value) (osl : Array (Option Value)) (p1 p2 q1 q2 q3 q4 : Pos),
    K.lookup fI = some ⟨oc, od, .func (fnOf "__init__" "BadProgram.__init__" (iA p1 p2) (iB q1 q2 q3 q4) iS .none kV doc pm an cdv ct), osl⟩ ∧ codeIn K cdv "BadProgram.__init__" = true
theorem one_size (v : Value) : [v].length ≤ sizeLine := by
  rw [sizeLine_eq]
  exact (by decide : 1 ≤ 16777216)
theorem kept_but {K : Frag} {h h' : Heap} {x : Addr} (X : K.In h) (hx : K.lookup x = none) (k : ∀ b o, b ≠ x → h.get? b = some o → h'.get? b = some o) : K.In h' := fun a o e =>
  k a o (fun z => by rw [z, hx] at e; cases e) (X a o e)
theorem ldC {M : Model} {s : Shared} {name : Str} {scope : Scope} {L a : Addr} {cd : Value} {m : Str → Option Value} {x : Str} {pos : Pos} {v : Value} {Q : Value → Shared → Prop} {A : Around} {E : Value → Shared → Prop} (hn : s.heap.Ns L m) (hv : m x = some v) (h : Q v s)
    (hk : scope.kind = .function := by rfl) (hl : (envOfC name scope L a cd).kindOf x = some .local := by rfl) (hd : (x == ("__debug__" : Str)) = false := by decide) :
    wpAny M A (eval (.Name x pos) (envOfC name scope L a cd)) Q E s := wpAny_Name (wpAny_loadName_local hk hl hn hv h) hd
/-- what __init__ leaves of a fresh exception at x -/
structure InitEnd (h h' : Heap) (x C dx t1 : Addr) (v : Value) : Prop where
  keep : ∀ b o, b ≠ x → h.get? b = some o → h'.get? b = some o
  obj : h'.get? x = some { cls := .ref C, dict := some dx, data := .fields #[.ref t1, .none, .none, .none, .bool false, .none] }
  dbig : h.objs.size ≤ dx
  dne : dx ≠ x
  ns : h'.Ns1 dx (fun y => if y = "program" then some v else none)

structure OwnMade (h h' : Heap) (e C d : Addr) (v : Value) : Prop where
  keep : ∀ b o, h.get? b = some o → h'.get? b = some o
  new : h.objs.size ≤ e
  obj : ∃ oe vs, h'.get? e = some oe ∧ oe.cls = .ref C ∧ oe.dict = some d ∧ oe.data = .fields vs ∧ vs[1]? = some .none
  dbig : h.objs.size ≤ d
  dne : d ≠ e
  ns : h'.Ns1 d (fun y => if y = "program" then some v else none)
section
variable {prog : Program} {w : World} {A : Around} {E : Value → Shared → Prop} {R : Result → Shared → Prop} {s : Shared} {K : Frag} {mg : Str → Option Value} {C fI : Addr}
theorem oinit_program (T : OTxt K mg C fI) {x t0 : Addr} {v : Value} (X : K.In s.heap) (hlim : s.heap.NoLimit) (hx : s.heap.get? x = some (excO C t0)) (hnx : K.lookup x = none) (hroom : A.depth < recursionLimit)
    (hq : ∀ h' tk dx, InitEnd s.heap h' x C dx t0 v → R (.ok (.ret .none)) { s with heap := h', toks := tk }) :
    codeAny (model prog w) A (.call (.ref fI) ⟨[.ref x, v], []⟩) R s := by
  obtain ⟨oc, od, doc, pm, kV, an, cdv, ct, osl, p1, p2, q1, q2, q3, q4, ho, hcd⟩ := T.fn
  obtain ⟨nm, q, N, bs, bm, sn, sub, ab, col, dd, k0, k1, k2, k3, k5, hC, hbm⟩ := T.cls
  have hcl : clsIn K C = some { name := nm, bases := bs, mro := .ref C :: bm, ns := N, qualname := q, hasDict := true, slotNames := sn, subclasses := sub, abstract := ab, collection := col, hasDel := false } := by unfold clsIn; rw [hC] <;> rfl
  refine Att.call_fn (binds := [("self", .ref x), ("program", v)]) X hlim ho hcd hroom (BindsTo.of_eq (by first | rfl | with_unfolding_all rfl)) (by first | rfl | decide | with_unfolding_all rfl) (fun s₁ IC => ?_) rfl rfl rfl
  obtain ⟨h₁, tk₁, rfl⟩ := IC.toInCall.same
  have k : ∀ b o, s.heap.get? b = some o → h₁.get? b = some o := IC.toInCall.keep
  have hn := IC.toInCall.ns
  have hxL : s.heap.objs.size ≠ x := Nat.ne_of_gt (Heap.lt_size hx)
  have X₁ : K.In h₁ := X.keeps k
  have hx₁ := k _ _ hx
  -- self.by = by
  show wpAny _ _ (execs _ _) _ _ _
  refine wpAny_execs_cons (plainObj_wpAny_Assign_Attribute ?_)
  refine ldC (v := v) hn (by first | rfl | with_unfolding_all rfl | kernel_rfl) (ldC (v := .ref x) hn (by first | rfl | with_unfolding_all rfl | kernel_rfl) ?_)
  refine set_plain X₁ (ox := excO C t0) (od := none) ⟨hx₁, rfl, rfl, trivial⟩ T.sa ?_
  refine exc_osa X₁ hx₁ hcl (show refsVE (.ref C :: bm) = true from hbm) rfl T.noN (fun h₃ tk₃ dx k₃ dn dne hx₃ hn₃ => ?_)
  show wpAny _ _ (execs _ _) _ _ _
  have z : s.heap.objs.size < h₁.objs.size := hn.lt
  exact wpAny_execs_nil (hq h₃ tk₃ dx ⟨fun b o hb e => k₃ b o hb (k b o e), hx₃, Nat.le_of_lt (Nat.lt_of_lt_of_le z dn), dne, hn₃⟩)
theorem omade_program (T : OTxt K mg C fI) {v : Value} (X : K.In s.heap) (hlim : s.heap.NoLimit) (hroom : A.depth + 1 < recursionLimit)
    (hq : ∀ h' tk e d, OwnMade s.heap h' e C d v → R (.ok (.ret (.ref e))) { s with heap := h', toks := tk }) :
    codeAny (model prog w) A (.call (.ref C) ⟨[v], []⟩) R s := by
  obtain ⟨nm, q, N, bs, bm, sn, sub, ab, col, dd, k0, k1, k2, k3, k5, hC, hbm⟩ := T.cls
  obtain ⟨hp, g, dr, tk, os⟩ := s
  have k : ∀ b o, hp.get? b = some o → ((hp.push (kdv_tup [v])).push (excO C hp.objs.size)).get? b = some o := fun b o e => Heap.get?_push_of_some _ (Heap.get?_push_of_some _ e)
  have hget : ((hp.push (kdv_tup [v])).push (excO C hp.objs.size)).get? (hp.objs.size + 1) = some (excO C hp.objs.size) := by heap_get
  have hnx : K.lookup (hp.objs.size + 1) = none := by
    cases e : K.lookup (hp.objs.size + 1) with
    | none => rfl
    | some o =>
      have z : hp.get? (hp.objs.size + 1) = some o := X _ _ e
      exact absurd (Nat.lt_of_succ_lt (Heap.lt_size z)) (Nat.lt_irrefl _)
  refine call_own F.excBase_ValueError (fun X => refsVE_contains X bm hbm) (X _ _ hC) (looks_findIn X T.iC) (fun self => bind_fn X self T.tC) (one_size v) ?_
  refine oinit_program (s := ⟨(hp.push (kdv_tup [v])).push (excO C hp.objs.size), g, dr, tk, os⟩) T (X.keeps k) (hlim.keeps k) hget hnx ?_ fun h' tk' dx ⟨k', hx, dn, dne, hns⟩ => ?_
  · show A.depth + 1 < recursionLimit
    exact hroom
  · have old : ∀ b o, hp.get? b = some o → h'.get? b = some o := fun b o e => k' b o (Nat.ne_of_lt (Nat.lt_succ_of_lt (Heap.lt_size e))) (k b o e)
    have z : hp.objs.size + 1 + 1 ≤ dx := by
      first
        | (simpa only [Heap.size_push] using dn)
        | exact dn
        | (have q := dn; rw [Heap.size_push, Heap.size_push] at q; exact q)
    exact ⟨rfl, hq h' tk' (hp.objs.size + 1) dx ⟨old, Nat.le_succ _, ⟨_, _, hx, rfl, rfl, rfl, rfl⟩, Nat.le_trans (Nat.le_trans (Nat.le_succ _) (Nat.le_succ _)) z, dne, hns⟩⟩
end
end OX_program
end PySem
namespace L2
open PySem PySem.Spec PyProof.Rows
theorem relO_program {v : V} {v' : Value} (r : RelV v v') (f : Str) : RelO (List.lookup f [(("program" : Str), v)]) (if f = "program" then some v' else none) := by
  by_cases hw : f = "program"
  · subst hw
    rw [if_pos rfl]
    have q : List.lookup ("program" : Str) [(("program" : Str), v)] = some v := by simp [List.lookup]
    rw [q]
    exact r
  · rw [if_neg hw]
    have qw : (f == ("program" : Str)) = false := by simpa using hw
    have q2 : List.lookup f [(("program" : Str), v)] = none := by simp [List.lookup, qw]
    rw [q2]
    trivial
section
variable {X : Cx} {C fI : Addr}
/-- BadProgram(e) -/
def tMk_program (C : Addr) (ta : TA) : St → Hp → XK → Prop := fun σ H Q => ta σ H fun vs H1 => ∃ v, vs = [v] ∧ ∀ d, H1 d = none → Q (.ref C) (some d) (upd H1 d (.xd [(("program" : Str), v)]))
theorem pmk_program {a : Expr} {ta : TA} {p pos : Pos} {k : Nat} (T : PySem.OX_program.OTxt X.K X.mg C fI) (hr : Room k X.A) (ha : PA X [a] ta) (hg : Gl X "BadProgram" := by rfl)
    (he : starEach (a :: []) X.env = (false, eval a X.env) :: starEach [] X.env := by rfl) (hpl : (backTo pos (starEach [] X.env)).any (·.1) = false := by rfl) :
    PMk X (.Call (.Name "BadProgram" p) [a] [] pos) (tMk_program C ta) := by
  intro pins s σ H Q I h
  refine wpAny_Call_Name_kw (ld_glob I hg T.gC ?_)
  refine PySem.W.callWith_K (h₀ := X.base) I.ok.mod.kin T.kC (thn (ha.run pos pins s σ H _ I h) fun us s1 hh => ?_) he hpl
  obtain ⟨vs, H1, I1, r1, v, ev, q1⟩ := hh
  subst ev
  refine ⟨I1.kIn, ?_⟩
  cases r1 with
  | cons rv rn =>
    rename_i v' us'
    cases rn
    show wpAny _ _ (call (.ref C) [v']) _ _ _
    have hlim := I1.nolimit
    obtain ⟨hp, g, dr, tk, os⟩ := s1
    refine wpAny_call (PySem.OX_program.omade_program T I1.kIn hlim (by have := hr.dp; omega) fun h' tk' e d M => ?_)
    show MkP X pins σ Q (.ref e) ⟨h', g, dr, tk', os⟩
    obtain ⟨oe, fv, hoe, hc, hd, hdat, h1⟩ := M.obj
    have hns := M.ns
    obtain ⟨G', g1, g2⟩ := restrict h' fun b => decide (b ≠ e)
    have gk : ∀ b, b ≠ e → G'.get? b = h'.get? b := fun b hb => g1 b (decide_eq_true hb)
    have ge : G'.get? e = none := g2 e (by simp)
    have old : ∀ b o, hp.get? b = some o → G'.get? b = some o := fun b o q => (gk b (Nat.ne_of_lt (Nat.lt_of_lt_of_le (Heap.lt_size q) M.new))).trans (M.keep b o q)
    have ob : ObjOk X.prog X.w (upd H1 d (.xd [(("program" : Str), v)])) G' d (.xd [(("program" : Str), v)]) :=
      ⟨_, hns.at (fun o q => (gk d M.dne).trans q), fun f => relO_program rv f⟩
    have J : Inv X pins σ (upd H1 d (.xd [(("program" : Str), v)])) ⟨G', g, dr, tk', os⟩ := I1.laid (t' := tk') old M.dbig ob
    refine ⟨e, oe, fv, ⟨G', g, dr, tk', os⟩, _, .ref C, some d, rfl, J, fun b o q => ?_, ge, hoe, ⟨hc, hd⟩, hdat, h1, ?_, rfl, I1.bare, raises_own T.exC T.tyC, q1 d (I1.hok.fresh M.dbig)⟩
    · by_cases hb : b = e
      · have q' : G'.get? b = some o := q
        rw [hb, ge] at q'; cases q'
      · exact (gk b hb).symm.trans q
    · rw [upd_ne (Ne.symm M.dne)]
      exact I1.hok.fresh M.new

def tRaise_program (C : Addr) (W : WX) (ta : TA) : TS := fun _ σ H => tMk_program C ta σ H fun cls d H' => W cls d σ H'
theorem psr_program {a : Expr} {ta : TA} {W : WX} {p pos pos2 : Pos} {k : Nat} (hc : X.calm = true) (T : PySem.OX_program.OTxt X.K X.mg C fI) (hr : Room k X.A) (tk : Takes X W) (ha : PA X [a] ta) (hg : Gl X "BadProgram" := by rfl)
    (he : starEach (a :: []) X.env = (false, eval a X.env) :: starEach [] X.env := by rfl) (hpl : (backTo pos (starEach [] X.env)).any (·.1) = false := by rfl) :
    PS X (.Raise (some (.Call (.Name "BadProgram" p) [a] [] pos)) none pos2) (tRaise_program C W ta) := ps_raise hc tk (pmk_program T hr ha hg he hpl)
end
end L2

namespace Sh
open PySem PySem.Spec PyProof.Rows L2
def mRaise_program (c f : Nat) (m : EM) : SM := fun ls S => (m ls S).bind fun v S1 => .ex ⟨c, [(f, v)]⟩ ls S1
theorem msr_program {X : Cx} {G : Gd} {W : WX} {fI : Addr} {a : Expr} {ma : EM} {p pos pos2 : Pos} {k : Nat} (c f : Nat) (hc : X.calm = true) (T : PySem.OX_program.OTxt X.K X.mg (G.ca c) fI) (hf : G.nm f = "program") (hr : Room k X.A) (tk : Takes X W) (ha : PE X a (tE G (fm X) W ma)) (hg : Gl X "BadProgram" := by rfl)
    (he : starEach (a :: []) X.env = (false, eval a X.env) :: starEach [] X.env := by rfl) (hpl : (backTo pos (starEach [] X.env)).any (·.1) = false := by rfl) :
    PS X (.Raise (some (.Call (.Name "BadProgram" p) [a] [] pos)) none pos2) (tS G (fm X) W (mRaise_program c f ma)) := by
  refine PS_imp (psr_program hc T hr tk (pa_cons ha pa_nil he) hg he hpl) fun D σ H ⟨ρ, S, ls, Tt, h⟩ => ?_
  refine tE_bind Tt h fun v S1 ρ1 H1 x h1 x1 T1 r1 => ?_
  refine ⟨x, rfl, fun d hd => ?_⟩
  obtain ⟨T2, x2⟩ := T1.side (o := .xd [(("program" : Str), x)]) hd
  refine h1 ρ1 _ σ (x2) T2 _ _ ⟨rfl, d, _, rfl, upd_same, x, [], by rw [hf], r1.mono x2 v, rfl⟩
end Sh

end

section
namespace Sh
open PySem PySem.Spec PyProof.Rows L2
/-- what the clauses wish of an exception of the body,
    one after the other -/
def wManyA (K : PySem.W.Frag) (i : Nat) (Wout : WX) (D : Ends) : List (Value × (Addr → Value → Option Addr → TS)) → WX
  | [] => Wout
  | (c, ts) :: r => fun cls d σ H => ∃ b, PySem.W.exmOne K cls c = some b ∧ (b = true → ∀ a, H a = none → ts a cls d { nx := fun σ' H' => D.nx (σ'.set i none) H', rt := D.rt, bk := fun σ' H' => D.bk (σ'.set i none) H', ct := fun σ' H' => D.ct (σ'.set i none) H' } (σ.set i (some (.ref a))) H) ∧ (b = false → wManyA K i Wout D r cls d σ H)
inductive HdsOkA (X : Cx) (n : Str) : List ExceptHandler → List (Value × (Addr → Value → Option Addr → TS)) → Prop
  | nil : HdsOkA X n [] []
  | cons {x : Str} {c : Value} {ts : Addr → Value → Option Addr → TS} {b₀ : Stmt} {suite : List Stmt} {np pos' : Pos} {hds : List ExceptHandler} {l : List
      (Value × (Addr → Value → Option Addr → TS))} (hc : Names X x c)
      (hsu : ∀ (a : Addr) (oe : Obj) (cls : Value) (d : Option Addr) (pn : List (Addr × Obj)), Zc cls d oe → (∃ vs, oe.data = .fields vs) → PSs (X.suite a ((a, oe) :: pn)) (b₀ :: suite) (ts a cls d)) (r : HdsOkA X n hds l) :
      HdsOkA X n (.ExceptHandler (some (.Name x np)) (some n) (b₀ :: suite) pos' :: hds) ((c, ts) :: l)
section
variable {X : Cx} {n : Str} {i : Nat} {body : List Stmt} {h₀ : ExceptHandler} {hds : List ExceptHandler} {l : List (Value × (Addr → Value → Option Addr → TS))} {pos : Pos} {tb : WX → TS} {Wout : WX}
theorem ps_try_manyA (hs : X.stack = X.env :: X.outer) (hf : X.env.frame = some X.env.locals) (hN : X.N.Nodup) (hi : X.N[i]? = some n) (hln : X.env.kindOf n = some .local) (tk : Takes X Wout)
    (hb : ∀ (W : WX) (pn : List (Addr × Obj)) (xe : Value → Shared → Prop), Takes (X.tr pn xe) W → PassesOwn (model X.prog X.w) X.A X.env xe → PSs (X.tr pn xe) body (tb W))
    (hh : HdsOkA X n (h₀ :: hds) l) : PS X (.Try body (h₀ :: hds) [] [] pos) (fun D σ H => tb (wManyA X.K i Wout D l) D σ H) := by
  refine ⟨fun pins s σ H D I h => ?_⟩
  have ok := I.ok
  have isLoc : Loc X.env.scope n := .inl hln
  have ownFr : X.A.frames = some (X.env :: X.outer) := by rw [ok.frames, hs]
  refine wpAny_Try_except ?_
  refine wpAny_mono ((hb (wManyA X.K i Wout D l) (X.pn ++ pins) (fun e s₁ => wpAny (model X.prog X.w) X.A (noteFrame e X.env) (fun _ s₂ => wpAny (model X.prog X.w) X.A (setFlight e none) (fun _ s₃ =>
    wpAny (model X.prog X.w) X.A (handleBy e X.env (h₀ :: hds)) (SP X pins D) X.xe s₃) X.xe s₂) X.xe s₁) (fun u s' given => ?_) PassesOwn.looking).run [] s σ H D (I.toTry _) h) (fun f s1 saw => ?_) (fun e s1 he => he)
  · -- the catch
    obtain ⟨a, B, sIn, pinsN, σ', H', cls, d, rfl, Kt, nbl, upA, sk, na, osr, agr, w⟩ := given
    have Ka : Inv X pins σ' H' sIn := Kt.ofTry ok
    have skA : Sky B (X.env :: X.outer) a (Zc cls d) X.env.locals s'.heap := by rw [← hs]; exact sk
    show wpAny (model X.prog X.w) X.A
        (noteFrame (.ref a) X.env) _ _ _
    refine Sky.land Zc.steady ownFr hf skA fun hpB flB upB => ?_
    have Kb : Inv X pins σ' H' { s' with heap := hpB } := Ka.landed nbl flB.1 (upA.trans upB) osr agr
    obtain ⟨obB, fvB, atB, zB, dB⟩ := flB.there
    have apart : ∀ {h : Heap} {o : Obj} {vs : Array Value}, h.FunFrames B (X.env :: X.outer) → h.get? a = some o → o.data = .fields vs → a ∉ frs (X.env :: X.outer) := fun {h o vs} allF e dd hm => by
      obtain ⟨_, o', e', nofr⟩ := allF.mem hm
      rw [e] at e'; cases e'
      exact nofr _ dd
    have apartA := apart flB.2.2.1 atB dB
    have neqL : a ≠ X.env.locals := fun z => apartA (List.mem_filterMap.mpr ⟨X.env, List.mem_cons_self, by rw [hf, z]⟩)
    have notF : a ∉ X.fs := fun hm => by
      obtain ⟨e, he, q⟩ :=
          List.mem_filterMap.mp hm
      exact apartA (List.mem_filterMap.mpr ⟨e, List.mem_cons_of_mem _ he, q⟩)
    have Sb := Kb.suite atB dB na neqL notF
    have go : ∀ {hds' : List ExceptHandler} {l' : List (Value × (Addr → Value → Option Addr → TS))}, HdsOkA X n hds' l' → wManyA X.K i Wout D l' cls d σ' H' →
        wpAny (model X.prog X.w) X.A (handleBy (.ref a) X.env hds') (SP X pins D) X.xe { s' with heap := hpB } := by
      intro hds' l' hk
      induction hk with
      | nil =>
        intro w
        refine wpAny_handleBy_nil ?_
        obtain ⟨k1, k2, k3, oe, vs, T, objT, tsN, he, hz, hd, h1, hr⟩ := id flB
        unfold PySem.passOn
        refine wpAny_bind
            (wpAny_field he hd h1 ?_)
        rw [if_neg (show ¬
            ((Value.ref T == Value.none) = true) from by simp)]
        have away : wpAny (model X.prog X.w) X.A (setFlight (.ref a) X.env.frame) (fun _ s4 => wpAny (model X.prog X.w) X.A (throw (.ref a) : Sem Flow) (SP X pins D) X.xe s4) X.xe { s' with heap := hpB } := by
          rw [hf]
          refine HandSPX.setFlight_upZ flB fun hpC hhC upC => wpAny_throw (tk _ _ ?_)
          exact ⟨a, B, sIn, pins, σ', H', cls, d, rfl, Ka, nbl, (upA.trans upB).trans upC, .inr (.inr (by rw [hs]; exact hhC)), na, osr, agr, w⟩
        first
          | exact wpAny_bind (wpAny_pure (wpAny_bind away))
          | exact wpAny_bind away
      | @cons x c ts b₀ suite np
          pos' hds2 l2 hc hsu r ih =>
        intro w
        obtain ⟨b, isB, yes, nay⟩ := w
        refine wpAny_handleBy_cons
            (codeAny_handlers_test ?_) (by intro q; cases q)
        have looks : PySem.W.Looks (model X.prog X.w) hpB (typeOf (.ref a)) cls := fun A Q E s k q => wpAny_typeOf_ref (k _ _ atB) (by rw [zB.1]; exact q)
        have meets1 := PySem.W.exm_one (M := model X.prog X.w) (Kb.kIn) looks isB
        have tst : ∀ {Q : Value → Shared → Prop} {E : Value → Shared → Prop}, Q c { s' with heap := hpB } → wpAny (model X.prog X.w) (X.A.mark (some (.ref a))) (eval (.Name x np) X.env) Q E { s' with heap := hpB } := fun {Q E} q => by
          obtain ⟨hg, noDbg, hm | ⟨hm, hv, noNn⟩⟩ := hc
          · exact ld_glob (X := X.suite a ((a, obB) :: (X.pn ++ pins))) Sb hg hm q noDbg
          · exact ld_blt (X := X.suite a ((a, obB) :: (X.pn ++ pins))) Sb hg hm hv q noNn noDbg
        refine tst (meets1.here ?_)
        cases b with
        | true =>
          refine (codeAny_handlers_suite_as (?_))
          refine HandSPX.lands_againZ flB fun hpC flC upC => ?_
          have Kc : Inv X pins σ' H' { s' with heap := hpC } := Ka.landed nbl flC.1 ((upA.trans upB).trans upC) osr agr
          obtain ⟨obC, fvC, atC, zC, dC⟩ := flC.there
          have Sc := Kc.suite atC dC na neqL notF
          refine store_ok (X := X.suite a ((a, obC) :: (X.pn ++ pins))) (v := .ref a) Sc hN hi isLoc rfl (fun s5 S5 => ?_) (.inr hln)
          refine wpAny_mono ((hsu a obC cls d (X.pn ++ pins) zC ⟨_, dC⟩).run [] s5 _ H' _ S5 (yes rfl a na)) (fun f s6 saw => ?_) (fun _ _ z => False.elim z)
          have end_ : ∀ {σZ : L2.St} {HZ : Hp} {Q : Shared → Prop}, Inv (X.suite a ((a, obC) :: (X.pn ++ pins))) [] σZ HZ s6 → (∀ sEnd, Inv X pins (σZ.set i none) HZ sEnd → Q sEnd) →
              wpAny (model X.prog X.w) X.A (do bindName X.env n .none; unbindBehindTheSuite X.env n pos') (fun _ sEnd => Q sEnd) X.xe s6 := fun {σZ HZ Q} SZ hq => gone_ok (SZ.unsuite ok) hN hi hln hq
          cases f with
          | next =>
            obtain ⟨σZ, HZ, SZ, qZ⟩ := saw
            exact end_ SZ fun sEnd KEnd => ⟨_, _, KEnd, qZ⟩
          | brk =>
            obtain ⟨σZ, HZ, SZ, qZ⟩ := saw
            exact end_ SZ fun sEnd KEnd => ⟨_, _, KEnd, qZ⟩
          | cont =>
            obtain ⟨σZ, HZ, SZ, qZ⟩ := saw
            exact end_ SZ fun sEnd KEnd => ⟨_, _, KEnd, qZ⟩
          | ret u =>
            obtain ⟨vZ, σZ, HZ, SZ, rZ, qZ⟩ := saw
            exact end_ SZ fun sEnd KEnd => ⟨_, _, _, KEnd, rZ, qZ⟩
        | false =>
          show wpAny _ X.A (handleBy
              (.ref a) X.env hds2) _ _ _
          exact ih (nay rfl)
    exact go hh w
  · cases f with
    | next =>
      obtain ⟨σ', H', Kt, q⟩ := saw
      exact wpAny_execs_nil ⟨σ', H', Kt.ofTry ok, q⟩
    | brk =>
      obtain ⟨σ', H', Kt, q⟩ := saw
      exact ⟨σ', H', Kt.ofTry ok, q⟩
    | cont =>
      obtain ⟨σ', H', Kt, q⟩ := saw
      exact ⟨σ', H', Kt.ofTry ok, q⟩
    | ret u =>
      obtain ⟨v, σ', H', Kt, r, q⟩ := saw
      exact ⟨v, σ', H', Kt.ofTry ok, r, q⟩
end

end Sh

end

section
namespace Sh
open PySem PySem.Spec PyProof.Rows L2 LamX
theorem Takes.lenI {X : Cx} {W : WX} (t : Takes X W) : Takes X (fun c d σ H => σ.length = X.N.length → W c d σ H) := fun u s' ⟨a, B, sI, pins, σ, H, cls, d, e, I, nb, up, sky, na, os, ag, w⟩ =>
  t u s' ⟨a, B, sI, pins, σ, H, cls, d, e, I, nb, up, sky, na, os, ag, w I.len⟩
abbrev Cl := Addr × Str × Option Str
/-- what the clauses make of an exception -/
def metE (K : PySem.W.Frag) (Q : VK) : List Cl → XK
  | [] => fun _ _ _ => False
  | (c, word, fo) :: r => fun cls d H => ∃ b, PySem.W.exmOne K cls (.ref c) = some b ∧ (b = true → match fo with
      | some fld => cls = .ref c ∧ ∃ (dd : Addr) (fs : List (Str × V)) (v : V), d = some dd ∧ H dd = some (.xd fs) ∧ fs.lookup fld = some v ∧ ∀ isS, H isS = none → Q (.ref isS) (upd H isS (.tup [.str word, v]))
      | none => ∀ isS, H isS = none → Q (.ref isS) (upd H isS (.tup [.str word, .non]))) ∧ (b = false → metE K Q r cls d H)
def TMet (K : PySem.W.Frag) (told : Str) (l : List Cl) : (XK → Hp → VK → Prop) → Hp → VK → Prop := fun tl H Q => tl (metE K Q l) H fun x H' => ∀ isS, H' isS = none → Q (.ref isS) (upd H' isS (.tup [.str told, x]))
/-- the clauses' text -/
inductive MetCl (X : Cx) (n : Str) : List ExceptHandler → List Cl → Prop
  | nil : MetCl X n [] []
  | fld {x word fld : Str} {c : Addr} {np isA isB p3 p4 p5 pos' : Pos} {j kk : Nat} {hds : List ExceptHandler} {l : List Cl} (hc : Names X x (.ref c)) (T : XfC X.K c) (hno : PySem.W.findIn X.K (.ref c) fld = some none) (hb : attributeBase (.Name n isB) fld X.env (eval (.Name n isB) X.env) = eval (.Name n isB) X.env)
      (r : MetCl X n hds l) : MetCl X n (.ExceptHandler (some (.Name x np)) (some n) [.Return (some (.Tuple [.Constant (.str word) j isA, .Attribute (.Name n isB) fld p3] kk p4)) p5] pos' :: hds) ((c, word, some fld) :: l)
  | non {x word : Str} {c : Addr} {np isA isB p4 p5 pos' : Pos} {j j2 kk : Nat} {hds : List ExceptHandler} {l : List Cl} (hc : Names X x (.ref c))
      (r : MetCl X n hds l) : MetCl X n (.ExceptHandler (some (.Name x np)) (some n) [.Return (some (.Tuple [.Constant (.str word) j isA, .Constant .none j2 isB] kk p4)) p5] pos' :: hds) ((c, word, none) :: l)
def clT (i : Nat) (cl : Cl) : Value × (Addr → Value → Option Addr → TS) := (.ref cl.1, fun a cls d => match cl.2.2 with
  | some fld => tRet (tTup (tCons (tC (.str cl.2.1)) (tCons (tXf a cls d cl.1 fld (tVar i)) tNil)))
  | none => tRet (tTup (tCons (tC (.str cl.2.1)) (tCons (tC .non) tNil))))
theorem metCl_ok {X : Cx} {n : Str} {i : Nat} (hi : X.N[i]? = some n) (hv : Vis X.env.scope n) (hd : (n == ("__debug__" : Str)) = false) (hcd : (n == ("__classdict__" : Str)) = false) : ∀ {hds : List ExceptHandler} {l : List Cl}, MetCl X n hds l → HdsOkA X n hds (l.map (clT i))
  | _, _, .nil => .nil
  | _, _, .fld (c := c) (fld := fld) hc T hno hb r => .cons hc (fun a oe cls d pn atZ hf => pss_one (ps_ret (pe_tup (pa_cons (X := X.suite a ((a, oe) :: pn)) pe_str (pa_cons (pe_xf T hno atZ hf (pe_var hi hv hd hcd) hb) pa_nil))))) (metCl_ok hi hv hd hcd r)
  | _, _, .non (c := c) hc r => .cons hc (fun a oe cls d pn atZ hf => pss_one (ps_ret (pe_tup (pa_cons (X := X.suite a ((a, oe) :: pn)) pe_str (pa_cons pe_non pa_nil))))) (metCl_ok hi hv hd hcd r)
theorem sz2 {α : Type} {a b : α} : [a, b].length ≤ sizeLine := by rw [sizeLine_eq]; show 2 ≤ 16777216; decide
theorem metE_many {K : PySem.W.Frag} {Q : VK} {i n : Nat} {D : Ends} (hD : D.rt = Q) (hin : i < n) : ∀ {l : List Cl} {cls : Value} {d : Option Addr} {σ : L2.St} {H : Hp}, σ.length = n → metE K Q l cls d H → wManyA K i (fun _ _ _ _ => False) D (l.map (clT i)) cls d σ H
  | [], _, _, _, _, _, h => h
  | (c, word, fo) :: r, cls, d, σ, H, hl, h => by
    obtain ⟨b, e, h1, h2⟩ := h
    refine ⟨b, e, fun hb a ha => ?_, fun hb => metE_many hD hin hl (h2 hb)⟩
    have h3 := h1 hb
    cases fo with
    | some fld =>
      obtain ⟨ec, dd, fs, v, ed, eH, el, q⟩ := h3
      refine ⟨.ref a, ?_, rfl, ec, dd, fs, v, ed, eH, el, sz2, fun isS hp => ?_⟩
      · rw [List.getElem?_set_self (by omega)]
      · show D.rt _ _
        rw [hD]
        exact q isS hp
    | none =>
      refine ⟨sz2, fun isS hp => ?_⟩
      show D.rt _ _
      rw [hD]
      exact h3 isS hp
theorem met_gives {X : Cx} {Ng : List Str} {x a n q told : Str} {sg : Scope} {g : Addr} {cdg : Value} {hds : List ExceptHandler} {h₀ : ExceptHandler} {l : List Cl} {i j kk : Nat} {isA isB p3 p4 p5 p8 : Pos} (hN : Ng.Nodup) (hi : Ng[i]? = some n) (hln : ∀ s : Shared, (envOfC x sg s.heap.objs.size g cdg).kindOf n = some .local) (hvn : Vis sg n)
    (hd : (n == ("__debug__" : Str)) = false) (hcd : (n == ("__classdict__" : Str)) = false) (hcl : ∀ (s : Shared) (H : Hp), MetCl (cxOf C8.CX0 X.prog X.w X.K X.mg X.base Ng x sg g cdg X.A X.stack s H C8.E0).nox n (h₀ :: hds) l) (h0 : ∀ f : Addr, (L2.start Ng [V.ref f])[0]? = some (some (V.ref f))) :
    GivesTo X Ng x sg g cdg [.Try [.Return (some (.Tuple [.Constant (.str told) j p5, .Call (.Name a isA) [] [] isB] kk p3)) p4] (h₀ :: hds) [] [] p8] a q (TMet X.K told l) := by
  intro f c' s H Q tl act hc h
  have hin : i < Ng.length := (List.getElem?_eq_some_iff.mp hi).1
  refine ⟨_, pss_one (ps_try_manyA (X := (cxOf C8.CX0 X.prog X.w X.K X.mg X.base Ng x sg g cdg X.A X.stack s H C8.E0).nox) (i := i) (n := n)
      (tb := fun W D σ H => ∃ Eo : XK, (∀ cls d σ' H', σ'.length = Ng.length → Eo cls d H' → W cls d σ' H') ∧ σ[0]? = some (some (.ref f)) ∧ H c' = some (CodeO c' q) ∧ tl Eo H fun x H' => ∀ isS, H' isS = none → D.rt (.ref isS) (upd H' isS (.tup [.str told, x])))
      rfl rfl hN hi (hln s) L2.takes0 (fun W pn xe tk _ => ?_) (metCl_ok hi hvn hd hcd (hcl s H))), ?_⟩
  · refine ⟨fun pins s' σ H' D I h' =>
        ?_⟩
    obtain ⟨Eo, hW, h1, h2, h3⟩ := h'
    have hp := act _ pn xe Eo isA isB (Takes.lenI tk) (fun cls d σ' H' e hl => hW cls d σ' H' hl e)
    have hq := pss_one (ps_ret (pos := p4) (pe_tup (x1 := kk) (pos := p3) (pa_cons (pe_str (x := told) (j := j) (pos := p5)) (pa_cons hp pa_nil))))
    exact hq.run pins s' σ H' D I ⟨h1, h2, by
      have e : (fun (x : V) (H1 : Hp) => ∀ isS, H1 isS = none → D.rt (.ref isS) (upd H1 isS (.tup [.str told, x]))) = fun x H1 => [V.str told, x].length ≤ sizeLine ∧ ∀ isS, H1 isS = none → D.rt (.ref isS) (upd H1 isS (.tup [V.str told, x])) := by
        funext x H1
        exact propext ⟨fun z => ⟨sz2, z⟩, fun z => z.2⟩
      rw [e] at h3
      exact h3⟩
  · exact ⟨metE X.K Q l, fun cls d σ' H' hl e => metE_many rfl hin hl e, h0 f, hc, h⟩
section
variable {X : Cx} {G : Gd} {W : WX} {F : Fm}
theorem Imm.ntbl {o : HO} (h : Imm o) (ps : Array Value) : o ≠ .tbl ps := fun z => by rw [z] at h; exact h
theorem Stt.extN {ρ : List Addr} {S : Sto} {ls : Lo} {σ : L2.St} {H H1 : Hp} (T : Stt G F ρ S ls σ H) (e : ExtN H H1) (t : Tabs G.T H1) : Stt G F ρ S ls σ H1 ∧ Ext ρ H ρ H1 := by
  have x : Ext ρ H ρ H1 := ⟨⟨[], by simp⟩, fun a o h i => e a o h i.ntbl⟩
  · refine ⟨T.fwd x ⟨T.rel.len, T.rel.lt, T.rel.nd, fun i a o hi hg => ?_, t, T.rel.one⟩, x⟩
    have q := T.rel.obj i a o hi hg
    cases o with
    | lst xs => obtain ⟨vs, h1, h2⟩ := q; exact ⟨vs, e _ _ h1 (fun ps z => by cases z), h2.mono x xs⟩
    | dct kvs => obtain ⟨ps, h1, h2⟩ := q; exact ⟨ps, e _ _ h1 (fun ps z => by cases z), h2.mono x⟩
    | ins c fs => obtain ⟨dx, gs, h1, h2⟩ := q; exact ⟨dx, gs, e _ _ h1 (fun ps z => by cases z), h2.mono x⟩
    | cell ov => exact q.elim
    | strm c =>
      obtain ⟨l, ⟨d, m, xs, h1, h2, h3⟩, h4⟩ := q
      exact ⟨l, ⟨d, m, xs, e _ _ h1 (fun ps z => by cases z), e _ _ h2 (fun ps z => by cases z), h3⟩, h4⟩
/-! ### _law_met(lambda: ..) -/
def lookF (f : Nat) : List (Nat × AV) → Option AV
  | [] => none
  | (g, v) :: r => match Nat.beq g f with
    | true => some v
    | false => lookF f r
abbrev ACl := Nat × List Nat × Option Nat
def metX (nc : Nat) (e : AE) (S : Sto) : List ACl → Out AV
  | [] => .bad
  | (c, word, fo) :: r => match Nat.blt e.c nc, Nat.blt c nc with
    | true, true => match Nat.beq e.c c with
      | true => match fo with
        | some f => match lookF f e.fs with
          | some v => .ok (.tup [.str word, v]) S
          | none => .bad
        | none => .ok (.tup [.str word, .non]) S
      | false => metX nc e S r
    | _, _ => .bad
def met (nc : Nat) (told : List Nat) (l : List ACl) : Out AV → Out AV
  | .ok v S => .ok (.tup [.str told, v]) S
  | .ex e _ S => metX nc e S l
  | .bad => .bad
  | .dr n k => .dr n fun i => met nc told l (k i)
def mMet (nc : Nat) (told : List Nat) (l : List ACl) (m : EM) : EM := fun ls S => met nc told l (m ls S)
def clOf (G : Gd) (q : ACl) : Cl := (G.ca q.1, toS q.2.1, q.2.2.map G.nm)
def ExmOk (G : Gd) (nc : Nat) : Prop := ∀ a b : Nat, a < nc → b < nc → PySem.W.exmOne G.K (.ref (G.ca a)) (.ref (G.ca b)) = some (Nat.beq a b) ∧ (Nat.beq a b = false → G.ca a ≠ G.ca b)
def NmInj (G : Gd) : Prop := ∀ a b : Nat, G.nm a = G.nm b → a = b
theorem FR_look {ρ : List Addr} {H : Hp} (hn : NmInj G) {f : Nat} {v : AV} : ∀ {fs : List (Nat × AV)} {gs : List (Str × V)}, FR G ρ H fs gs → lookF f fs = some v → ∃ x, gs.lookup (G.nm f) = some x ∧ RV G ρ H v x
  | [], _, _, h => by cases h
  | (g, w) :: r, gs, hr, h => by
    obtain ⟨x, hs, e, rw_, rr⟩ := hr
    subst e
    unfold lookF at h
    cases q : Nat.beq g f with
    | true =>
      rw [q] at h
      cases h
      have e := Nat.eq_of_beq_eq_true q
      subst e
      exact ⟨x, by simp [List.lookup], rw_⟩
    | false =>
      rw [q] at h
      obtain ⟨y, hy, ry⟩ := FR_look hn rr h
      refine ⟨y, ?_, ry⟩
      have ne : (G.nm f == G.nm g) = false := by
        rw [beq_eq_false_iff_ne]
        intro z
        have := hn _ _ z
        rw [this] at q
        simp [Nat.beq_refl] at q
      simp only [List.lookup, ne]
      exact hy
theorem tup2 {ρ : List Addr} {S : Sto} {ls : Lo} {σ : L2.St} {H : Hp} {a b : AV} {v w : V} {isS : Addr} (T : Stt G F ρ S ls σ H) (ra : RV G ρ H a v) (rb : RV G ρ H b w) (hp : H isS = none) :
    Stt G F ρ S ls σ (upd H isS (.tup [v, w])) ∧ Ext ρ H ρ (upd H isS (.tup [v, w])) ∧ RV G ρ (upd H isS (.tup [v, w])) (.tup [a, b]) (.ref isS) := by
  obtain ⟨T2, x2⟩ := T.side (o := .tup [v, w]) hp
  refine ⟨T2, x2, ?_⟩
  unfold RV
  refine ⟨isS, [v, w], rfl, SqT.of upd_same, ?_⟩
  unfold RVs
  exact ⟨v, [w], rfl, ra.mono x2 a, RVs_one (rb.mono x2 b)⟩
theorem metX_ok {nc : Nat} (hx : ExmOk G nc) (hn : NmInj G) {e : AE} {S : Sto} {Q : VK} {ρ ρ1 : List Addr} {ls : Lo} {σ : L2.St} {H H1 : Hp} {cls : Value} {d : Option Addr} {E : AE → Lo → Sto → Prop} (x1 : Ext ρ H ρ1 H1) (T : Stt G F ρ1 S ls σ H1) (re : RE G ρ1 H1 e cls d) :
    ∀ {l : List ACl}, (metX nc e S l).Sat (PostV G F ρ ls σ H Q) E → metE G.K Q (l.map (clOf G)) cls d H1
  | [], h => h
  | (c, word, fo) :: r, h => by
    unfold metX at h
    cases got : Nat.blt e.c nc with
    | false => simp only [got] at h; exact h.elim
    | true =>
      cases q2 : Nat.blt c nc with
      | false => simp only [got, q2] at h; exact h.elim
      | true =>
        simp only [got, q2] at h
        obtain ⟨ecls, efs⟩ := re
        obtain ⟨hx1, hx2⟩ := hx e.c c (Nat.le_of_ble_eq_true got) (Nat.le_of_ble_eq_true q2)
        refine ⟨_, by rw [ecls]; exact hx1, fun hb => ?_, fun hb => ?_⟩
        · rw [hb] at h
          have ec := Nat.eq_of_beq_eq_true hb
          cases fo with
          | some f =>
            dsimp only at h
            cases q3 : lookF f e.fs with
            | none => rw [q3] at h; exact h.elim
            | some v =>
              rw [q3] at h
              cases efs' : e.fs with
              | nil => rw [efs'] at q3; cases q3
              | cons z zs =>
                rw [efs'] at efs
                obtain ⟨a, gs, ed, eH, fr⟩ := efs
                rw [efs'] at q3
                obtain ⟨y, hy, ry⟩ := FR_look hn fr q3
                refine ⟨by rw [ecls, ec], a, gs, y, ed, eH, hy, fun isS hp => ?_⟩
                obtain ⟨T2, x2, rt⟩ := tup2 (a := .str word) (b := v) (v := .str (toS word)) (w := y) T (by unfold RV; rfl) ry hp
                exact h ρ1 _ (x1.trans x2) T2 _ rt
          | none =>
            intro isS hp
            obtain ⟨T2, x2, rt⟩ := tup2 (a := .str word) (b := .non) (v := .str (toS word)) (w := .non) T (by unfold RV; rfl) rv_non hp
            exact h ρ1 _ (x1.trans x2) T2 _ rt
        · rw [hb] at h
          exact metX_ok hx hn x1 T ⟨ecls, efs⟩ h
theorem met_sat {nc : Nat} {told : List Nat} {l : List ACl} {P P' : AV → Sto → Prop} {E E' : AE → Lo → Sto → Prop} (hP : ∀ v S, P (.tup [.str told, v]) S → P' v S) (hE : ∀ e L S, (metX nc e S l).Sat P E → E' e L S) : ∀ {m : Out AV}, (met nc told l m).Sat P E → m.Sat P' E'
  | .ok _ _, h => hP _ _ h
  | .ex _ _ _, h => hE _ _ _ h
  | .bad, h => h
  | .dr n k, h => fun i h0 h1 => met_sat hP hE (h i h0 h1)
theorem me_met {nc : Nat} {told : List Nat} {l : List ACl} {mb : EM} {x a : Str} {g c P : Addr} {k : Nat} {pg : Arguments} {sg : Scope} {bg : List Stmt} {fd : FuncData} {Ng : List Str}
    {params : Arguments} {body : Expr} {scope : Scope} {isS lpos pos : Pos} (hK : X.K = G.K) (hx : ExmOk G nc) (hn : NmInj G) (Fd : FunD X.K x x pg bg sg [] [] g fd) (hm : X.mg x = some (.ref g)) (hb : Binds X.K fd [a] []) (Sg : FnScope Ng [a] sg) (hNg : Ng[0]? = some a) (hva : Vis sg a)
    (hG : ∀ cdv, GivesTo X Ng x sg g cdv bg a (X.env.qual ++ "<lambda>") (TMet X.K (toS told) (l.map (clOf G))))
    (TB : TabB X.base X.mg c P) (hcode : X.env.code = .ref c) (hmT : (P, X.env.qual ++ "<lambda>") ∈ G.T) (hu : ∀ isS ∈ G.T, isS.1 = P → isS.2 = X.env.qual ++ "<lambda>") (hr : Room (k + 2) X.A) (L : LamS X.env.scope scope) (hdef : defaultsOf params X.env = ([], []))
    (hbind : ∀ (q : Str) (cl : List (Str × Addr)) (pm cv ctv : Value),
        bindArgs (PySem.W.kla_fn "<lambda>" q params body scope cl pm cv ctv) ⟨[], []⟩ = pure [])
    (hbody : ∀ (A : Around) (outer : List Env) (s : Shared) (H : Hp) (E : XK) (f c' : Addr), Room k (A.deeper (lamEnv X scope s.heap.objs.size f c')) → PE (lamCx X A outer s H E scope f c') body (tE G F0 (WF E) mb)) (hg : Gl X x := by rfl)
    (hdb : (x == ("__debug__" : Str)) = false := by decide) (hd : (a == ("__debug__" : Str)) = false :=
        by decide) (hcd : (a == ("__classdict__" : Str)) = false := by decide) :
    PE X (.Call (.Name x isS) [.Lambda params body scope lpos] [] pos) (tE G (fm X) W (mMet nc told l mb)) := by
  obtain ⟨oc, od, dV, kV, doc, pm, an, cdv, ct, osl, rfl, lk, hcg, _, _⟩ := Fd.ex
  refine PE_imp (pe_lamcall (T := G.T) (t := fun E => tE G F0 (WF E) mb) hg hm Fd.kp lk hcg hb Sg hNg hva (hG cdv) TB hcode hmT hu hr L hdef hbind hbody hdb hd hcd) fun σ H Q ⟨ρ, S, ls, T, h⟩ => ?_
  refine ⟨T.rel.tabs, fun H1 eN t1 => ?_⟩
  obtain ⟨T1, x1⟩ := T.extN eN t1
  refine ⟨ρ, S, ls, T1, met_sat (fun v S' z ρ' H' x2 T2 y ry isS hp => ?_) (fun e L S' z ρ' H' σ' x2 T2 cls d re => ?_) h⟩
  · obtain ⟨T3, x3, rt⟩ := tup2 (a := .str told) (b := v) (v := .str (toS told)) (w := y) T2 (by unfold RV; rfl) ry hp
    exact z ρ' _ (x1.trans (x2.trans x3)) T3 _ rt
  · rw [hK]
    exact metX_ok hx hn (x1.trans x2) ((T1.fwd x2 T2.rel)) re z
end
end Sh

end

section
namespace Sh
open PySem PySem.Spec PyProof.Rows L2
/-! ### the drawn stream: _law_stream, _law_draw -/
abbrev rAddI : R2 := rI0 fun i j => .int (i + j)
abbrev rMulI : R2 := rI CMul fun i j => .int (i * j)
abbrev rModI : R2 := rI (fun _ j => 0 < j) fun i j => .int (i % j)
abbrev rDivI : R2 := rI CDiv fun i j => .int (i / j)
abbrev rPowI : R2 := rI CPow fun i j => .int (i ^ j.toNat)
abbrev rAbs : List V → Hp → VK → Prop := fun xs H Q => ∃ i, xs = [.int i] ∧ Q (.int (if i < 0 then -i else i)) H
abbrev rInt1 : List V → Hp → VK → Prop := fun xs H Q => (∃ i, xs = [.int i] ∧ Q (.int i) H) ∨ ∃ k, xs = [.bl k] ∧ Q (.int (if k then 1 else 0)) H
abbrev tIx (K : PySem.W.Frag) (i : Int) : TE := tOp (rIx K) (tVar 0) (tC (.int i))
abbrev tInt (t : TE) : TE := tCB rInt1 (tCons t tNil)
abbrev sSt (te : TE) (i : Int) : TS := tAsg te (L2.gSub (tVar 0) (tC (.int i)) rSetL)
def drTest (K : PySem.W.Frag) : TT := tAnd (tTest (tOp rEq (tIx K 1) (tC (.int 0)))) (tTest (tOp (rNeD K) (tIx K 0) (tLst tNil)))
def drBody (K : PySem.W.Frag) : TS :=
  tSeq (tAsg (tCB rAbs (tCons (tBM K "list" rPopAt (tIx K 0) (tCons (tC (.int 0)) tNil)) tNil)) (gName 2)) <|
  tSeq (sSt (tOp rModI (tInt (tOp rAddI (tOp rAddI (tOp rMulI (tIx K 3) (tC (.int 8191))) (tVar 2)) (tC (.int 3)))) (tC (.int 2147483647))) 3)
    (sSt (tIf (tTest (tOp (rI0 fun i j => .bl (decide (j ≤ i))) (tVar 2) (tOp rPowI (tC (.int 10)) (tC (.int 18))))) (tVar 2) (tC (.int 0))) 1)
def t_draw (K : PySem.W.Frag) : TS :=
  tSeq (sSt (tOp rAddI (tIx K 2) (tC (.int 1))) 2) <|
  tSeq (tWhile (drTest K) (drBody K)) <|
  tSeq (tIfS (tTest (tOp (rI0 fun i j => .bl (decide (j < i))) (tIx K 1) (tC (.int 0))))
    (tSeq (tAsg (tOp rModI (tInt (tIx K 1)) (tVar 1)) (gName 3)) (tSeq (sSt (tOp rDivI (tIx K 1) (tVar 1)) 1) (tRet (tVar 3)))) tNext) <|
  tSeq (tAsg (tOp rModI (tInt (tOp rPowI (tOp rAddI (tOp rAddI (tIx K 3) (tOp rMulI (tC (.int 7919)) (tIx K 2))) (tC (.int 104729))) (tC (.int 5)))) (tC (.int 2147483629))) (gName 4))
    (tRet (tOp rModI (tOp rModI (tInt (tOp rPowI (tOp rAddI (tOp rAddI (tOp rMulI (tVar 4) (tC (.int 48271))) (tOp rMulI (tC (.int 30011)) (tIx K 2))) (tC (.int 29))) (tC (.int 3)))) (tC (.int 1000000007))) (tVar 1)))
/-- the stream at a, its script's rest at l -/
structure SAt (H : Hp) (a l : Addr) (d c m : Int) (xs : List Int) : Prop where
  ha : H a = some (.lst [.ref l, .int d, .int c, .int m])
  hl : H l = some (.lst (xs.map V.int))
  d0 : 0 ≤ d
  m0 : 0 ≤ m
  m1 : m < 2147483647
/-- nothing else is changed -/
def Oth (a l : Addr) (H H' : Hp) : Prop := ∀ b o, b ≠ a → b ≠ l → H b = some o → H' b = some o
theorem SAt.ne {H : Hp} {a l : Addr} {d c m : Int} {xs : List Int} (s : SAt H a l d c m xs) : l ≠ a := fun z => by
  have h := s.hl
  rw [z, s.ha] at h
  injection h with h
  injection h with h
  cases xs with
  | nil => cases h
  | cons x r => injection h with h1 h2; cases h1
theorem ixL {K : PySem.W.Frag} {H : Hp} {a : Addr} {xs : List V} {i : Int} {v : V} {Q : VK} (ha : H a = some (.lst xs)) (hv : atI xs i = some v) (q : Q v H) : rIx K (.ref a) (.int i) H Q := .inl ⟨a, xs, i, v, rfl, rfl, SqL.of ha, hv, q⟩
section
variable {K : PySem.W.Frag} {σ : L2.St} {H : Hp} {a l : Addr} {d c m : Int} {xs : List Int}
theorem tIx_ok {i : Int} {v : V} {Q : VK} (hs : σ[0]? = some (some (.ref a))) (s : SAt H a l d c m xs) (hv : atI [V.ref l, .int d, .int c, .int m] i = some v) (q : Q v H) : tIx K i σ H Q := ⟨_, hs, ixL s.ha hv q⟩
theorem SAt.set1 (s : SAt H a l d c m xs) {d' : Int} (h : 0 ≤ d') : SAt (upd H a (.lst [.ref l, .int d', .int c, .int m])) a l d' c m xs := ⟨upd_same, by rw [upd_ne s.ne]; exact s.hl, h, s.m0, s.m1⟩
theorem SAt.set2 (s : SAt H a l d c m xs) {c' : Int} : SAt (upd H a (.lst [.ref l, .int d, .int c', .int m])) a l d c' m xs := ⟨upd_same, by rw [upd_ne s.ne]; exact s.hl, s.d0, s.m0, s.m1⟩
theorem SAt.set3 (s : SAt H a l d c m xs) {m' : Int} (h0 : 0 ≤ m') (h1 : m' < 2147483647) : SAt (upd H a (.lst [.ref l, .int d, .int c, .int m'])) a l d c m' xs := ⟨upd_same, by rw [upd_ne s.ne]; exact s.hl, s.d0, h0, h1⟩
theorem SAt.new (s : SAt H a l d c m xs) {p : Addr} {o : HO} (hp : H p = none) : SAt (upd H p o) a l d c m xs := ⟨by rw [upd_ne (ne_of_none s.ha hp)]; exact s.ha, by rw [upd_ne (ne_of_none s.hl hp)]; exact s.hl, s.d0, s.m0, s.m1⟩
theorem SAt.pop {x : Int} (s : SAt H a l d c m (x :: xs)) : SAt (upd H l (.lst (xs.map V.int))) a l d c m xs := ⟨by rw [upd_ne (Ne.symm s.ne)]; exact s.ha, upd_same, s.d0, s.m0, s.m1⟩
theorem Oth.refl : Oth a l H H := fun _ _ _ _ h => h
theorem Oth.set {H' : Hp} (o : Oth a l H H') {u : HO} : Oth a l H (upd H' a u) := fun b w h1 h2 h => by rw [upd_ne h1]; exact o b w h1 h2 h
theorem Oth.pop {H' : Hp} (o : Oth a l H H') {u : HO} : Oth a l H (upd H' l u) := fun b w h1 h2 h => by rw [upd_ne h2]; exact o b w h1 h2 h
theorem Oth.new {H' : Hp} (o : Oth a l H H') {p : Addr} {u : HO} (hp : H' p = none) : Oth a l H (upd H' p u) := fun b w h1 h2 h => by
  have := o b w h1 h2 h
  rw [upd_ne (ne_of_none this hp)]; exact this
theorem dpInts {K : PySem.W.Frag} {H : Hp} : ∀ xs : List Int, DpAll K H (xs.map V.int) (xs.map PyData.int)
  | [] => .nil
  | x :: r => .cons (.int x) (dpInts r)
theorem shapedInts : ∀ xs : List Int, SeqAt.shaped (.list (xs.map PyData.int)) = true := by
  intro xs
  unfold SeqAt.shaped
  induction xs with
  | nil => rfl
  | cons x r ih => first | exact ih | simpa using ih
theorem ne_nil : ∀ xs : List Int, PyData.eqv (.list (xs.map PyData.int)) (.list []) = xs.isEmpty := by
  intro xs
  cases xs <;> rfl
end
def spDraw : Sp := fun vs H Q _ => ∃ (a l : Addr) (d m n : Int) (c : Nat) (xs : List Int), vs = [.ref a, .int n] ∧ SAt H a l d c m xs ∧ c < 1000000 ∧ 0 < n ∧ n < 1073741824 ∧
  ∀ (i : Int) (H' : Hp), 0 ≤ i → i < n → (∃ (d' m' : Int) (xs' : List Int), SAt H' a l d' ((c + 1 : Nat) : Int) m' xs') → Oth a l H H' → Q (.int i) H'
theorem iteT_of {k : Bool} {A B : Prop} (e : k = true) (h : A) : if k = true then A else B := by rw [if_pos e]; exact h
theorem iteF_of {k : Bool} {A B : Prop} (e : k = false) (h : B) : if k = true then A else B := by rw [e, if_neg Bool.false_ne_true]; exact h
def lenL : Option HO → Nat
  | some (.lst ys) => ys.length
  | _ => 0
theorem lenL_at {o : Option HO} {xs : List Int} (h : o = some (.lst (xs.map V.int))) : lenL o = xs.length := by rw [h]; simp [lenL]
theorem mod_lt {i j : Int} (h : 0 < j) : 0 ≤ i % j ∧ i % j < j := ⟨Int.emod_nonneg _ (by omega), Int.emod_lt_of_pos _ h⟩
theorem pure_draw {K : PySem.W.Frag} (vs : List V) (H0 : Hp) (Q : VK) (E : XK) (h : spDraw vs H0 Q E) : t_draw K { nx := fun _ H' => Q .non H', rt := Q } (L2.start ["stream", "many", "cell", "digit", "mixed"] vs) H0 := by
  obtain ⟨a, l, d0, m0, n, c, xs0, rfl, s0, hc, hn0, hn1, hq⟩ := h
  have hs0 : (L2.start ["stream", "many", "cell", "digit", "mixed"] [V.ref a, V.int n])[0]? = some (some (.ref a)) := rfl
  have hs1 : (L2.start ["stream", "many", "cell", "digit", "mixed"] [V.ref a, V.int n])[1]? = some (some (.int n)) := rfl
  have hlen : (L2.start ["stream", "many", "cell", "digit", "mixed"] [V.ref a, V.int n]).length = 5 := rfl
  generalize L2.start ["stream", "many", "cell", "digit", "mixed"] [V.ref a, V.int n] = σ0 at hs0 hs1 hlen
  refine tIx_ok hs0 s0 (i := 2) rfl ⟨c, 1, rfl, rfl, ?_⟩
  refine ⟨_, hs0, a, _, 2, 2, rfl, rfl, s0.ha, rfl, ?_⟩
  show tSeq (tWhile (drTest K) (drBody K)) _ _ σ0 (upd H0 a (.lst [.ref l, .int d0, .int ((c : Int) + 1), .int m0]))
  have s1 : SAt (upd H0 a (.lst [.ref l, .int d0, .int ((c : Int) + 1), .int m0])) a l d0 ((c : Int) + 1) m0 xs0 := s0.set2
  have o1 : Oth a l H0 (upd H0 a (.lst [.ref l, .int d0, .int ((c : Int) + 1), .int m0])) := Oth.refl.set
  generalize upd H0 a (.lst [.ref l, .int d0, .int ((c : Int) + 1), .int m0]) = H1 at s1 o1
  -- the loop
  refine ⟨fun k σ H => k = lenL (H l) ∧ σ[0]? = some (some (.ref a)) ∧ σ[1]? = some (some (.int n)) ∧ σ.length = 5 ∧ Oth a l H0 H ∧ ∃ d m xs, SAt H a l d ((c : Int) + 1) m xs,
    ⟨_, rfl, hs0, hs1, hlen, o1, _, _, _, s1⟩, ?_⟩
  · rintro _ σ H ⟨rfl, h0, h1, hl, o, d, m, xs, s⟩
    -- after the loop
    have after : ∀ {H : Hp} {d m : Int} {xs : List Int}, Oth a l H0 H → SAt H a l d ((c : Int) + 1) m xs →
        (tSeq (tIfS (tTest (tOp (rI0 fun i j => .bl (decide (j < i))) (tIx K 1) (tC (.int 0))))
          (tSeq (tAsg (tOp rModI (tInt (tIx K 1)) (tVar 1)) (gName 3)) (tSeq (sSt (tOp rDivI (tIx K 1) (tVar 1)) 1) (tRet (tVar 3)))) tNext) <|
        tSeq (tAsg (tOp rModI (tInt (tOp rPowI (tOp rAddI (tOp rAddI (tIx K 3) (tOp rMulI (tC (.int 7919)) (tIx K 2))) (tC (.int 104729))) (tC (.int 5)))) (tC (.int 2147483629))) (gName 4))
          (tRet (tOp rModI (tOp rModI (tInt (tOp rPowI (tOp rAddI (tOp rAddI (tOp rMulI (tVar 4) (tC (.int 48271))) (tOp rMulI (tC (.int 30011)) (tIx K 2))) (tC (.int 29))) (tC (.int 3)))) (tC (.int 1000000007))) (tVar 1))))
        { nx := fun _ H' => Q .non H', rt := Q } σ H := by
      intro H d m xs o s
      refine tIx_ok h0 s (i := 1) rfl ⟨_, _, rfl, rfl, _, rfl, ?_⟩
      by_cases hd : 0 < d
      · refine iteT_of (decide_eq_true hd) ?_
        refine tIx_ok h0 s (i := 1) rfl (.inl ⟨_, rfl, _, h1, _, _, rfl, rfl, hn0, ?_⟩)
        have m3 := mod_lt (i := d) hn0
        refine tIx_ok (σ := σ.set 3 (some (.int (d % n)))) (by rw [List.getElem?_set_ne (by decide)]; exact h0) s (i := 1) rfl ⟨_, by rw [List.getElem?_set_ne (by decide)]; exact h1, _, _, rfl, rfl, ⟨hn0, hn1⟩, ?_⟩
        refine ⟨_, by rw [List.getElem?_set_ne (by decide)]; exact h0, a, _, 1, 1, rfl, rfl, s.ha, rfl, ?_⟩
        refine ⟨_, by rw [List.getElem?_set_self (by omega)], ?_⟩
        refine hq _ _ m3.1 m3.2 ⟨d / n, m, xs, ?_⟩ o.set
        have := s.set1 (d' := d / n) (Int.ediv_nonneg s.d0 (by omega))
        exact_mod_cast this
      · refine iteF_of (decide_eq_false hd) ?_
        refine tIx_ok h0 s (i := 3) rfl ?_
        refine tIx_ok h0 s (i := 2) rfl ⟨_, _, rfl, rfl, .inl ⟨by decide, by decide⟩, ?_⟩
        refine ⟨_, _, rfl, rfl, _, _, rfl, rfl, _, _, rfl, rfl, ⟨by decide, by decide, ?_⟩, ?_⟩
        · have e1 := s.m0
          have e2 := s.m1
          have : 0 ≤ m + 7919 * ((c : Int) + 1) + 104729 := by omega
          omega
        refine .inl ⟨_, rfl, _, _, rfl, rfl, (show (0 : Int) < 2147483629 by decide), ?_⟩
        have m4 := mod_lt (i := (m + 7919 * ((c : Int) + 1) + 104729) ^ (5 : Int).toNat) (j := 2147483629) (by decide)
        refine ⟨_, by rw [List.getElem?_set_self (by omega)], _, _, rfl, rfl, .inr ⟨by decide, by decide⟩, ?_⟩
        refine tIx_ok (by rw [List.getElem?_set_ne (by decide)]; exact h0) s (i := 2) rfl ⟨_, _, rfl, rfl, .inl ⟨by decide, by decide⟩, ?_⟩
        refine ⟨_, _, rfl, rfl, _, _, rfl, rfl, _, _, rfl, rfl, ⟨by decide, by decide, ?_⟩, ?_⟩
        · generalize ((m + 7919 * ((c : Int) + 1) + 104729) ^ (5 : Int).toNat) % 2147483629 = mx at m4 ⊢
          have : 0 ≤ mx * 48271 + 30011 * ((c : Int) + 1) + 29 := by omega
          omega
        refine .inl ⟨_, rfl, _, _, rfl, rfl, (show (0 : Int) < 1000000007 by decide), ?_⟩
        refine ⟨_, by rw [List.getElem?_set_ne (by decide)]; exact h1, _, _, rfl, rfl, hn0, ?_⟩
        refine hq _ _ (mod_lt hn0).1 (mod_lt hn0).2 ⟨d, m, xs, ?_⟩ o
        exact_mod_cast s
    have hμ : lenL (H l) = xs.length := lenL_at s.hl
    -- the test
    refine tIx_ok h0 s (i := 1) rfl ⟨rfl, _, rfl, ?_⟩
    by_cases hd : d = 0
    · subst hd
      refine iteT_of (decide_eq_true rfl) ?_
      refine tIx_ok h0 s (i := 0) rfl ⟨by decide, fun p hp => ?_⟩
      have s2 := s.new (o := .lst []) hp
      have o2 := o.new (u := .lst []) hp
      refine ⟨.list (xs.map PyData.int), .list [], .lst (SqL.of s2.hl) (dpInts xs), .lst (SqL.of upd_same) .nil, shapedInts xs, rfl, _, rfl, ?_⟩
      rw [ne_nil]
      cases xs with
      | nil => exact iteF_of rfl (after o2 s2)
      | cons x r =>
        refine iteT_of rfl ⟨fun σ' H' => (σ'[0]? = some (some (.ref a)) ∧ σ'[1]? = some (some (.int n)) ∧ σ'.length = 5 ∧ Oth a l H0 H' ∧ ∃ d m xs, SAt H' a l d ((c : Int) + 1) m xs) ∧
            lenL (H' l) < lenL (H l), fun σ' H' ⟨p1, p2⟩ => ⟨_, p2, rfl, p1⟩, ?_⟩
        -- the body
        refine tIx_ok h0 s2 (i := 0) rfl ⟨.inl ⟨rfl, _, SqL.of s2.hl⟩, ?_⟩
        refine ⟨l, _, 0, 0, .int x, rfl, rfl, s2.hl, by decide, by decide, by simp [seqIndex?], rfl, x, rfl, ?_⟩
        have s3 : SAt (upd (upd H p (.lst [])) l (.lst (((x :: r).map V.int).eraseIdx 0))) a l 0 ((c : Int) + 1) m r := s2.pop
        have o3 : Oth a l H0 (upd (upd H p (.lst [])) l (.lst (((x :: r).map V.int).eraseIdx 0))) := o2.pop
        generalize upd (upd H p (.lst [])) l (.lst (((x :: r).map V.int).eraseIdx 0)) = H3 at s3 o3
        have hab : 0 ≤ (if x < 0 then -x else x) := by split <;> omega
        generalize (if x < 0 then -x else x) = cell at hab
        have k0 : (σ.set 2 (some (.int cell)))[0]? = some (some (.ref a)) := by rw [List.getElem?_set_ne (by decide)]; exact h0
        have k2 : (σ.set 2 (some (.int cell)))[2]? = some (some (.int cell)) := by rw [List.getElem?_set_self (by omega)]
        refine tIx_ok k0 s3 (i := 3) rfl ⟨_, _, rfl, rfl, .inr ⟨by decide, by decide⟩, ?_⟩
        refine ⟨_, k2, _, _, rfl, rfl, _, _, rfl, rfl, .inl ⟨_, rfl, _, _, rfl, rfl, (show (0 : Int) < 2147483647 by decide), ?_⟩⟩
        have m6 := mod_lt (i := m * 8191 + cell + 3) (j := 2147483647) (by decide)
        refine ⟨_, k0, a, _, 3, 3, rfl, rfl, s3.ha, rfl, ?_⟩
        have s4 := s3.set3 m6.1 m6.2
        have o4 : Oth a l H0 (upd H3 a (.lst [.ref l, .int 0, .int ((c : Int) + 1), .int ((m * 8191 + cell + 3) % 2147483647)])) := o3.set
        have fin : ∀ d' : Int, 0 ≤ d' → L2.gSub (tVar 0) (tC (.int 1)) rSetL (.int d') (σ.set 2 (some (.int cell))) (upd H3 a (.lst [.ref l, .int 0, .int ((c : Int) + 1), .int ((m * 8191 + cell + 3) % 2147483647)])) (fun σ' H' => (σ'[0]? = some (some (.ref a)) ∧ σ'[1]? = some (some (.int n)) ∧ σ'.length = 5 ∧ Oth a l H0 H' ∧ ∃ d m xs, SAt H' a l d ((c : Int) + 1) m xs) ∧
            lenL (H' l) < lenL (H l)) := fun d' hd' => by
          refine ⟨_, k0, a, _, 1, 1, rfl, rfl, s4.ha, rfl, ⟨k0, by rw [List.getElem?_set_ne (by decide)]; exact h1, by rw [List.length_set]; exact hl, o4.set, _, _, _, s4.set1 hd'⟩, ?_⟩
          rw [hμ]
          refine Nat.lt_of_le_of_lt (Nat.le_of_eq (lenL_at (s4.set1 hd').hl)) ?_
          simp
        refine ⟨_, k2, _, _, rfl, rfl, ⟨by decide, by decide, by decide⟩, _, _, rfl, rfl, _, rfl, ?_⟩
        by_cases hb : (10 : Int) ^ (18 : Int).toNat ≤ cell
        · refine iteT_of (decide_eq_true hb) ⟨_, k2, fin _ hab⟩
        · exact iteF_of (decide_eq_false hb) (fin 0 (by decide))
    · refine iteF_of (decide_eq_false (by simpa using hd)) (after o s)
end Sh

end

section
namespace Sh
open PySem PySem.Spec PyProof.Rows L2 LamX
section
variable {G : Gd} {ρ : List Addr} {S : Sto} {H : Hp}
/-- a new object, and what the store does not hold -/
theorem Rel.newK {H' : Hp} {p : Addr} {ao : AO} (R : Rel G ρ S H) (hs : S.ok = true) (hp : H p = none) (k : ∀ b o, H b = some o → H' b = some o) (hc : ao.isCell = false) (ho : OR G (ρ ++ [p]) H' p ao) (hns : ao.isStrm = false := by rfl) :
    Rel G (ρ ++ [p]) (S.new ao) H' ∧ Ext ρ H (ρ ++ [p]) H' := by
  have x : Ext ρ H (ρ ++ [p]) H' := ⟨⟨[p], rfl⟩, fun a u h _ => k a u h⟩
  have hlt : S.n < 1000000000 := Nat.le_of_ble_eq_true hs
  have gn : ∀ {j : Nat}, j ≤ S.n → (S.new ao).get j = if j = S.n then some ao else S.get j := fun {j} h => Sto.get_new (small40 R.lt) (small40 (Nat.le_trans h R.lt))
  have jle : ∀ {j : Nat} {b : Addr}, (ρ ++ [p])[j]? = some b → j ≤ S.n := fun {j b} h => by
    have := (List.getElem?_eq_some_iff.mp h).1
    rw [List.length_append, List.length_singleton, R.len] at this
    omega
  have old : ∀ {j : Nat} {b : Addr} {u : AO}, (ρ ++ [p])[j]? = some b → (S.new ao).get j = some u → (j = S.n ∧ b = p ∧ u = ao) ∨ (ρ[j]? = some b ∧ S.get j = some u ∧ j ≠ S.n) := fun {j b u} h g => by
    rw [gn (jle h)] at g
    rcases get_app h with q | ⟨q, e⟩
    · have hj := (List.getElem?_eq_some_iff.mp q).1
      rw [R.len] at hj
      rw [if_neg (by omega)] at g
      exact .inr ⟨q, g, by omega⟩
    · rw [R.len] at q
      rw [if_pos q] at g
      exact .inl ⟨q, e, (Option.some.inj g).symm⟩
  have hne : ∀ {j : Nat} {b : Addr} {u : AO}, ρ[j]? = some b → S.get j = some u → u.isCell = false → H b ≠ none := fun {j b u} h g hu => by
    have q := R.obj j b u h g
    cases u with
    | lst xs => obtain ⟨_, e, _⟩ := q; rw [e]; exact fun z => by cases z
    | dct kvs => obtain ⟨_, e, _⟩ := q; rw [e]; exact fun z => by cases z
    | ins c fs => obtain ⟨_, _, e, _⟩ := q; rw [e]; exact fun z => by cases z
    | cell v => cases hu
    | strm c => obtain ⟨_, ⟨_, _, _, e, _⟩, _⟩ := q; rw [e]; exact fun z => by cases z
  refine ⟨⟨?_, ?_, fun i j a u u' hi hj gi gj hc' => ?_, fun i a u hi gi => ?_, R.tabs.ext k, fun i j a b c c' hi hj gi gj => ?_⟩, x⟩
  · rw [List.length_append, List.length_singleton, R.len]; rfl
  · show S.n + 1 ≤ _; omega
  · rcases old hi gi with ⟨e1, e2, e3⟩ | ⟨h1, g1, n1⟩ <;> rcases old hj gj with ⟨f1, f2, f3⟩ | ⟨h2, g2, n2⟩
    · rw [e1, f1]
    · exfalso
      rw [e3, hc] at hc'
      exact hne h2 g2 hc'.symm (by rw [e2]; exact hp)
    · exfalso
      rw [f3, hc] at hc'
      exact hne h1 g1 hc' (by rw [f2]; exact hp)
    · exact R.nd i j a u u' h1 h2 g1 g2 hc'
  · rcases old hi gi with ⟨_, e2, e3⟩ | ⟨h1, g1, _⟩
    · rw [e2, e3]; exact ho
    · refine (R.obj i a u h1 g1).mono x (show Keep none H H' from fun b u _ h => k b u h) (fun _ z => by cases z) (fun _ _ _ _ z => by cases z) fun j b h => ?_
      rcases get_app h with q | ⟨_, e⟩
      · exact .inl q
      · rw [e]; exact .inr hp
  · rcases old hi gi with ⟨_, _, e3⟩ | ⟨h1, g1, _⟩
    · rw [← e3] at hns; cases hns
    · rcases old hj gj with ⟨_, _, e3⟩ | ⟨h2, g2, _⟩
      · rw [← e3] at hns; cases hns
      · exact R.one i j a b c c' h1 h2 g1 g2
end
section
variable {X : Cx} {G : Gd} {W : WX} {F : Fm} {ma : EM} {a e : Expr} {pos : Pos}
/-! ### {}, list(d.items()) -/
def mDnew : EM := fun _ S => match S.ok with
  | true => .ok (.ref S.n) (S.new (.dct []))
  | false => .bad
theorem me_dnew : PE X (.Dict [] [] pos) (tE G (fm X) W mDnew) := PE_imp pe_dnewK fun σ H Q ⟨ρ, S, ls, T, h⟩ => by
  unfold mDnew at h
  cases q : S.ok with
  | false => rw [q] at h; exact h.elim
  | true =>
    rw [q] at h
    intro p hp
    obtain ⟨T2, x2⟩ := T.new (o := .dK []) (ao := .dct []) q hp rfl ⟨[], upd_same, rfl⟩
    refine h _ _ x2 T2 _ ?_
    unfold RV
    exact ⟨p, by rw [← T.rel.len]; simp, rfl⟩
def mItems (m : EM) : EM := fun ls S => (m ls S).bind fun v S1 => match v with
  | .ref i => match S1.get i with
    | some (.dct []) => newL [] S1
    | _ => .bad
  | _ => .bad
theorem me_items {p apos cpos : Pos} {x : Str} (hx : x = "list") (hc : X.calm = true) (he : PE X e (tE G (fm X) W ma)) (hm : X.mg "list" = none) (hg : Gl X "list" := by rfl) (hbase : attributeBase e "items" X.env (eval e X.env) = eval e X.env := by rfl) (hline : (apos.endLine == cpos.line) = true := by rfl)
    (hs : starEach [.Call (.Attribute e "items" apos) [] [] cpos] X.env = (false,
        eval (.Call (.Attribute e "items" apos) [] [] cpos) X.env) :: starEach [] X.env := by rfl) :
    PE X (.Call (.Name x p) [.Call (.Attribute e "items" apos) [] [] cpos] [] pos) (tE G (fm X) W (mItems ma)) := by
  subst hx
  refine PE_imp (LiI.pe_listItems hc he hg hm (by rfl) hbase hline hs) fun σ H Q ⟨ρ, S, ls, T, h⟩ => ?_
  refine tE_bind T h fun v S1 ρ1 H1 x h1 x1 T1 r1 => ?_
  split at h1
  · rename_i i
    unfold RV at r1
    obtain ⟨q, hq, rfl⟩ := r1
    split at h1
    · rename_i hg2
      obtain ⟨ps, e1, kr⟩ := T1.rel.obj i q _ hq hg2
      unfold KR at kr
      subst kr
      refine ⟨q, [], rfl, e1, fun H' p ts k hp _ _ hl hpr => ?_⟩
      have e2 : ts = [] := by cases hpr; rfl
      subst e2
      unfold newL at h1
      cases q2 : S1.ok with
      | false => rw [q2] at h1; exact h1.elim
      | true =>
        rw [q2] at h1
        obtain ⟨R, x2⟩ := T1.rel.newK (ao := .lst []) q2 hp k rfl ⟨[], hl, by unfold RVs; rfl⟩
        refine h1 _ _ (x1.trans x2) (T1.fwd x2 R) _ ?_
        unfold RV
        exact ⟨p, by rw [← T1.rel.len]; simp, rfl⟩
    · exact h1.elim
  · exact h1.elim
end
/-! ### the stream's defs -/
section
variable {P : Program} {w : World} {K : PySem.W.Frag} {mg : Str → Option Value} {base : Heap} {G : Gd}
def drawF : Fn := fun xs S => match xs with
  | [.ref i, .int (.ofNat n)] => match S.get i with
    | some (.strm c) => match Nat.blt c 1000000, Nat.blt 0 n, Nat.blt n 1073741824 with
      | true, true, true => .dr n fun d => .ok (.int d) (S.put i (.strm (c + 1)))
      | _, _, _ => .bad
    | _ => .bad
  | _ => .bad
theorem draw_sp {vs : List V} {H : Hp} {Q : VK} {E : XK} (h : SPf G 2 drawF vs H Q E) : spDraw vs H Q E := by
  obtain ⟨ρ, S, xs, R, r, hlen, h⟩ := h
  unfold drawF at h
  split at h
  · rename_i i n
    obtain ⟨v, w, rfl, rv, rw_⟩ := rvs2 r
    unfold RV at rv rw_
    obtain ⟨a, ha, rfl⟩ := rv
    subst rw_
    split at h
    · rename_i c hg
      obtain ⟨l, ⟨d, m, xs, h1, h2, d0, m0, m1⟩, hn⟩ := R.obj i a _ ha hg
      split at h
      · rename_i q1 q2 q3
        refine ⟨a, l, d, m, ((n : Nat) : Int), c, xs, rfl, ⟨h1, h2, d0, m0, m1⟩, Nat.le_of_ble_eq_true q1, by have := Nat.le_of_ble_eq_true q2; omega, by have := Nat.le_of_ble_eq_true q3; omega, fun j H' j0 j1 ⟨d', m', xs', s⟩ o => ?_⟩
        have hj := h j j0 j1
        have x : Ext ρ H ρ H' := ⟨⟨[], by simp⟩, fun b u hb im => o b u (fun z => by rw [z, h1] at hb; cases hb; exact im) (fun z => by rw [z, h2] at hb; cases hb; exact im) hb⟩
        have gp : ∀ {j : Nat} {b : Addr}, ρ[j]? = some b → (S.put i (.strm (c + 1))).get j = if j = i then some (.strm (c + 1)) else S.get j := fun {j b} h => Sto.get_put (R.ilt ha) (R.ilt h)
        have fix : ∀ {j : Nat} {b : Addr} {u : AO}, ρ[j]? = some b → (S.put i (.strm (c + 1))).get j = some u → ∃ u0, S.get j = some u0 ∧ u0.isCell = u.isCell ∧ u0.isStrm = u.isStrm := fun {j b u} h g => by
          rw [gp h] at g
          by_cases e : j = i
          · rw [if_pos e] at g
            cases g
            exact ⟨.strm c, by rw [e]; exact hg, rfl, rfl⟩
          · rw [if_neg e] at g
            exact ⟨u, g, rfl, rfl⟩
        refine hj ρ H' x ⟨R.len, R.lt, fun p q b u u' hp hq gp' gq hc => ?_, fun p b u hp gu => ?_, fun p hp => ?_, fun p q b b' c1 c2 hp hq g1 g2 => ?_⟩ _ rv_int
        · obtain ⟨u0, e1, e2, _⟩ := fix hp gp'
          obtain ⟨u1, f1, f2, _⟩ := fix hq gq
          exact R.nd p q b u0 u1 hp hq e1 f1 (by rw [e2, f2, hc])
        · rw [gp hp] at gu
          by_cases e : p = i
          · rw [if_pos e] at gu
            cases gu
            rw [e, ha] at hp
            cases hp
            exact ⟨l, ⟨d', m', xs', s.ha, s.hl, s.d0, s.m0, s.m1⟩, hn⟩
          · rw [if_neg e] at gu
            have ob := R.obj p b u hp gu
            have nba : b ≠ a ∨ u.isStrm = true ∨ u.isCell = true := by
              by_cases z : b = a
              · rw [z] at hp
                refine .inr ?_
                cases u with
                | strm c => exact .inl rfl
                | cell v => exact .inr rfl
                | _ => exact absurd (R.nd p i a _ _ hp ha gu hg rfl) e
              · exact .inl z
            have nbl : b ≠ l := fun z => hn p (by rw [← z]; exact hp)
            cases u with
            | strm c' => exact absurd (R.one p i b a c' c hp ha gu hg) e
            | cell v => exact ob.elim
            | lst ys =>
              obtain ⟨ws, w1, w2⟩ := ob
              exact ⟨ws, o b _ (nba.elim id fun z => z.elim (fun z => by cases z) (fun z => by cases z)) nbl w1, w2.mono x ys⟩
            | dct kvs =>
              obtain ⟨ws, w1, w2⟩ := ob
              exact ⟨ws, o b _ (nba.elim id fun z => z.elim (fun z => by cases z) (fun z => by cases z)) nbl w1, w2.mono x⟩
            | ins cc fs =>
              obtain ⟨dx, ws, w1, w2⟩ := ob
              exact ⟨dx, ws, o b _ (nba.elim id fun z => z.elim (fun z => by cases z) (fun z => by cases z)) nbl w1, w2.mono x⟩
        · obtain ⟨ps, t1, t2, t3⟩ := R.tabs p hp
          refine ⟨ps, o _ _ (fun z => ?_) (fun z => ?_) t1, t2, fun pos cv hcv => ?_⟩
          · rw [z, h1] at t1; cases t1
          · rw [z, h2] at t1; cases t1
          · obtain ⟨cc, e1, e2⟩ := t3 pos cv hcv
            exact ⟨cc, e1, x.imm _ _ e2 trivial⟩
        · obtain ⟨u0, e1, _, e3⟩ := fix hp g1
          obtain ⟨u1, f1, _, f3⟩ := fix hq g2
          cases u0 with
          | strm k0 => cases u1 with
            | strm k1 => exact R.one p q b b' k0 k1 hp hq e1 f1
            | _ => cases f3
          | _ => cases e3
      · exact h.elim
    · exact h.elim
  · exact h.elim
def spStream (K : PySem.W.Frag) : Sp := fun vs H Q _ => ∃ (a : Addr) (ns : List Int), vs = [.ref a] ∧ SqL K H a (ns.map V.int) ∧ ∀ l, H l = none → ∀ p, upd H l (.lst (ns.map V.int)) p = none → Q (.ref p) (upd (upd H l (.lst (ns.map V.int))) p (.lst [.ref l, .int 0, .int 0, .int 17]))
abbrev rLst (K : PySem.W.Frag) : List V → Hp → VK → Prop := fun xs H Q => ∃ p ys, xs = [.ref p] ∧ (SqL K H p ys ∨ SqT K H p ys) ∧ ∀ l, H l = none → Q (.ref l) (upd H l (.lst ys))
def t_stream (K : PySem.W.Frag) : TS := tRet (tLst (tCons (tCB (rLst K) (tCons (tVar 0) tNil)) (tCons (tC (.int 0)) (tCons (tC (.int 0)) (tCons (tC (.int 17)) tNil)))))
theorem pure_stream (vs : List V) (H : Hp) (Q : VK) (E : XK) (h : spStream K vs H Q E) : t_stream K { nx := fun _ H' => Q .non H', rt := Q } (L2.start ["script"] vs) H := by
  obtain ⟨a, ns, rfl, hS, q⟩ := h
  exact ⟨.ref a, rfl, a, _, rfl, .inl hS, fun l hl => ⟨by rw [sizeLine_eq]; show 4 ≤ 16777216; decide, fun p hp => q l hl p hp⟩⟩
/-- what the law's store is behind its first row -/
def S1 : Sto := (⟨0, .e⟩ : Sto).new (.strm 0)
theorem S1_get : S1.get 0 = some (.strm 0) := rfl
theorem rel_start {H : Hp} {l p : Addr} {ns : List Int} (hT : Tabs G.T H) (hl : H l = none) (hp : upd H l (.lst (ns.map V.int)) p = none) : Rel G [p] S1 (upd (upd H l (.lst (ns.map V.int))) p (.lst [.ref l, .int 0, .int 0, .int 17])) := by
  have nlp : l ≠ p := fun z => by rw [← z, upd_same] at hp; cases hp
  have i0 : ∀ {i : Nat} {b : Addr}, ([p] : List Addr)[i]? = some b → i = 0 ∧ b = p := fun {i b} h => by
    cases i with
    | zero => simp at h; exact ⟨rfl, h.symm⟩
    | succ i => simp at h
  refine ⟨rfl, by decide, fun i j a u u' hi hj _ _ _ => by rw [(i0 hi).1, (i0 hj).1], fun i a u hi hg => ?_, ?_, fun i j a b c c' hi hj _ _ => by rw [(i0 hi).1, (i0 hj).1]⟩
  · obtain ⟨rfl, rfl⟩ := i0 hi
    rw [S1_get] at hg
    cases hg
    refine ⟨l, ⟨0, 17, ns, upd_same, by rw [upd_ne nlp, upd_same], by decide, by decide, by decide⟩, fun i e => ?_⟩
    exact nlp (i0 e).2
  · exact tabs_new hp (tabs_new hl hT)
end
end Sh

end

section
namespace Sh
open PySem PySem.Spec PyProof.Rows L2 LamX He
/-! ### what a head tells, as Bools -/
def exbB (K : PySem.W.Frag) (C : Addr) : Bool := match K.lookup C with
  | some ⟨.type c, dd, .cls cd, sl⟩ => decide (c = "type") && ((match cd.mro with
      | .ref C' :: bm => decide (C' = C) && PySem.HandSPX.refsVE bm
      | _ => false) && (cd.hasDict && (!cd.hasDel && (match sl.toList with
      | [_, _, _, _, some (.builtin n), _] => decide (n = "ValueError.__new__")
      | _ => false))))
  | _ => false
theorem exbB_ok {K : PySem.W.Frag} {C : Addr} (h : exbB K C = true) : ∃ nm q N bs bm sn sub ab col dd k0 k1 k2 k3 k5, K.lookup C = some (excClassObj nm q C N bs bm true sn sub ab col dd k0 k1 k2 k3 k5 "ValueError.__new__") ∧ PySem.HandSPX.refsVE bm = true := by
  unfold exbB at h
  split at h
  · rename_i c dd cd sl e
    obtain ⟨h1, h2⟩ := ba h
    obtain ⟨h3, h4⟩ := ba h2
    obtain ⟨h5, h6⟩ := ba h4
    obtain ⟨h7, h8⟩ := ba h6
    have e1 := of_decide_eq_true h1
    subst e1
    obtain ⟨nm, bs, mro, ns, qn, hd,
        sn, sub, ab, col, del⟩ := cd
    dsimp only at h3 h5 h7
    split at h3
    · rename_i C' bm
      obtain ⟨g1, g2⟩ := ba h3
      have e2 := of_decide_eq_true g1
      subst e2
      split at h8
      · rename_i k0 k1 k2 k3 n k5 hs
        have e3 := of_decide_eq_true h8
        subst e3
        obtain ⟨l⟩ := sl
        dsimp only at hs
        subst hs
        have e4 : del = false := by cases del <;> simp_all
        subst h5 e4
        exact ⟨nm, qn, ns, bs, bm, sn, sub, ab, col, dd, k0, k1, k2, k3, k5, e, g2⟩
      · cases h8
    · cases h3
  · cases h
/-- an own error with a field -/
def oexB (K : PySem.W.Frag) (C fI : Addr) (fld : Str) : Bool := exbB K C && (eqO (PySem.W.findIn K (.ref C) "__setattr__") (some (some (.builtin "object.__setattr__"))) && (eqO (PySem.W.findIn K (.ref C) "__getattribute__") (some (some (.builtin "BaseException.__getattribute__"))) && (eqO (PySem.W.findIn K (.ref C) "__getattr__") (some none) &&
  (eqO (PySem.W.findIn K (.ref C) fld) (some none) && (eqO (PySem.W.findIn K (.ref C) "__init__") (some (some (.ref fI))) && (decide (PySem.W.typeIn K (.ref fI) = some (.type "function")) && (PySem.W.keepIn K (.ref C) && (decide (PySem.W.subIn K (.ref C) (.type "BaseException") = some true) &&
  (decide (PySem.W.typeIn K (.ref C) = some (.type "type")) && (PySem.W.hasDictIn K C && decide (PySem.W.exmOne K (.ref C) (.ref C) = some true)))))))))))
/-- the classes told apart by except -/
def exmB (K : PySem.W.Frag) (ca : Nat → Addr) (n : Nat) : Bool := (List.range n).all fun a => (List.range n).all fun b => decide (PySem.W.exmOne K (.ref (ca a)) (.ref (ca b)) = some (Nat.beq a b)) && (Nat.beq a b || !decide (ca a = ca b))
theorem exmB_ok {G : Gd} {n : Nat} (h : exmB G.K G.ca n = true) : ExmOk G n := fun a b ha hb => by
  have h1 := List.all_eq_true.mp (List.all_eq_true.mp h a (List.mem_range.mpr ha)) b (List.mem_range.mpr hb)
  obtain ⟨h2, h3⟩ := ba h1
  refine ⟨of_decide_eq_true h2, fun e z => ?_⟩
  rw [e] at h3
  simp [z] at h3
def kitB (K : PySem.W.Frag) : Bool := (List.range 7).all fun a => (List.range 7).all fun b => decide (PySem.W.kitOne K (.type (tyN a)) (.type (tyN b)) = some (kitT a b))
theorem kitB_ok {K : PySem.W.Frag} (h : kitB K = true) : KitOk K := fun a b =>
  of_decide_eq_true (List.all_eq_true.mp (List.all_eq_true.mp h a.1 (List.mem_range.mpr a.2)) b.1 (List.mem_range.mpr b.2))
/-! ### a module's dict of texts -/
abbrev Tbl := List (List Nat × List Nat)
def tblL (s : List Nat) : Tbl → Option (List Nat)
  | [] => none
  | (k, v) :: r => match eqL k s with
    | true => some v
    | false => tblL s r
def tblEs : List DictEntry → Tbl → Bool
  | [], [] => true
  | e :: r, (k, v) :: q => (match e.key, e.val with
      | .str k' _, .str v' _ => decide (k' = toS k) && decide (v' = toS v)
      | _, _ => false) && tblEs r q
  | _, _ => false
def tblB (K : PySem.W.Frag) (d : Addr) (t : Tbl) : Bool := match K.lookup d with
  | some ⟨_, _, .dict es _, _⟩ => tblEs es.toList t
  | _ => false
def TblOk (K : PySem.W.Frag) (d : Addr) (t : Tbl) : Prop := ∀ s, match tblL s t with
  | some v => ∃ tk, PySem.W.nsIn K d (toS s) = some (some (.str (toS v) tk))
  | none => PySem.W.nsIn K d (toS s) = some none
theorem tblEs_find : ∀ {es : List DictEntry} {t : Tbl} (s : List Nat), tblEs es t = true → (match tblL s t with
    | some v => ∃ e tk, es.find? (·.key.isStr (toS s)) = some e ∧ e.val = .str (toS v) tk
    | none => es.find? (·.key.isStr (toS s)) = none) ∧ es.any (·.refKey) = false
  | [], [], s, _ => ⟨rfl, rfl⟩
  | [], _ :: _, s, h => by cases h
  | _ :: _, [], s, h => by cases h
  | e :: r, (k, v) :: q, s, h => by
    unfold tblEs at h
    obtain ⟨h1, h2⟩ := ba h
    obtain ⟨i1, i2⟩ := tblEs_find s h2
    split at h1
    · rename_i k' t1 v' t2 ek ev
      obtain ⟨g1, g2⟩ := ba h1
      have e1 := of_decide_eq_true g1
      have e2 := of_decide_eq_true g2
      subst e1 e2
      have hrk : e.refKey = false := by
        unfold DictEntry.refKey
        rw [ek]
      have his : e.key.isStr (toS s) = eqL k s := by
        rw [ek]
        show (toS k == toS s) = eqL k s
        rw [← toS_dec]
        by_cases z : toS k = toS s <;> simp [z]
      refine ⟨?_, by rw [List.any_cons, hrk, i2]; rfl⟩
      unfold tblL
      cases z : eqL k s with
      | true =>
        refine ⟨e, t2, ?_, ev⟩
        rw [List.find?_cons, his, z]
      | false =>
        have f : (e :: r).find? (·.key.isStr (toS s)) = r.find? (·.key.isStr (toS s)) := by rw [List.find?_cons, his, z]
        rw [f]
        exact i1
    · cases h1
theorem tblB_ok {K : PySem.W.Frag} {d : Addr} {t : Tbl} (h : tblB K d t = true) : TblOk K d t := fun s => by
  unfold tblB at h
  split at h
  · rename_i oc od es n sl e
    obtain ⟨h1, h2⟩ := tblEs_find s h
    unfold PySem.W.nsIn
    rw [e]
    cases q : tblL s t with
    | none =>
      rw [q] at h1
      dsimp only at h1 ⊢
      rw [h1, h2]
      rfl
    | some v =>
      rw [q] at h1
      dsimp only at h1 ⊢
      obtain ⟨en, tk, f1, f2⟩ := h1
      exact ⟨tk, by rw [f1]; show some (some en.val) = _; rw [f2]⟩
  · cases h
section
variable {X : Cx} {G : Gd} {W : WX} {F : Fm}
def fInT (neg : Bool) (j : Nat) (t : Tbl) (x y : AV) (S : Sto) : Out AV := match x, y with
  | .str s, .fn i => match Nat.beq i j with
    | true => .ok (.bl (if neg then !(tblL s t).isSome else (tblL s t).isSome)) S
    | false => .bad
  | _, _ => .bad
theorem os_inT {neg : Bool} {j : Nat} {t : Tbl} (hk : X.K = G.K) (hT : TblOk G.K (G.fa j) t) : OpS G F W (fun x y H Q => ∃ (z : Str) (r : Option Value), x = .str z ∧ y = .ref (G.fa j) ∧ PySem.W.nsIn X.K (G.fa j) z = some r ∧ Q (.bl (if neg then !r.isSome else r.isSome)) H) (fInT neg j t) := fun ρ S ls σ H x y v w Q T rx ry h => by
  unfold fInT at h
  split at h
  · rename_i s i
    unfold RV at rx ry
    cases q : Nat.beq i j with
    | false => rw [q] at h; exact h.elim
    | true =>
      rw [q] at h
      have e := Nat.eq_of_beq_eq_true q
      subst e
      have hs := hT s
      cases q2 : tblL s t with
      | none =>
        rw [q2] at hs h
        exact ⟨toS s, none, rx, ry, by rw [hk]; exact hs, h ρ H (Ext.refl _ _) T _ rv_bl⟩
      | some u =>
        rw [q2] at hs h
        obtain ⟨tk, hs⟩ := hs
        exact ⟨toS s, _, rx, ry, by rw [hk]; exact hs, h ρ H (Ext.refl _ _) T _ rv_bl⟩
  · exact h.elim
def fIxT (j : Nat) (t : Tbl) (x y : AV) (S : Sto) : Out AV := match x, y with
  | .fn i, .str s => match Nat.beq i j, tblL s t with
    | true, some v => .ok (.str v) S
    | _, _ => .bad
  | _, _ => .bad
theorem os_ixT {j : Nat} {t : Tbl} {es : Array DictEntry} {n : Nat} (hk : X.K = G.K) (D : KDict G.K X.w (G.fa j) es n) (hT : TblOk G.K (G.fa j) t) : OpS G F W (rIxD X.K X.w) (fIxT j t) := fun ρ S ls σ H x y v w Q T rx ry h => by
  unfold fIxT at h
  split at h
  · rename_i i s
    unfold RV at rx ry
    cases q : Nat.beq i j with
    | false => rw [q] at h; exact h.elim
    | true =>
      have e := Nat.eq_of_beq_eq_true q
      subst e
      have hs := hT s
      cases q2 : tblL s t with
      | none => rw [q, q2] at h; exact h.elim
      | some u =>
        rw [q2] at hs
        rw [q, q2] at h
        obtain ⟨tk, hs⟩ := hs
        exact ⟨_, toS s, .str (toS u), rx, ry, ⟨es, n, _, by rw [hk]; exact D.at_, D.lit, by rw [hk]; exact hs, tk, rfl⟩, h ρ H (Ext.refl _ _) T _ rv_str⟩
  · exact h.elim
/-- a module's tuple of texts -/
theorem rv_strs {a : Addr} {ws : List (List Nat)} (h : ∀ H, SqT G.K H a (ws.map fun s => V.str (toS s))) (ρ : List Addr) (H : Hp) : RV G ρ H (.tup (ws.map .str)) (.ref a) := by
  unfold RV
  refine ⟨a, _, rfl, h H, ?_⟩
  clear h
  induction ws with
  | nil => unfold RVs; rfl
  | cons s r ih => simp only [List.map_cons]; unfold RVs; exact ⟨_, _, rfl, rv_str, ih⟩
end
/-- a def that is not reached -/
def badF : Fn := fun _ _ => .bad
theorem fn_bad {P : Program} {w : World} {K : PySem.W.Frag} {mg : Str → Option Value} {base : Heap} {CX : CXT} {k n : Nat} {f : Addr} {fd : FuncData} {ps : List Str} {G : Gd} (hn : ps.length = n) : FnOk P w K mg base CX k f fd ps (SPf G n badF) :=
  ⟨fun vs H Q E h => by rw [h.len, hn], fun _ _ _ _ _ _ _ _ _ _ _ _ _ ⟨_, _, _, _, _, _, h⟩ => h.elim⟩
end Sh

end

section
namespace Sh
open PySem PySem.Spec PyProof.Rows L2 LamX He
section
variable {X : Cx} {G : Gd} {W : WX} {a b c : Expr} {ma mb mc : EM} {pos : Pos}
theorem me_gl {x : Str} {av : AV} {v : V} {u : Value} (hm : X.mg x = some u) (r : RelV v u) (rv : ∀ ρ H, RV G ρ H av v) (hg : Gl X x := by rfl) (hd : (x == ("__debug__" : Str)) = false := by decide) : PE X (.Name x pos) (tE G (fm X) W (mC av)) := me_glob hg hm r rv hd
theorem mt_chain {op op' : CmpOp} {r r' : R2} {f g : AV → AV → Sto → Out AV} (ho : OpR X (compareOp op) r) (ho' : OpR X (compareOp op') r') (hs : OpS G (fm X) W r f) (hs' : OpS G (fm X) W r' g)
    (ha : PE X a (tE G (fm X) W ma)) (hb : PE X b (tE G (fm X) W mb)) (hc : PE X c (tE G (fm X) W mc)) (hm : lastMarks [op, op'] [b, c] = false := by with_unfolding_all rfl) :
    PT X (.Compare a [op, op'] [b, c] pos) (tT G (fm X) W (mTb (mChain f g ma mb mc))) := by
  refine PT_imp (pt_chain ho ho' ha hb hc hm) fun σ H Q ⟨ρ, S, ls, T, h⟩ => ?_
  refine tChain_of hs hs' (tE_bind T h fun v S1 ρ1 H1 x h1 x1 T1 r1 => ?_)
  cases v with
  | bl k =>
    unfold RV at r1
    exact ⟨k, r1, h1 ρ1 H1 x1 T1⟩
  | _ => exact h1.elim
end
theorem codeOf_of {K : PySem.W.Frag} {x qual : Str} {params : Arguments} {body : List Stmt} {scope : Scope} {dvs : List V} {kws : List (Str × V)} {p : Defn} {fd : FuncData} (F : FunD K x qual params body scope dvs kws (fAd K p) fd) : fd.code = .ref (codeOf K p) := by
  obtain ⟨oc, od, dV, kV, doc, pm, an, cdv, ct, osl, rfl, lk, hcd, _, _⟩ :=
      F.ex
  obtain ⟨c, rfl⟩ := codeIn_ref hcd
  rw [codeOf_eq lk rfl]
/-- the law's promise, its first row taken by hand -/
def spLaw (K : PySem.W.Frag) (T : List (Addr × Str)) : Sp := fun vs H Q _ => ∃ (a : Addr) (ns : List Int), vs = [.ref a] ∧ SqL K H a (ns.map V.int) ∧ Tabs T H ∧ ∀ H', Q (.bl true) H'
def lawLo (N : Nat) : Lo := .u :: .v (.ref 0) :: List.replicate (N - 2) .u
def lawOut (N : Nat) (m : SM) : Out AV := (m (lawLo N) S1).bind fun r S => match r.1 with
  | .rt v => .ok v S
  | _ => .bad
theorem law_pure {P : Program} {w : World} {mg : Str → Option Value} {base : Heap} {G : Gd} {m : SM} {N : List Str} {vs : List V} {H : Hp} {Q : VK} {E : XK} {W : WX} (hN : 2 ≤ N.length) (ht : (lawOut N.length m).allTrue = true) (h : spLaw G.K G.T vs H Q E) :
    tSeq (tAsg (tCallS (spStream G.K) (WE W) (tCons (tVar 0) tNil)) (gName 1)) (tS G F0 W m) { nx := fun _ H' => Q .non H', rt := Q } (L2.start N vs) H := by
  obtain ⟨a, ns, rfl, hS, hT, hQ⟩ := h
  refine ⟨.ref a, rfl, a, ns, rfl, hS, fun l hl p hp => ?_⟩
  show tS G F0 W m _ ((L2.start N [V.ref a]).set 1 (some (.ref p))) _
  have R := rel_start (G := G) (ns := ns) hT hl hp
  obtain ⟨k, hk⟩ : ∃ k, N.length = k + 2 := ⟨N.length - 2, by omega⟩
  refine ⟨[p], S1, lawLo N.length, ⟨R, ?_, fun i => ?_, F0_ok⟩, ?_⟩
  · unfold lawLo L2.start
    rw [hk]
    simp
  · unfold lawLo
    rw [nth_eq]
    match i with
    | 0 => trivial
    | 1 =>
      refine ⟨.ref p, ?_, by unfold RV; exact ⟨p, rfl, rfl⟩⟩
      rw [List.getElem?_set_self]
      unfold L2.start
      rw [hk]
      simp
    | j + 2 =>
      have e : ((LV.u :: .v (.ref 0) :: List.replicate (N.length - 2) LV.u)[j + 2]?).getD .u = .u := by
        simp only
            [List.getElem?_cons_succ]
        cases q : (List.replicate (N.length - 2) LV.u)[j]? with
        | none => rfl
        | some y =>
          have := List.mem_of_getElem? q
          rw [List.mem_replicate] at this
          rw [this.2]
          rfl
      rw [e]
      trivial
  · refine Out.sat_mono (fun r S z ρ' H' σ' x T => ?_) (fun e L S z => z.elim) (Out.sat_bind.mp (Out.allTrue_sat ht))
    obtain ⟨fl, L⟩ := r
    cases fl with
    | rt v =>
      have e : v = .bl true := z
      subst e
      intro y ry
      unfold RV at ry
      rw [ry]
      exact hQ H'
    | nx => exact z.elim
    | br => exact z.elim
    | ct => exact z.elim
/-- the first draw's digits one by one: the kernel looks at each in a theorem of its own -/
def digits (m : Out AV) : Nat := match m with
  | .dr n _ => n
  | _ => 0
def oneOf (m : Out AV) (i : Nat) : Bool := match m with
  | .dr _ k => (k i).allTrue
  | _ => false
theorem allTrue_of {m : Out AV} {n : Nat} (hn : digits m = n) (hp : n ≠ 0) (h : ∀ i, i < n → oneOf m i = true) : m.allTrue = true := by
  cases m with
  | dr n' k =>
    subst hn
    unfold Out.allTrue
    rw [List.all_eq_true]
    exact fun i hi => h i (List.mem_range.mp hi)
  | ok v S => exact absurd hn.symm hp
  | ex e L S => exact absurd hn.symm hp
  | bad => exact absurd hn.symm hp
end Sh

end

section
namespace K05
open Sh PySem PySem.Spec PyProof.Rows L2
structure FTab where
  marks_of : Fn
  read : Fn
  law_all_refused : Fn
  law_draw : Fn
  bare : Fn
  written : Fn
  names_or_first : Fn
  functions_of : Fn
  need_text : Fn
  law_same : Fn
  law_is_very : Fn
  is_program : Fn
  need_program : Fn
  first_by : Fn
  need_right : Fn
  functions_by : Fn
  is_row : Fn
  are_names : Fn
  are_right : Fn
  is_list : Fn
  is_name : Fn
  sorts_of : Fn
  are_functions : Fn
  is_leaf : Fn
  is_place : Fn
  is_number : Fn
  is_whole : Fn

def FTab.byVal (T : FTab) (j : Nat) : Option (Nat × Fn) := match j with
  | 0 => some (1, T.marks_of)
  | 1 => some (1, T.read)
  | 2 => some (1, T.bare)
  | 3 => some (1, T.written)
  | 4 => some (1, T.names_or_first)
  | 5 => some (1, T.functions_of)
  | _ => none

def told_w : List Nat := [116, 111, 108, 100]

def met_cl : List ACl := [(1, [112, 114, 111, 103, 114, 97, 109], some 1), (0, [116, 101, 120, 116], some 0)]

def tbl_PARTS : Tbl := [([110, 117, 109, 98, 101, 114], [110]), ([110, 97, 109, 101], [115]), ([102, 117, 110], [112, 101]), ([99, 97, 108, 108], [101, 108]), ([108, 101, 116], [115, 101, 101]), ([114, 101, 99], [102, 101]), ([105, 102], [101, 101, 101]), ([116, 119, 111], [111, 101, 101]), ([112, 114, 105, 110, 116], [101, 101]), ([112, 97, 105, 114], [101, 101]), ([102, 105, 114, 115, 116], [101]), ([114, 101, 115, 116], [101])]

abbrev m_law (T : FTab) : SM := mSeq (mIfS (mTnot (mTr (mCallF 3 (T.law_all_refused) (mCons (mC (.str [116, 101, 120, 116])) (mCons (mLst (mCons (mC .non) (mCons (mC (.int 5)) (mCons (mLst (mCons (mC (.str [120])) (mNil))) (mCons (mDnew) (mCons (mTup (mNil)) (mCons (mC (.bl true)) (mNil)))))))) (mCons (mLst (mCons (mC (.fn 0)) (mCons (mC (.fn 1)) (mNil)))) (mNil))))))) (mRet (mC (.bl false))) (mNx)) (mSeq (mAsg (mTup (mCons (mC (.str [110, 117, 109, 98, 101, 114])) (mCons (mTup (mCons (mC (.int 1)) (mCons (mC (.int 1)) (mNil)))) (mCons (mCallF 2 (T.law_draw) (mCons (mVar 1) (mCons (mC (.int 9)) (mNil)))) (mNil))))) (gSet 2)) (mSeq (mAsg (mLst (mCons (mC .non) (mCons (mC (.int 5)) (mCons (mC (.str [120])) (mCons (mDnew) (mCons (mLst (mNil)) (mCons (mTup (mCons (mLst (mNil)) (mNil))) (mCons (mTup (mCons (mLst (mNil)) (mCons (mVar 2) (mCons (mVar 2) (mNil))))) (mCons (mTup (mCons (mLst (mCons (mC (.str [65])) (mNil))) (mCons (mVar 2) (mNil)))) (mCons (mTup (mCons (mLst (mCons (mC (.str [120])) (mCons (mC (.int 1)) (mNil)))) (mCons (mVar 2) (mNil)))) (mCons (mTup (mCons (mC (.str [120])) (mCons (mVar 2) (mNil)))) (mCons (mTup (mCons (mLst (mNil)) (mCons (mTup (mCons (mC (.str [110, 117, 109, 98, 101, 114])) (mCons (mTup (mCons (mC (.int 1)) (mCons (mC (.int 1)) (mNil)))) (mNil)))) (mNil)))) (mCons (mTup (mCons (mLst (mNil)) (mCons (mTup (mCons (mC (.str [110, 117, 109, 98, 101, 114])) (mCons (mTup (mCons (mC (.int 0)) (mCons (mC (.int 1)) (mNil)))) (mCons (mC (.int 1)) (mNil))))) (mNil)))) (mCons (mTup (mCons (mLst (mNil)) (mCons (mTup (mCons (mC (.str [110, 117, 109, 98, 101, 114])) (mCons (mTup (mCons (mC (.int 1)) (mCons (mC (.int 1)) (mNil)))) (mCons (mNeg (mC (.int 1))) (mNil))))) (mNil)))) (mNil))))))))))))))) (gSet 3)) (mSeq (mExpr (mMeth isL fExtend (mVar 3) (mCons (mLst (mCons (mTup (mCons (mLst (mNil)) (mCons (mTup (mCons (mC (.str [110, 117, 109, 98, 101, 114])) (mCons (mTup (mCons (mC (.int 1)) (mCons (mC (.int 1)) (mNil)))) (mCons (mC (.bl true)) (mNil))))) (mNil)))) (mCons (mTup (mCons (mLst (mNil)) (mCons (mTup (mCons (mC (.str [110, 97, 109, 101])) (mCons (mTup (mCons (mC (.int 1)) (mCons (mC (.int 1)) (mNil)))) (mCons (mC (.str [108, 101, 116])) (mNil))))) (mNil)))) (mCons (mTup (mCons (mLst (mNil)) (mCons (mTup (mCons (mC (.str [102, 117, 110])) (mCons (mTup (mCons (mC (.int 1)) (mCons (mC (.int 1)) (mNil)))) (mCons (mC (.str [120])) (mCons (mVar 2) (mNil)))))) (mNil)))) (mNil))))) (mNil)))) (mSeq (mExpr (mMeth isL fExtend (mVar 3) (mCons (mLst (mCons (mTup (mCons (mLst (mNil)) (mCons (mTup (mCons (mC (.str [116, 119, 111])) (mCons (mTup (mCons (mC (.int 1)) (mCons (mC (.int 1)) (mNil)))) (mCons (mC (.str [47])) (mCons (mVar 2) (mCons (mVar 2) (mNil))))))) (mNil)))) (mCons (mTup (mCons (mLst (mNil)) (mCons (mTup (mCons (mC (.str [114, 101, 99])) (mCons (mTup (mCons (mC (.int 1)) (mCons (mC (.int 1)) (mNil)))) (mCons (mLst (mNil)) (mCons (mVar 2) (mNil)))))) (mNil)))) (mCons (mTup (mCons (mLst (mNil)) (mCons (mTup (mCons (mC (.str [99, 97, 108, 108])) (mCons (mTup (mCons (mC (.int 1)) (mCons (mC (.int 1)) (mNil)))) (mCons (mVar 2) (mCons (mVar 2) (mNil)))))) (mNil)))) (mNil))))) (mNil)))) (mRet (mCallF 3 (T.law_all_refused) (mCons (mC (.str [112, 114, 111, 103, 114, 97, 109])) (mCons (mVar 3) (mCons (mLst (mCons (mC (.fn 2)) (mCons (mC (.fn 3)) (mCons (mC (.fn 4)) (mCons (mC (.fn 5)) (mNil)))))) (mNil))))))))))

abbrev m_marks_of (T : FTab) : SM := mSeq (mExpr (mCallF 1 (T.need_text) (mCons (mVar 0) (mNil)))) (mBadS)

abbrev m_read (T : FTab) : SM := mSeq (mExpr (mCallF 1 (T.need_text) (mCons (mVar 0) (mNil)))) (mBadS)

abbrev m_law_all_refused (T : FTab) : SM := mSeq (mFor (mIt (mVar 2)) (gSet 3) (mIfS (mTor (mTnot (mTr (mCall fAll (mCons (mLc (mIt (mVar 1)) [4] (gSet 4) none (mCallF 2 (T.law_same) (mCons (mMet 2 told_w met_cl (mCallV 3 (T.byVal) (mCons (mVar 4) (mNil)))) (mCons (mTup (mCons (mVar 0) (mCons (mVar 4) (mNil)))) (mNil))))) (mNil))))) (mTnot (mTr (mCallF 2 (T.law_is_very) (mCons (mVar 0) (mCons (mVar 3) (mNil))))))) (mRet (mC (.bl false))) (mNx))) (mRet (mC (.bl true)))

abbrev m_bare (T : FTab) : SM := mSeq (mIfS (mTnot (mTr (mCallF 1 (T.is_program) (mCons (mVar 0) (mNil))))) (mRaise_program 1 1 (mVar 0)) (mNx)) (mBadS)

abbrev m_written (T : FTab) : SM := mSeq (mAsg (mCallF 1 (T.need_program) (mCons (mVar 0) (mNil))) (gTupM 2 (gsCons (gSet 1) (gsCons (gSet 2) (gsNil))))) (mBadS)

abbrev m_names_or_first (T : FTab) : SM := mRet (mCallF 1 (T.first_by) (mCons (mCallF 1 (T.need_program) (mCons (mVar 0) (mNil))) (mNil)))

abbrev m_functions_of (T : FTab) : SM := mRet (mLc (mIt (mCallF 1 (T.functions_by) (mCons (mCallF 1 (T.need_right) (mCons (mVar 0) (mNil))) (mNil)))) [1, 2, 3] (gTupM 3 (gsCons (gSet 1) (gsCons (gSet 2) (gsCons (gSet 3) (gsNil))))) none (mBad))

abbrev m_need_text (T : FTab) : SM := mIfS (mTb (mBin (fIsTy true) (mCall fType (mCons (mVar 0) (mNil))) (mC (.ty 3)))) (mRaise_text 0 0 (mVar 0)) (mNx)

abbrev m_law_same (T : FTab) : SM := mSeq (mIfS (mTr (mIsi [4, 5] (mVar 1))) (mSeq (mIfS (mTor (mTb (mBin (fNe) (mIsi [4] (mVar 0)) (mIsi [4] (mVar 1)))) (mTb (mBin (fNe) (mIsi [5] (mVar 0)) (mIsi [5] (mVar 1))))) (mRet (mC (.bl false))) (mNx)) (mRet (mAnd (mBin (fEq) (mCall fLen (mCons (mVar 0) (mNil))) (mCall fLen (mCons (mVar 1) (mNil)))) (mCall fAll (mCons (mLc (mZip (mCons (mVar 0) (mCons (mVar 1) (mNil)))) [2, 3] (gTupM 2 (gsCons (gSet 2) (gsCons (gSet 3) (gsNil)))) none (mCallF 2 (T.law_same) (mCons (mVar 2) (mCons (mVar 3) (mNil))))) (mNil)))))) (mNx)) (mSeq (mIfS (mTr (mIsi [6] (mVar 1))) (mRet (mAnd (mIsi [6] (mVar 0)) (mCallF 2 (T.law_same) (mCons (mItems (mVar 0)) (mCons (mItems (mVar 1)) (mNil)))))) (mNx)) (mSeq (mIfS (mTor (mTr (mIsi [1] (mVar 1))) (mTr (mIsi [1] (mVar 0)))) (mRet (mAnd (mIsi [1] (mVar 1)) (mAnd (mIsi [1] (mVar 0)) (mBin (fEq) (mVar 0) (mVar 1))))) (mNx)) (mSeq (mIfS (mTor (mTb (mBin (fIsN) (mVar 1) (mC .non))) (mTb (mBin (fIsN) (mVar 0) (mC .non)))) (mRet (mAnd (mBin (fIsN) (mVar 1) (mC .non)) (mBin (fIsN) (mVar 0) (mC .non)))) (mNx)) (mSeq (mIfS (mTor (mTb (mBin (fNe) (mIsi [2] (mVar 1)) (mIsi [2] (mVar 0)))) (mTb (mBin (fNe) (mIsi [3] (mVar 1)) (mIsi [3] (mVar 0))))) (mRet (mC (.bl false))) (mNx)) (mRet (mAnd (mNot (mIsi [4, 5, 6] (mVar 0))) (mBin (fEq) (mVar 0) (mVar 1))))))))

abbrev m_law_is_very (T : FTab) : SM := mSeq (mAsg (mLst (mCons (mC (.str [111, 100, 100])) (mNil))) (gSet 2)) (mSeq (mAsg (mMet 2 told_w met_cl (mCallV 1 (T.byVal) (mCons (mVar 2) (mNil)))) (gSet 3)) (mSeq (mExpr (mMeth isL fAppend (mVar 2) (mCons (mC (.str [108, 97, 116, 101])) (mNil)))) (mRet (mCallF 2 (T.law_same) (mCons (mVar 3) (mCons (mTup (mCons (mVar 0) (mCons (mVar 2) (mNil)))) (mNil)))))))

abbrev m_is_program (T : FTab) : SM := mRet (mAnd (mCallF 2 (T.is_row) (mCons (mVar 0) (mCons (mC (.int 2)) (mNil)))) (mAnd (mCallF 1 (T.are_names) (mCons (mBin fIx (mVar 0) (mC (.int 0))) (mNil))) (mCallF 1 (T.are_right) (mCons (mLst (mCons (mBin fIx (mVar 0) (mC (.int 1))) (mNil))) (mNil)))))

abbrev m_need_program (T : FTab) : SM := mSeq (mIfS (mTnot (mTr (mCallF 1 (T.is_program) (mCons (mVar 0) (mNil))))) (mRaise_program 1 1 (mVar 0)) (mNx)) (mBadS)

abbrev m_need_right (T : FTab) : SM := mSeq (mAsg (mCallF 1 (T.need_program) (mCons (mVar 0) (mNil))) (gSet 1)) (mBadS)

abbrev m_is_row (T : FTab) : SM := mRet (mAnd (mCallF 1 (T.is_list) (mCons (mVar 0) (mNil))) (mBin (fEq) (mCall fLen (mCons (mVar 0) (mNil))) (mVar 1)))

abbrev m_are_names (T : FTab) : SM := mRet (mAnd (mCallF 1 (T.is_list) (mCons (mVar 0) (mNil))) (mCall fAll (mCons (mLc (mIt (mVar 0)) [1] (gSet 1) none (mCallF 1 (T.is_name) (mCons (mVar 1) (mNil)))) (mNil))))

abbrev m_are_right (T : FTab) : SM := mSeq (mAsg (mCall fList (mCons (mVar 0) (mNil))) (gSet 1)) (mSeq (mWhile (mTr (mVar 1)) (mSeq (mAsg (mMeth isL fPop (mVar 1) mNil) (gSet 2)) (mSeq (mAsg (mCallF 1 (T.sorts_of) (mCons (mVar 2) (mNil))) (gSet 3)) (mSeq (mIfS (mTb (mBin (fIsN) (mVar 3) (mC .non))) (mRet (mC (.bl false))) (mNx)) (mFor (mZip (mCons (mVar 3) (mCons (mSl (mVar 2) (mOSome (mC (.int 2))) (mONone)) (mNil)))) (gTupM 2 (gsCons (gSet 4) (gsCons (gSet 5) (gsNil)))) (mIfS (mTb (mBin (fEq) (mVar 4) (mC (.str [101])))) (mExpr (mMeth isL fAppend (mVar 1) (mCons (mVar 5) (mNil)))) (mIfS (mTand (mTb (mBin (fEq) (mVar 4) (mC (.str [108])))) (mTr (mCallF 1 (T.is_list) (mCons (mVar 5) (mNil))))) (mExpr (mMeth isL fExtend (mVar 1) (mCons (mVar 5) (mNil)))) (mIfS (mTand (mTb (mBin (fEq) (mVar 4) (mC (.str [102])))) (mTr (mCallF 1 (T.are_functions) (mCons (mVar 5) (mNil))))) (mExpr (mMeth isL fExtend (mVar 1) (mCons (mLc (mIt (mVar 5)) [6] (gSet 6) none (mBin fIx (mVar 6) (mC (.int 3)))) (mNil)))) (mIfS (mTor (mTb (mBin (fIn false) (mVar 4) (mTup (mCons (mC (.str [108])) (mCons (mC (.str [102])) (mNil)))))) (mTnot (mTr (mCallF 2 (T.is_leaf) (mCons (mVar 4) (mCons (mVar 5) (mNil))))))) (mRet (mC (.bl false))) (mNx)))))))))) (mRet (mC (.bl true))))

abbrev m_is_list (T : FTab) : SM := mRet (mIsi [4, 5] (mVar 0))

abbrev m_is_name (T : FTab) : SM := mSeq (mIfS (mTor (mTb (mBin (fIsTy true) (mCall fType (mCons (mVar 0) (mNil))) (mC (.ty 3)))) (mTor (mTnot (mTb (mChain (fI gLe) (fI gLe) (mC (.int 1)) (mCall fLen (mCons (mVar 0) (mNil))) (mC (.int 8))))) (mTor (mTb (mBin (fIn false) (mVar 0) (mC (.tup (([[103, 105, 118, 101, 110], [108, 101, 116], [114, 101, 99], [97, 110, 100], [105, 110], [105, 102], [116, 104, 101, 110], [101, 108, 115, 101], [112, 114, 105, 110, 116], [102, 117, 110], [102, 105, 114, 115, 116], [114, 101, 115, 116]] : List (List Nat)).map .str))))) (mTb (mBin (fIn true) (mBin fIx (mVar 0) (mC (.int 0))) (mC (.str [97, 98, 99, 100, 101, 102, 103, 104, 105, 106, 107, 108, 109, 110, 111, 112, 113, 114, 115, 116, 117, 118, 119, 120, 121, 122]))))))) (mRet (mC (.bl false))) (mNx)) (mRet (mCall fAll (mCons (mLc (mIt (mVar 0)) [1] (gSet 1) none (mOr (mBin (fIn false) (mVar 1) (mC (.str [97, 98, 99, 100, 101, 102, 103, 104, 105, 106, 107, 108, 109, 110, 111, 112, 113, 114, 115, 116, 117, 118, 119, 120, 121, 122]))) (mBin (fIn false) (mVar 1) (mC (.str [48, 49, 50, 51, 52, 53, 54, 55, 56, 57]))))) (mNil))))

abbrev m_sorts_of (T : FTab) : SM := mSeq (mIfS (mTor (mTnot (mTr (mCallF 1 (T.is_list) (mCons (mVar 0) (mNil))))) (mTor (mTb (mBin (fI gLt) (mCall fLen (mCons (mVar 0) (mNil))) (mC (.int 2)))) (mTor (mTb (mBin (fIsTy true) (mCall fType (mCons (mBin fIx (mVar 0) (mC (.int 0))) (mNil))) (mC (.ty 3)))) (mTb (mBin (fInT true 6 tbl_PARTS) (mBin fIx (mVar 0) (mC (.int 0))) (mC (.fn 6))))))) (mRet (mC .non)) (mNx)) (mSeq (mAsg (mBin (fIxT 6 tbl_PARTS) (mC (.fn 6)) (mBin fIx (mVar 0) (mC (.int 0)))) (gSet 1)) (mRet (mIf (mTand (mTb (mBin (fEq) (mCall fLen (mCons (mVar 0) (mNil))) (mBin (fI gAdd) (mCall fLen (mCons (mVar 1) (mNil))) (mC (.int 2))))) (mTr (mCallF 1 (T.is_place) (mCons (mBin fIx (mVar 0) (mC (.int 1))) (mNil))))) (mVar 1) (mC .non))))

abbrev m_are_functions (T : FTab) : SM := mSeq (mIfS (mTor (mTnot (mTr (mCallF 1 (T.is_list) (mCons (mVar 0) (mNil))))) (mTor (mTb (mBin (fEq) (mCall fLen (mCons (mVar 0) (mNil))) (mC (.int 0)))) (mTnot (mTr (mCall fAll (mCons (mLc (mIt (mVar 0)) [1] (gSet 1) none (mCallF 2 (T.is_row) (mCons (mVar 1) (mCons (mC (.int 4)) (mNil))))) (mNil))))))) (mRet (mC (.bl false))) (mNx)) (mRet (mCall fAll (mCons (mLc (mIt (mVar 0)) [1] (gSet 1) none (mAnd (mCallF 1 (T.is_name) (mCons (mBin fIx (mVar 1) (mC (.int 0))) (mNil))) (mAnd (mCallF 1 (T.is_place) (mCons (mBin fIx (mVar 1) (mC (.int 1))) (mNil))) (mCallF 1 (T.are_names) (mCons (mBin fIx (mVar 1) (mC (.int 2))) (mNil)))))) (mNil))))

abbrev m_is_leaf (T : FTab) : SM := mSeq (mIfS (mTb (mBin (fEq) (mVar 0) (mC (.str [110])))) (mRet (mAnd (mCallF 1 (T.is_number) (mCons (mVar 1) (mNil))) (mBin (fI gLe) (mVar 1) (mC (.int 2147483647))))) (mNx)) (mSeq (mIfS (mTb (mBin (fEq) (mVar 0) (mC (.str [115])))) (mRet (mCallF 1 (T.is_name) (mCons (mVar 1) (mNil)))) (mNx)) (mRet (mIf (mTb (mBin (fEq) (mVar 0) (mC (.str [112])))) (mCallF 1 (T.are_names) (mCons (mVar 1) (mNil))) (mAnd (mBin (fIsTy false) (mCall fType (mCons (mVar 1) (mNil))) (mC (.ty 3))) (mBin (fIn false) (mVar 1) (mC (.tup (([[43], [45], [42], [61, 61], [60]] : List (List Nat)).map .str))))))))

abbrev m_is_place (T : FTab) : SM := mRet (mAnd (mCallF 2 (T.is_row) (mCons (mVar 0) (mCons (mC (.int 2)) (mNil)))) (mAnd (mCallF 1 (T.is_whole) (mCons (mBin fIx (mVar 0) (mC (.int 0))) (mNil))) (mAnd (mCallF 1 (T.is_whole) (mCons (mBin fIx (mVar 0) (mC (.int 1))) (mNil))) (mAnd (mBin (fI gGt) (mBin fIx (mVar 0) (mC (.int 0))) (mC (.int 0))) (mBin (fI gGt) (mBin fIx (mVar 0) (mC (.int 1))) (mC (.int 0)))))))

abbrev m_is_number (T : FTab) : SM := mRet (mAnd (mCallF 1 (T.is_whole) (mCons (mVar 0) (mNil))) (mBin (fI gGe) (mVar 0) (mC (.int 0))))

abbrev m_is_whole (T : FTab) : SM := mRet (mAnd (mIsi [2] (mVar 0)) (mNot (mIsi [1] (mVar 0))))

def step (T : FTab) : FTab := {
  marks_of := runF 1 (m_marks_of T),
  read := runF 4 (m_read T),
  law_all_refused := runF 5 (m_law_all_refused T),
  law_draw := drawF,
  bare := runF 1 (m_bare T),
  written := runF 3 (m_written T),
  names_or_first := runF 1 (m_names_or_first T),
  functions_of := runF 4 (m_functions_of T),
  need_text := runF 1 (m_need_text T),
  law_same := runF 4 (m_law_same T),
  law_is_very := runF 4 (m_law_is_very T),
  is_program := runF 1 (m_is_program T),
  need_program := runF 1 (m_need_program T),
  first_by := badF,
  need_right := runF 5 (m_need_right T),
  functions_by := badF,
  is_row := runF 2 (m_is_row T),
  are_names := runF 2 (m_are_names T),
  are_right := runF 7 (m_are_right T),
  is_list := runF 1 (m_is_list T),
  is_name := runF 2 (m_is_name T),
  sorts_of := runF 2 (m_sorts_of T),
  are_functions := runF 2 (m_are_functions T),
  is_leaf := runF 2 (m_is_leaf T),
  is_place := runF 1 (m_is_place T),
  is_number := runF 1 (m_is_number T),
  is_whole := runF 1 (m_is_whole T) }

def tab : Nat → FTab
  | 0 => {
  marks_of := badF,
  read := badF,
  law_all_refused := badF,
  law_draw := badF,
  bare := badF,
  written := badF,
  names_or_first := badF,
  functions_of := badF,
  need_text := badF,
  law_same := badF,
  law_is_very := badF,
  is_program := badF,
  need_program := badF,
  first_by := badF,
  need_right := badF,
  functions_by := badF,
  is_row := badF,
  are_names := badF,
  are_right := badF,
  is_list := badF,
  is_name := badF,
  sorts_of := badF,
  are_functions := badF,
  is_leaf := badF,
  is_place := badF,
  is_number := badF,
  is_whole := badF }
  | n + 1 => step (tab n)

end K05

end

section
set_option maxHeartbeats 2000000
namespace K05
open Sh PySem PySem.Spec PyProof.Rows L2 LamX He
def top (i : Nat) : Stmt := PySem.Challenge.pw_carriednames_k05_texts_refused.main.body.getD i (.Pass ⟨0, 0, 0, 0⟩)
abbrev s_law : Stmt := top 68
abbrev s_marks_of : Stmt := top 15
abbrev s_read : Stmt := top 20
abbrev s_law_all_refused : Stmt := top 66
abbrev s_law_draw : Stmt := top 63
abbrev s_bare : Stmt := top 40
abbrev s_written : Stmt := top 60
abbrev s_names_or_first : Stmt := top 48
abbrev s_functions_of : Stmt := top 52
abbrev s_need_text : Stmt := top 11
abbrev s_law_met : Stmt := top 67
abbrev s_law_same : Stmt := top 64
abbrev s_law_is_very : Stmt := top 65
abbrev s_is_program : Stmt := top 36
abbrev s_need_program : Stmt := top 39
abbrev s_first_by : Stmt := top 47
abbrev s_need_right : Stmt := top 51
abbrev s_functions_by : Stmt := top 50
abbrev s_is_row : Stmt := top 25
abbrev s_are_names : Stmt := top 31
abbrev s_are_right : Stmt := top 35
abbrev s_is_list : Stmt := top 22
abbrev s_is_name : Stmt := top 29
abbrev s_sorts_of : Stmt := top 33
abbrev s_are_functions : Stmt := top 34
abbrev s_is_leaf : Stmt := top 32
abbrev s_is_place : Stmt := top 30
abbrev s_is_number : Stmt := top 24
abbrev s_is_whole : Stmt := top 23
abbrev s_law_stream : Stmt := top 62
theorem sc_law : FnScope ["script", "stream", "one", "odds"] ["script"] (defScope s_law) := ⟨rfl, rfl, rfl, by decide +kernel, rfl, by decide +kernel, by decide +kernel⟩
theorem sc_marks_of : FnScope ["text"] ["text"] (defScope s_marks_of) := ⟨rfl, rfl, rfl, by decide +kernel, rfl, by decide +kernel, by decide +kernel⟩
theorem sc_read : FnScope ["text", "reader", "given", "tree"] ["text"] (defScope s_read) := ⟨rfl, rfl, rfl, by decide +kernel, rfl, by decide +kernel, by decide +kernel⟩
theorem sc_law_all_refused : FnScope ["word", "odds", "asks", "ask", "odd"] ["word", "odds", "asks"] (defScope s_law_all_refused) := ⟨rfl, rfl, rfl, by decide +kernel, rfl, by decide +kernel, by decide +kernel⟩
theorem sc_law_draw : FnScope ["stream", "many", "cell", "digit", "mixed"] ["stream", "many"] (defScope s_law_draw) := ⟨rfl, rfl, rfl, by decide +kernel, rfl, by decide +kernel, by decide +kernel⟩
theorem sc_bare : FnScope ["program"] ["program"] (defScope s_bare) := ⟨rfl, rfl, rfl, by decide +kernel, rfl, by decide +kernel, by decide +kernel⟩
theorem sc_written : FnScope ["program", "given", "tree"] ["program"] (defScope s_written) := ⟨rfl, rfl, rfl, by decide +kernel, rfl, by decide +kernel, by decide +kernel⟩
theorem sc_names_or_first : FnScope ["program"] ["program"] (defScope s_names_or_first) := ⟨rfl, rfl, rfl, by decide +kernel, rfl, by decide +kernel, by decide +kernel⟩
theorem sc_functions_of : FnScope ["program", "place", "params", "_"] ["program"] (defScope s_functions_of) := ⟨rfl, rfl, rfl, by decide +kernel, rfl, by decide +kernel, by decide +kernel⟩
theorem sc_need_text : FnScope ["text"] ["text"] (defScope s_need_text) := ⟨rfl, rfl, rfl, by decide +kernel, rfl, by decide +kernel, by decide +kernel⟩
theorem sc_law_met : FnScope ["ask", "e"] ["ask"] (defScope s_law_met) := ⟨rfl, rfl, rfl, by decide +kernel, rfl, by decide +kernel, by decide +kernel⟩
theorem sc_law_same : FnScope ["found", "due", "mine", "theirs"] ["found", "due"] (defScope s_law_same) := ⟨rfl, rfl, rfl, by decide +kernel, rfl, by decide +kernel, by decide +kernel⟩
theorem sc_law_is_very : FnScope ["word", "ask", "odd", "found"] ["word", "ask"] (defScope s_law_is_very) := ⟨rfl, rfl, rfl, by decide +kernel, rfl, by decide +kernel, by decide +kernel⟩
theorem sc_is_program : FnScope ["thing"] ["thing"] (defScope s_is_program) := ⟨rfl, rfl, rfl, by decide +kernel, rfl, by decide +kernel, by decide +kernel⟩
theorem sc_need_program : FnScope ["program"] ["program"] (defScope s_need_program) := ⟨rfl, rfl, rfl, by decide +kernel, rfl, by decide +kernel, by decide +kernel⟩
theorem sc_need_right : FnScope ["program", "kept", "places", "one", "place"] ["program"] (defScope s_need_right) := ⟨rfl, rfl, rfl, by decide +kernel, rfl, by decide +kernel, by decide +kernel⟩
theorem sc_is_row : FnScope ["thing", "many"] ["thing", "many"] (defScope s_is_row) := ⟨rfl, rfl, rfl, by decide +kernel, rfl, by decide +kernel, by decide +kernel⟩
theorem sc_are_names : FnScope ["thing", "one"] ["thing"] (defScope s_are_names) := ⟨rfl, rfl, rfl, by decide +kernel, rfl, by decide +kernel, by decide +kernel⟩
theorem sc_are_right : FnScope ["trees", "left", "thing", "sorts", "sort", "part", "one"] ["trees"] (defScope s_are_right) := ⟨rfl, rfl, rfl, by decide +kernel, rfl, by decide +kernel, by decide +kernel⟩
theorem sc_is_list : FnScope ["thing"] ["thing"] (defScope s_is_list) := ⟨rfl, rfl, rfl, by decide +kernel, rfl, by decide +kernel, by decide +kernel⟩
theorem sc_is_name : FnScope ["thing", "sign"] ["thing"] (defScope s_is_name) := ⟨rfl, rfl, rfl, by decide +kernel, rfl, by decide +kernel, by decide +kernel⟩
theorem sc_sorts_of : FnScope ["thing", "sorts"] ["thing"] (defScope s_sorts_of) := ⟨rfl, rfl, rfl, by decide +kernel, rfl, by decide +kernel, by decide +kernel⟩
theorem sc_are_functions : FnScope ["thing", "one"] ["thing"] (defScope s_are_functions) := ⟨rfl, rfl, rfl, by decide +kernel, rfl, by decide +kernel, by decide +kernel⟩
theorem sc_is_leaf : FnScope ["sort", "part"] ["sort", "part"] (defScope s_is_leaf) := ⟨rfl, rfl, rfl, by decide +kernel, rfl, by decide +kernel, by decide +kernel⟩
theorem sc_is_place : FnScope ["thing"] ["thing"] (defScope s_is_place) := ⟨rfl, rfl, rfl, by decide +kernel, rfl, by decide +kernel, by decide +kernel⟩
theorem sc_is_number : FnScope ["thing"] ["thing"] (defScope s_is_number) := ⟨rfl, rfl, rfl, by decide +kernel, rfl, by decide +kernel, by decide +kernel⟩
theorem sc_is_whole : FnScope ["thing"] ["thing"] (defScope s_is_whole) := ⟨rfl, rfl, rfl, by decide +kernel, rfl, by decide +kernel, by decide +kernel⟩
theorem sc_law_stream : FnScope ["script"] ["script"] (defScope s_law_stream) := ⟨rfl, rfl, rfl, by decide +kernel, rfl, by decide +kernel, by decide +kernel⟩
structure Fds where
  law : FuncData
  marks_of : FuncData
  read : FuncData
  law_all_refused : FuncData
  law_draw : FuncData
  bare : FuncData
  written : FuncData
  names_or_first : FuncData
  functions_of : FuncData
  need_text : FuncData
  law_met : FuncData
  law_same : FuncData
  law_is_very : FuncData
  is_program : FuncData
  need_program : FuncData
  first_by : FuncData
  need_right : FuncData
  functions_by : FuncData
  is_row : FuncData
  are_names : FuncData
  are_right : FuncData
  is_list : FuncData
  is_name : FuncData
  sorts_of : FuncData
  are_functions : FuncData
  is_leaf : FuncData
  is_place : FuncData
  is_number : FuncData
  is_whole : FuncData
  law_stream : FuncData

def nmOf : Nat → Str := fun i => match i with | 0 => "text" | 1 => "program" | n + 2 => ⟨#[n + 2000000]⟩
def mkG (K : PySem.W.Frag) : Gd := { K := K, fa := fun i => match i with | 0 => ga K "marks_of" | 1 => ga K "read" | 2 => ga K "bare" | 3 => ga K "written" | 4 => ga K "names_or_first" | 5 => ga K "functions_of" | 6 => ga K "PARTS" | _ => 0, ca := fun i => match i with | 0 => ga K "BadText" | 1 => ga K "BadProgram" | _ => 0, nm := nmOf, lam := fun _ => ⟨"", defArgs (.Pass ⟨0, 0, 0, 0⟩), .Constant .none 0 ⟨0, 0, 0, 0⟩, defScope (.Pass ⟨0, 0, 0, 0⟩), []⟩, T := [((cT K ("_law_all_refused", none)).2, ("_law_all_refused" : Str) ++ ".<locals>." ++ "<lambda>"), ((cT K ("_law_is_very", none)).2, ("_law_is_very" : Str) ++ ".<locals>." ++ "<lambda>")] }
theorem nmOf_inj : ∀ a b : Nat, nmOf a = nmOf b → a = b
  | 0, 0, _ => rfl
  | 0, 1, h => absurd h (by decide)
  | 1, 0, h => absurd h (by decide)
  | 1, 1, _ => rfl
  | 0, n + 2, h => absurd (congrArg (fun s : Str => s.cps.size) h) (by show ¬ (4 = 1); decide)
  | 1, n + 2, h => absurd (congrArg (fun s : Str => s.cps.size) h) (by show ¬ (7 = 1); decide)
  | n + 2, 0, h => absurd (congrArg (fun s : Str => s.cps.size) h) (by show ¬ (1 = 4); decide)
  | n + 2, 1, h => absurd (congrArg (fun s : Str => s.cps.size) h) (by show ¬ (1 = 7); decide)
  | n + 2, m + 2, h => by
    have e := congrArg (fun s : Str => s.cps.getD 0 0) h
    have e2 : n + 2000000 = m + 2000000 := e
    omega
structure Ev (w : World) (K : PySem.W.Frag) (mg : Str → Option Value) (base : Heap) (D : Fds) : Prop where
  kit : KitOk K
  exm : ExmOk (mkG K) 2
  g_law : mg "law" = some (.ref (ga K "law"))
  d_law : FunD K "law" "law" (defArgs s_law) (defBody s_law) (defScope s_law) [] [] (ga K "law") D.law
  g_marks_of : mg "marks_of" = some (.ref (ga K "marks_of"))
  d_marks_of : FunD K "marks_of" "marks_of" (defArgs s_marks_of) (defBody s_marks_of) (defScope s_marks_of) [] [] (ga K "marks_of") D.marks_of
  g_read : mg "read" = some (.ref (ga K "read"))
  d_read : FunD K "read" "read" (defArgs s_read) (defBody s_read) (defScope s_read) [] [] (ga K "read") D.read
  g_law_all_refused : mg "_law_all_refused" = some (.ref (ga K "_law_all_refused"))
  d_law_all_refused : FunD K "_law_all_refused" "_law_all_refused" (defArgs s_law_all_refused) (defBody s_law_all_refused) (defScope s_law_all_refused) [] [] (ga K "_law_all_refused") D.law_all_refused
  g_law_draw : mg "_law_draw" = some (.ref (ga K "_law_draw"))
  d_law_draw : FunD K "_law_draw" "_law_draw" (defArgs s_law_draw) (defBody s_law_draw) (defScope s_law_draw) [] [] (ga K "_law_draw") D.law_draw
  g_bare : mg "bare" = some (.ref (ga K "bare"))
  d_bare : FunD K "bare" "bare" (defArgs s_bare) (defBody s_bare) (defScope s_bare) [] [] (ga K "bare") D.bare
  g_written : mg "written" = some (.ref (ga K "written"))
  d_written : FunD K "written" "written" (defArgs s_written) (defBody s_written) (defScope s_written) [] [] (ga K "written") D.written
  g_names_or_first : mg "names_or_first" = some (.ref (ga K "names_or_first"))
  d_names_or_first : FunD K "names_or_first" "names_or_first" (defArgs s_names_or_first) (defBody s_names_or_first) (defScope s_names_or_first) [] [] (ga K "names_or_first") D.names_or_first
  g_functions_of : mg "functions_of" = some (.ref (ga K "functions_of"))
  d_functions_of : FunD K "functions_of" "functions_of" (defArgs s_functions_of) (defBody s_functions_of) (defScope s_functions_of) [] [] (ga K "functions_of") D.functions_of
  g_need_text : mg "need_text" = some (.ref (ga K "need_text"))
  d_need_text : FunD K "need_text" "need_text" (defArgs s_need_text) (defBody s_need_text) (defScope s_need_text) [] [] (ga K "need_text") D.need_text
  g_law_met : mg "_law_met" = some (.ref (ga K "_law_met"))
  d_law_met : FunD K "_law_met" "_law_met" (defArgs s_law_met) (defBody s_law_met) (defScope s_law_met) [] [] (ga K "_law_met") D.law_met
  g_law_same : mg "_law_same" = some (.ref (ga K "_law_same"))
  d_law_same : FunD K "_law_same" "_law_same" (defArgs s_law_same) (defBody s_law_same) (defScope s_law_same) [] [] (ga K "_law_same") D.law_same
  g_law_is_very : mg "_law_is_very" = some (.ref (ga K "_law_is_very"))
  d_law_is_very : FunD K "_law_is_very" "_law_is_very" (defArgs s_law_is_very) (defBody s_law_is_very) (defScope s_law_is_very) [] [] (ga K "_law_is_very") D.law_is_very
  g_is_program : mg "is_program" = some (.ref (ga K "is_program"))
  d_is_program : FunD K "is_program" "is_program" (defArgs s_is_program) (defBody s_is_program) (defScope s_is_program) [] [] (ga K "is_program") D.is_program
  g_need_program : mg "need_program" = some (.ref (ga K "need_program"))
  d_need_program : FunD K "need_program" "need_program" (defArgs s_need_program) (defBody s_need_program) (defScope s_need_program) [] [] (ga K "need_program") D.need_program
  g_first_by : mg "first_by" = some (.ref (ga K "first_by"))
  d_first_by : FunD K "first_by" "first_by" (defArgs s_first_by) (defBody s_first_by) (defScope s_first_by) [] [] (ga K "first_by") D.first_by
  g_need_right : mg "need_right" = some (.ref (ga K "need_right"))
  d_need_right : FunD K "need_right" "need_right" (defArgs s_need_right) (defBody s_need_right) (defScope s_need_right) [] [] (ga K "need_right") D.need_right
  g_functions_by : mg "functions_by" = some (.ref (ga K "functions_by"))
  d_functions_by : FunD K "functions_by" "functions_by" (defArgs s_functions_by) (defBody s_functions_by) (defScope s_functions_by) [] [] (ga K "functions_by") D.functions_by
  g_is_row : mg "is_row" = some (.ref (ga K "is_row"))
  d_is_row : FunD K "is_row" "is_row" (defArgs s_is_row) (defBody s_is_row) (defScope s_is_row) [] [] (ga K "is_row") D.is_row
  g_are_names : mg "are_names" = some (.ref (ga K "are_names"))
  d_are_names : FunD K "are_names" "are_names" (defArgs s_are_names) (defBody s_are_names) (defScope s_are_names) [] [] (ga K "are_names") D.are_names
  g_are_right : mg "are_right" = some (.ref (ga K "are_right"))
  d_are_right : FunD K "are_right" "are_right" (defArgs s_are_right) (defBody s_are_right) (defScope s_are_right) [] [] (ga K "are_right") D.are_right
  g_is_list : mg "is_list" = some (.ref (ga K "is_list"))
  d_is_list : FunD K "is_list" "is_list" (defArgs s_is_list) (defBody s_is_list) (defScope s_is_list) [] [] (ga K "is_list") D.is_list
  g_is_name : mg "is_name" = some (.ref (ga K "is_name"))
  d_is_name : FunD K "is_name" "is_name" (defArgs s_is_name) (defBody s_is_name) (defScope s_is_name) [] [] (ga K "is_name") D.is_name
  g_sorts_of : mg "sorts_of" = some (.ref (ga K "sorts_of"))
  d_sorts_of : FunD K "sorts_of" "sorts_of" (defArgs s_sorts_of) (defBody s_sorts_of) (defScope s_sorts_of) [] [] (ga K "sorts_of") D.sorts_of
  g_are_functions : mg "are_functions" = some (.ref (ga K "are_functions"))
  d_are_functions : FunD K "are_functions" "are_functions" (defArgs s_are_functions) (defBody s_are_functions) (defScope s_are_functions) [] [] (ga K "are_functions") D.are_functions
  g_is_leaf : mg "is_leaf" = some (.ref (ga K "is_leaf"))
  d_is_leaf : FunD K "is_leaf" "is_leaf" (defArgs s_is_leaf) (defBody s_is_leaf) (defScope s_is_leaf) [] [] (ga K "is_leaf") D.is_leaf
  g_is_place : mg "is_place" = some (.ref (ga K "is_place"))
  d_is_place : FunD K "is_place" "is_place" (defArgs s_is_place) (defBody s_is_place) (defScope s_is_place) [] [] (ga K "is_place") D.is_place
  g_is_number : mg "is_number" = some (.ref (ga K "is_number"))
  d_is_number : FunD K "is_number" "is_number" (defArgs s_is_number) (defBody s_is_number) (defScope s_is_number) [] [] (ga K "is_number") D.is_number
  g_is_whole : mg "is_whole" = some (.ref (ga K "is_whole"))
  d_is_whole : FunD K "is_whole" "is_whole" (defArgs s_is_whole) (defBody s_is_whole) (defScope s_is_whole) [] [] (ga K "is_whole") D.is_whole
  g_law_stream : mg "_law_stream" = some (.ref (ga K "_law_stream"))
  d_law_stream : FunD K "_law_stream" "_law_stream" (defArgs s_law_stream) (defBody s_law_stream) (defScope s_law_stream) [] [] (ga K "_law_stream") D.law_stream
  b_abs : mg "abs" = none
  b_all : mg "all" = none
  b_bool : mg "bool" = none
  b_dict : mg "dict" = none
  b_int : mg "int" = none
  b_isinstance : mg "isinstance" = none
  b_len : mg "len" = none
  b_list : mg "list" = none
  b_str : mg "str" = none
  b_tuple : mg "tuple" = none
  b_type : mg "type" = none
  b_zip : mg "zip" = none
  g_FIGURES : ∃ t, mg "FIGURES" = some (.str (toS [48, 49, 50, 51, 52, 53, 54, 55, 56, 57]) t)
  g_LETTERS : ∃ t, mg "LETTERS" = some (.str (toS [97, 98, 99, 100, 101, 102, 103, 104, 105, 106, 107, 108, 109, 110, 111, 112, 113, 114, 115, 116, 117, 118, 119, 120, 121, 122]) t)
  g_MOST : ∃ t, mg "MOST" = some (.int 2147483647 t)
  g_OPS : mg "OPS" = some (.ref (ga K "OPS"))
  w_OPS : ∀ H, SqT K H (ga K "OPS") (([[43], [45], [42], [61, 61], [60]] : List (List Nat)).map fun s => V.str (toS s))
  g_PARTS : mg "PARTS" = some (.ref (ga K "PARTS"))
  k_PARTS : ∃ es n, KDict K w (ga K "PARTS") es n
  t_PARTS : TblOk K (ga K "PARTS") tbl_PARTS
  g_WORDS : mg "WORDS" = some (.ref (ga K "WORDS"))
  w_WORDS : ∀ H, SqT K H (ga K "WORDS") (([[103, 105, 118, 101, 110], [108, 101, 116], [114, 101, 99], [97, 110, 100], [105, 110], [105, 102], [116, 104, 101, 110], [101, 108, 115, 101], [112, 114, 105, 110, 116], [102, 117, 110], [102, 105, 114, 115, 116], [114, 101, 115, 116]] : List (List Nat)).map fun s => V.str (toS s))
  gc_BadText : mg "BadText" = some (.ref (ga K "BadText"))
  x_BadText : PySem.OX_text.OTxt K mg (ga K "BadText") (ma K (ga K "BadText") "__init__")
  gc_BadProgram : mg "BadProgram" = some (.ref (ga K "BadProgram"))
  x_BadProgram : PySem.OX_program.OTxt K mg (ga K "BadProgram") (ma K (ga K "BadProgram") "__init__")
  tb_law_all_refused : TabB base mg (cT K ("_law_all_refused", none)).1 (cT K ("_law_all_refused", none)).2
  tb_law_is_very : TabB base mg (cT K ("_law_is_very", none)).1 (cT K ("_law_is_very", none)).2
  ne_law_all_refused_law_is_very : (cT K ("_law_all_refused", none)).2 ≠ (cT K ("_law_is_very", none)).2
  ne_law_is_very_law_all_refused : (cT K ("_law_is_very", none)).2 ≠ (cT K ("_law_all_refused", none)).2

theorem nm_inj (K : PySem.W.Frag) : NmInj (mkG K) := fun a b h => nmOf_inj a b h
section
variable {P : Program} {w : World} {K : PySem.W.Frag} {mg : Str → Option Value} {base : Heap} {D : Fds}
theorem bnd_law (ev : Ev w K mg base D) : Binds K D.law ["script"] [] := ev.d_law.bindsN fun _ _ _ _ _ _ us hl => match us, hl with | [_], _ => rfl
theorem bnd_marks_of (ev : Ev w K mg base D) : Binds K D.marks_of ["text"] [] := ev.d_marks_of.bindsN fun _ _ _ _ _ _ us hl => match us, hl with | [_], _ => rfl
theorem bnd_read (ev : Ev w K mg base D) : Binds K D.read ["text"] [] := ev.d_read.bindsN fun _ _ _ _ _ _ us hl => match us, hl with | [_], _ => rfl
theorem bnd_law_all_refused (ev : Ev w K mg base D) : Binds K D.law_all_refused ["word", "odds", "asks"] [] := ev.d_law_all_refused.bindsN fun _ _ _ _ _ _ us hl => match us, hl with | [_, _, _], _ => rfl
theorem bnd_law_draw (ev : Ev w K mg base D) : Binds K D.law_draw ["stream", "many"] [] := ev.d_law_draw.bindsN fun _ _ _ _ _ _ us hl => match us, hl with | [_, _], _ => rfl
theorem bnd_bare (ev : Ev w K mg base D) : Binds K D.bare ["program"] [] := ev.d_bare.bindsN fun _ _ _ _ _ _ us hl => match us, hl with | [_], _ => rfl
theorem bnd_written (ev : Ev w K mg base D) : Binds K D.written ["program"] [] := ev.d_written.bindsN fun _ _ _ _ _ _ us hl => match us, hl with | [_], _ => rfl
theorem bnd_names_or_first (ev : Ev w K mg base D) : Binds K D.names_or_first ["program"] [] := ev.d_names_or_first.bindsN fun _ _ _ _ _ _ us hl => match us, hl with | [_], _ => rfl
theorem bnd_functions_of (ev : Ev w K mg base D) : Binds K D.functions_of ["program"] [] := ev.d_functions_of.bindsN fun _ _ _ _ _ _ us hl => match us, hl with | [_], _ => rfl
theorem bnd_need_text (ev : Ev w K mg base D) : Binds K D.need_text ["text"] [] := ev.d_need_text.bindsN fun _ _ _ _ _ _ us hl => match us, hl with | [_], _ => rfl
theorem bnd_law_met (ev : Ev w K mg base D) : Binds K D.law_met ["ask"] [] := ev.d_law_met.bindsN fun _ _ _ _ _ _ us hl => match us, hl with | [_], _ => rfl
theorem bnd_law_same (ev : Ev w K mg base D) : Binds K D.law_same ["found", "due"] [] := ev.d_law_same.bindsN fun _ _ _ _ _ _ us hl => match us, hl with | [_, _], _ => rfl
theorem bnd_law_is_very (ev : Ev w K mg base D) : Binds K D.law_is_very ["word", "ask"] [] := ev.d_law_is_very.bindsN fun _ _ _ _ _ _ us hl => match us, hl with | [_, _], _ => rfl
theorem bnd_is_program (ev : Ev w K mg base D) : Binds K D.is_program ["thing"] [] := ev.d_is_program.bindsN fun _ _ _ _ _ _ us hl => match us, hl with | [_], _ => rfl
theorem bnd_need_program (ev : Ev w K mg base D) : Binds K D.need_program ["program"] [] := ev.d_need_program.bindsN fun _ _ _ _ _ _ us hl => match us, hl with | [_], _ => rfl
theorem bnd_first_by (ev : Ev w K mg base D) : Binds K D.first_by ["program"] [] := ev.d_first_by.bindsN fun _ _ _ _ _ _ us hl => match us, hl with | [_], _ => rfl
theorem bnd_need_right (ev : Ev w K mg base D) : Binds K D.need_right ["program"] [] := ev.d_need_right.bindsN fun _ _ _ _ _ _ us hl => match us, hl with | [_], _ => rfl
theorem bnd_functions_by (ev : Ev w K mg base D) : Binds K D.functions_by ["program"] [] := ev.d_functions_by.bindsN fun _ _ _ _ _ _ us hl => match us, hl with | [_], _ => rfl
theorem bnd_is_row (ev : Ev w K mg base D) : Binds K D.is_row ["thing", "many"] [] := ev.d_is_row.bindsN fun _ _ _ _ _ _ us hl => match us, hl with | [_, _], _ => rfl
theorem bnd_are_names (ev : Ev w K mg base D) : Binds K D.are_names ["thing"] [] := ev.d_are_names.bindsN fun _ _ _ _ _ _ us hl => match us, hl with | [_], _ => rfl
theorem bnd_are_right (ev : Ev w K mg base D) : Binds K D.are_right ["trees"] [] := ev.d_are_right.bindsN fun _ _ _ _ _ _ us hl => match us, hl with | [_], _ => rfl
theorem bnd_is_list (ev : Ev w K mg base D) : Binds K D.is_list ["thing"] [] := ev.d_is_list.bindsN fun _ _ _ _ _ _ us hl => match us, hl with | [_], _ => rfl
theorem bnd_is_name (ev : Ev w K mg base D) : Binds K D.is_name ["thing"] [] := ev.d_is_name.bindsN fun _ _ _ _ _ _ us hl => match us, hl with | [_], _ => rfl
theorem bnd_sorts_of (ev : Ev w K mg base D) : Binds K D.sorts_of ["thing"] [] := ev.d_sorts_of.bindsN fun _ _ _ _ _ _ us hl => match us, hl with | [_], _ => rfl
theorem bnd_are_functions (ev : Ev w K mg base D) : Binds K D.are_functions ["thing"] [] := ev.d_are_functions.bindsN fun _ _ _ _ _ _ us hl => match us, hl with | [_], _ => rfl
theorem bnd_is_leaf (ev : Ev w K mg base D) : Binds K D.is_leaf ["sort", "part"] [] := ev.d_is_leaf.bindsN fun _ _ _ _ _ _ us hl => match us, hl with | [_, _], _ => rfl
theorem bnd_is_place (ev : Ev w K mg base D) : Binds K D.is_place ["thing"] [] := ev.d_is_place.bindsN fun _ _ _ _ _ _ us hl => match us, hl with | [_], _ => rfl
theorem bnd_is_number (ev : Ev w K mg base D) : Binds K D.is_number ["thing"] [] := ev.d_is_number.bindsN fun _ _ _ _ _ _ us hl => match us, hl with | [_], _ => rfl
theorem bnd_is_whole (ev : Ev w K mg base D) : Binds K D.is_whole ["thing"] [] := ev.d_is_whole.bindsN fun _ _ _ _ _ _ us hl => match us, hl with | [_], _ => rfl
theorem bnd_law_stream (ev : Ev w K mg base D) : Binds K D.law_stream ["script"] [] := ev.d_law_stream.bindsN fun _ _ _ _ _ _ us hl => match us, hl with | [_], _ => rfl
theorem onlyT_law_all_refused (ev : Ev w K mg base D) : ∀ p ∈ (mkG K).T, p.1 = (cT K ("_law_all_refused", none)).2 → p.2 = ("_law_all_refused" : Str) ++ ".<locals>." ++ "<lambda>" := by
  intro p hp e
  have hp2 : p = ((cT K ("_law_all_refused", none)).2, ("_law_all_refused" : Str) ++ ".<locals>." ++ "<lambda>") ∨ p = ((cT K ("_law_is_very", none)).2, ("_law_is_very" : Str) ++ ".<locals>." ++ "<lambda>") := by simpa [mkG] using hp
  rcases hp2 with h | h
  · rw [h]
  · exact absurd (by rw [h] at e; exact e) ev.ne_law_is_very_law_all_refused

theorem onlyT_law_is_very (ev : Ev w K mg base D) : ∀ p ∈ (mkG K).T, p.1 = (cT K ("_law_is_very", none)).2 → p.2 = ("_law_is_very" : Str) ++ ".<locals>." ++ "<lambda>" := by
  intro p hp e
  have hp2 : p = ((cT K ("_law_all_refused", none)).2, ("_law_all_refused" : Str) ++ ".<locals>." ++ "<lambda>") ∨ p = ((cT K ("_law_is_very", none)).2, ("_law_is_very" : Str) ++ ".<locals>." ++ "<lambda>") := by simpa [mkG] using hp
  rcases hp2 with h | h
  · exact absurd (by rw [h] at e; exact e) ev.ne_law_all_refused_law_is_very
  · rw [h]

structure Fns (P : Program) (w : World) (K : PySem.W.Frag) (mg : Str → Option Value) (base : Heap) (D : Fds) (k : Nat) (T : FTab) : Prop where
  marks_of : FnOk P w K mg base (L2.CX P w) (3 * k) (ga K "marks_of") D.marks_of ["text"] (SPf (mkG K) 1 T.marks_of)
  read : FnOk P w K mg base (L2.CX P w) (3 * k) (ga K "read") D.read ["text"] (SPf (mkG K) 1 T.read)
  law_all_refused : FnOk P w K mg base (L2.CX P w) (3 * k) (ga K "_law_all_refused") D.law_all_refused ["word", "odds", "asks"] (SPf (mkG K) 3 T.law_all_refused)
  law_draw : FnOk P w K mg base (L2.CX P w) (3 * k) (ga K "_law_draw") D.law_draw ["stream", "many"] (SPf (mkG K) 2 T.law_draw)
  bare : FnOk P w K mg base (L2.CX P w) (3 * k) (ga K "bare") D.bare ["program"] (SPf (mkG K) 1 T.bare)
  written : FnOk P w K mg base (L2.CX P w) (3 * k) (ga K "written") D.written ["program"] (SPf (mkG K) 1 T.written)
  names_or_first : FnOk P w K mg base (L2.CX P w) (3 * k) (ga K "names_or_first") D.names_or_first ["program"] (SPf (mkG K) 1 T.names_or_first)
  functions_of : FnOk P w K mg base (L2.CX P w) (3 * k) (ga K "functions_of") D.functions_of ["program"] (SPf (mkG K) 1 T.functions_of)
  need_text : FnOk P w K mg base (L2.CX P w) (3 * k) (ga K "need_text") D.need_text ["text"] (SPf (mkG K) 1 T.need_text)
  law_same : FnOk P w K mg base (L2.CX P w) (3 * k) (ga K "_law_same") D.law_same ["found", "due"] (SPf (mkG K) 2 T.law_same)
  law_is_very : FnOk P w K mg base (L2.CX P w) (3 * k) (ga K "_law_is_very") D.law_is_very ["word", "ask"] (SPf (mkG K) 2 T.law_is_very)
  is_program : FnOk P w K mg base (L2.CX P w) (3 * k) (ga K "is_program") D.is_program ["thing"] (SPf (mkG K) 1 T.is_program)
  need_program : FnOk P w K mg base (L2.CX P w) (3 * k) (ga K "need_program") D.need_program ["program"] (SPf (mkG K) 1 T.need_program)
  first_by : FnOk P w K mg base (L2.CX P w) (3 * k) (ga K "first_by") D.first_by ["program"] (SPf (mkG K) 1 T.first_by)
  need_right : FnOk P w K mg base (L2.CX P w) (3 * k) (ga K "need_right") D.need_right ["program"] (SPf (mkG K) 1 T.need_right)
  functions_by : FnOk P w K mg base (L2.CX P w) (3 * k) (ga K "functions_by") D.functions_by ["program"] (SPf (mkG K) 1 T.functions_by)
  is_row : FnOk P w K mg base (L2.CX P w) (3 * k) (ga K "is_row") D.is_row ["thing", "many"] (SPf (mkG K) 2 T.is_row)
  are_names : FnOk P w K mg base (L2.CX P w) (3 * k) (ga K "are_names") D.are_names ["thing"] (SPf (mkG K) 1 T.are_names)
  are_right : FnOk P w K mg base (L2.CX P w) (3 * k) (ga K "are_right") D.are_right ["trees"] (SPf (mkG K) 1 T.are_right)
  is_list : FnOk P w K mg base (L2.CX P w) (3 * k) (ga K "is_list") D.is_list ["thing"] (SPf (mkG K) 1 T.is_list)
  is_name : FnOk P w K mg base (L2.CX P w) (3 * k) (ga K "is_name") D.is_name ["thing"] (SPf (mkG K) 1 T.is_name)
  sorts_of : FnOk P w K mg base (L2.CX P w) (3 * k) (ga K "sorts_of") D.sorts_of ["thing"] (SPf (mkG K) 1 T.sorts_of)
  are_functions : FnOk P w K mg base (L2.CX P w) (3 * k) (ga K "are_functions") D.are_functions ["thing"] (SPf (mkG K) 1 T.are_functions)
  is_leaf : FnOk P w K mg base (L2.CX P w) (3 * k) (ga K "is_leaf") D.is_leaf ["sort", "part"] (SPf (mkG K) 2 T.is_leaf)
  is_place : FnOk P w K mg base (L2.CX P w) (3 * k) (ga K "is_place") D.is_place ["thing"] (SPf (mkG K) 1 T.is_place)
  is_number : FnOk P w K mg base (L2.CX P w) (3 * k) (ga K "is_number") D.is_number ["thing"] (SPf (mkG K) 1 T.is_number)
  is_whole : FnOk P w K mg base (L2.CX P w) (3 * k) (ga K "is_whole") D.is_whole ["thing"] (SPf (mkG K) 1 T.is_whole)

theorem byVal_ok {k : Nat} {T : FTab} (ev : Ev w K mg base D) (Fs : Fns P w K mg base D k T) : ∀ (j n : Nat) (f : Fn), T.byVal j = some (n, f) → ∃ fd ps, FnOk P w K mg base (L2.CX P w) (3 * k) ((mkG K).fa j) fd ps (SPf (mkG K) n f) ∧ PySem.W.keepIn K (.ref ((mkG K).fa j)) = true ∧ Binds K fd ps [] := by
  intro j n f h
  unfold FTab.byVal at h
  split at h
  · cases h; exact ⟨_, _, Fs.marks_of, ev.d_marks_of.kp, bnd_marks_of ev⟩
  · cases h; exact ⟨_, _, Fs.read, ev.d_read.kp, bnd_read ev⟩
  · cases h; exact ⟨_, _, Fs.bare, ev.d_bare.kp, bnd_bare ev⟩
  · cases h; exact ⟨_, _, Fs.written, ev.d_written.kp, bnd_written ev⟩
  · cases h; exact ⟨_, _, Fs.names_or_first, ev.d_names_or_first.kp, bnd_names_or_first ev⟩
  · cases h; exact ⟨_, _, Fs.functions_of, ev.d_functions_of.kp, bnd_functions_of ev⟩
  · cases h

end
end K05

end

section
set_option maxHeartbeats 2000000
namespace K05
open Sh PySem PySem.Spec PyProof.Rows L2 LamX He
section
variable {P : Program} {w : World} {K : PySem.W.Frag} {mg : Str → Option Value} {base : Heap} {D : Fds}
theorem ok_marks_of {k : Nat} {T : FTab} (ev : Ev w K mg base D) (Fs : Fns P w K mg base D k T) : FnOk P w K mg base (L2.CX P w) (3 * k + 2 + 1) (ga K "marks_of") D.marks_of ["text"] (SPf (mkG K) 1 (runF 1 (m_marks_of T))) := by
  refine fn_ok (m := m_marks_of T) ev.d_marks_of sc_marks_of rfl fun cdv A outer s H E hc hr => ?_
  have hcd : cdv = .ref (cT K ("marks_of", none)).1 := hc.symm.trans (codeOf_of (p := ("marks_of", none)) ev.d_marks_of)
  have tk := takes_of (X := cxOf (L2.CX P w) P w K mg base ["text"] "marks_of" (defScope s_marks_of) (ga K "marks_of") cdv A outer s H E) rfl rfl rfl rfl
  exact ms_cons (ms_expr (me_call (Fs.need_text) (hr.mono (by omega)) ev.g_need_text ev.d_need_text.kp (bnd_need_text ev) tk (ma_cons (me_var 0) (ma_nil)))) (ms_bad)

theorem ok_read {k : Nat} {T : FTab} (ev : Ev w K mg base D) (Fs : Fns P w K mg base D k T) : FnOk P w K mg base (L2.CX P w) (3 * k + 2 + 1) (ga K "read") D.read ["text"] (SPf (mkG K) 1 (runF 4 (m_read T))) := by
  refine fn_ok (m := m_read T) ev.d_read sc_read rfl fun cdv A outer s H E hc hr => ?_
  have hcd : cdv = .ref (cT K ("read", none)).1 := hc.symm.trans (codeOf_of (p := ("read", none)) ev.d_read)
  have tk := takes_of (X := cxOf (L2.CX P w) P w K mg base ["text", "reader", "given", "tree"] "read" (defScope s_read) (ga K "read") cdv A outer s H E) rfl rfl rfl rfl
  exact ms_cons (ms_expr (me_call (Fs.need_text) (hr.mono (by omega)) ev.g_need_text ev.d_need_text.kp (bnd_need_text ev) tk (ma_cons (me_var 0) (ma_nil)))) (ms_bad)

theorem ok_bare {k : Nat} {T : FTab} (ev : Ev w K mg base D) (Fs : Fns P w K mg base D k T) : FnOk P w K mg base (L2.CX P w) (3 * k + 2 + 1) (ga K "bare") D.bare ["program"] (SPf (mkG K) 1 (runF 1 (m_bare T))) := by
  refine fn_ok (m := m_bare T) ev.d_bare sc_bare rfl fun cdv A outer s H E hc hr => ?_
  have hcd : cdv = .ref (cT K ("bare", none)).1 := hc.symm.trans (codeOf_of (p := ("bare", none)) ev.d_bare)
  have tk := takes_of (X := cxOf (L2.CX P w) P w K mg base ["program"] "bare" (defScope s_bare) (ga K "bare") cdv A outer s H E) rfl rfl rfl rfl
  exact ms_cons (ms_if (mt_not (mt_tr rfl (me_call (Fs.is_program) (hr.mono (by omega)) ev.g_is_program ev.d_is_program.kp (bnd_is_program ev) tk (ma_cons (me_var 0) (ma_nil))))) (ms_one (msr_program 1 1 rfl ev.x_BadProgram rfl hr tk (me_var 0))) (ms_nil)) (ms_bad)

theorem ok_written {k : Nat} {T : FTab} (ev : Ev w K mg base D) (Fs : Fns P w K mg base D k T) : FnOk P w K mg base (L2.CX P w) (3 * k + 2 + 1) (ga K "written") D.written ["program"] (SPf (mkG K) 1 (runF 3 (m_written T))) := by
  refine fn_ok (m := m_written T) ev.d_written sc_written rfl fun cdv A outer s H E hc hr => ?_
  have hcd : cdv = .ref (cT K ("written", none)).1 := hc.symm.trans (codeOf_of (p := ("written", none)) ev.d_written)
  have tk := takes_of (X := cxOf (L2.CX P w) P w K mg base ["program", "given", "tree"] "written" (defScope s_written) (ga K "written") cdv A outer s H E) rfl rfl rfl rfl
  exact ms_cons (ms_asg (me_call (Fs.need_program) (hr.mono (by omega)) ev.g_need_program ev.d_need_program.kp (bnd_need_program ev) tk (ma_cons (me_var 0) (ma_nil))) (mg_tup 2 rfl rfl (mgs_cons' (mg_name 1 sc_written.nd rfl (by first | exact Or.inl rfl | exact Or.inr rfl)) (mgs_cons' (mg_name 2 sc_written.nd rfl (by first | exact Or.inl rfl | exact Or.inr rfl)) (mgs_nil))))) (ms_bad)

theorem ok_names_or_first {k : Nat} {T : FTab} (ev : Ev w K mg base D) (Fs : Fns P w K mg base D k T) : FnOk P w K mg base (L2.CX P w) (3 * k + 2 + 1) (ga K "names_or_first") D.names_or_first ["program"] (SPf (mkG K) 1 (runF 1 (m_names_or_first T))) := by
  refine fn_ok (m := m_names_or_first T) ev.d_names_or_first sc_names_or_first rfl fun cdv A outer s H E hc hr => ?_
  have hcd : cdv = .ref (cT K ("names_or_first", none)).1 := hc.symm.trans (codeOf_of (p := ("names_or_first", none)) ev.d_names_or_first)
  have tk := takes_of (X := cxOf (L2.CX P w) P w K mg base ["program"] "names_or_first" (defScope s_names_or_first) (ga K "names_or_first") cdv A outer s H E) rfl rfl rfl rfl
  exact ms_one (ms_ret (me_call (Fs.first_by) (hr.mono (by omega)) ev.g_first_by ev.d_first_by.kp (bnd_first_by ev) tk (ma_cons (me_call (Fs.need_program) (hr.mono (by omega)) ev.g_need_program ev.d_need_program.kp (bnd_need_program ev) tk (ma_cons (me_var 0) (ma_nil))) (ma_nil))))

theorem ok_functions_of {k : Nat} {T : FTab} (ev : Ev w K mg base D) (Fs : Fns P w K mg base D k T) : FnOk P w K mg base (L2.CX P w) (3 * k + 2 + 1) (ga K "functions_of") D.functions_of ["program"] (SPf (mkG K) 1 (runF 4 (m_functions_of T))) := by
  refine fn_ok (m := m_functions_of T) ev.d_functions_of sc_functions_of rfl fun cdv A outer s H E hc hr => ?_
  have hcd : cdv = .ref (cT K ("functions_of", none)).1 := hc.symm.trans (codeOf_of (p := ("functions_of", none)) ev.d_functions_of)
  have tk := takes_of (X := cxOf (L2.CX P w) P w K mg base ["program", "place", "params", "_"] "functions_of" (defScope s_functions_of) (ga K "functions_of") cdv A outer s H E) rfl rfl rfl rfl
  exact ms_one (ms_ret (me_lc [("place", 1), ("params", 2), ("_", 3)] rfl sc_functions_of.nd (mi_any rfl (me_call (Fs.functions_by) (hr.mono (by omega)) ev.g_functions_by ev.d_functions_by.kp (bnd_functions_by ev) tk (ma_cons (me_call (Fs.need_right) (hr.mono (by omega)) ev.g_need_right ev.d_need_right.kp (bnd_need_right ev) tk (ma_cons (me_var 0) (ma_nil))) (ma_nil)))) (blkOk_by (by rfl)) (fun _ _ _ _ _ => by exact mgv_tup 3 rfl rfl (mgvs_cons (mgv_name (vs := [1, 2, 3]) 1 sc_functions_of.nd rfl (by first | exact Or.inl rfl | exact Or.inr rfl) (by decide)) (mgvs_cons (mgv_name (vs := [1, 2, 3]) 2 sc_functions_of.nd rfl (by first | exact Or.inl rfl | exact Or.inr rfl) (by decide)) (mgvs_cons (mgv_name (vs := [1, 2, 3]) 3 sc_functions_of.nd rfl (by first | exact Or.inl rfl | exact Or.inr rfl) (by decide)) (mgvs_nil))))) (fun _ _ _ _ _ => by exact pts_none) (fun _ _ _ _ _ => by exact me_bad)))

theorem ok_need_text {k : Nat} {T : FTab} (ev : Ev w K mg base D) (Fs : Fns P w K mg base D k T) : FnOk P w K mg base (L2.CX P w) (3 * k + 2 + 1) (ga K "need_text") D.need_text ["text"] (SPf (mkG K) 1 (runF 1 (m_need_text T))) := by
  refine fn_ok (m := m_need_text T) ev.d_need_text sc_need_text rfl fun cdv A outer s H E hc hr => ?_
  have hcd : cdv = .ref (cT K ("need_text", none)).1 := hc.symm.trans (codeOf_of (p := ("need_text", none)) ev.d_need_text)
  have tk := takes_of (X := cxOf (L2.CX P w) P w K mg base ["text"] "need_text" (defScope s_need_text) (ga K "need_text") cdv A outer s H E) rfl rfl rfl rfl
  exact ms_one (ms_if (mt_cmp op_notTyB os_notTy (me_callTy call_type1 (cs_type rfl) ev.b_type rfl (ma_cons (me_var 0) (ma_nil))) (me_ty 3 ev.b_str rfl)) (ms_one (msr_text 0 0 rfl ev.x_BadText rfl hr tk (me_var 0))) (ms_nil))

theorem ok_law_same {k : Nat} {T : FTab} (ev : Ev w K mg base D) (Fs : Fns P w K mg base D k T) : FnOk P w K mg base (L2.CX P w) (3 * k + 2 + 1) (ga K "_law_same") D.law_same ["found", "due"] (SPf (mkG K) 2 (runF 4 (m_law_same T))) := by
  refine fn_ok (m := m_law_same T) ev.d_law_same sc_law_same rfl fun cdv A outer s H E hc hr => ?_
  have hcd : cdv = .ref (cT K ("_law_same", none)).1 := hc.symm.trans (codeOf_of (p := ("_law_same", none)) ev.d_law_same)
  have tk := takes_of (X := cxOf (L2.CX P w) P w K mg base ["found", "due", "mine", "theirs"] "_law_same" (defScope s_law_same) (ga K "_law_same") cdv A outer s H E) rfl rfl rfl rfl
  exact ms_cons (ms_if (mt_tr rfl (me_isiT [4, 5] rfl ev.kit rfl rfl ev.b_isinstance (pa_cs (pe_bltn rfl ev.b_list rfl rfl) (pa_cs (pe_bltn rfl ev.b_tuple rfl rfl) pa_cs0)) (by decide) (me_var 1))) (ms_cons (ms_if ((mw_or (mt_cmp op_ne os_ne (me_isi1 4 rfl ev.kit rfl rfl ev.b_isinstance ev.b_list rfl (me_var 0)) (me_isi1 4 rfl ev.kit rfl rfl ev.b_isinstance ev.b_list rfl (me_var 1))) (mw_or1 (mt_cmp op_ne os_ne (me_isi1 5 rfl ev.kit rfl rfl ev.b_isinstance ev.b_tuple rfl (me_var 0)) (me_isi1 5 rfl ev.kit rfl rfl ev.b_isinstance ev.b_tuple rfl (me_var 1))))).pt) (ms_one (ms_ret (me_bl))) (ms_nil)) (ms_one (ms_ret (me_and rfl (me_cmp op_eq os_eq (me_callB call_lenB (cs_len rfl) ev.b_len rfl (ma_cons (me_var 0) (ma_nil))) (me_callB call_lenB (cs_len rfl) ev.b_len rfl (ma_cons (me_var 1) (ma_nil)))) (me_one (me_callB (cr_all rfl) (cs_all rfl) ev.b_all rfl (ma_cons (me_lc [("mine", 2), ("theirs", 3)] rfl sc_law_same.nd (mi_zip rfl ev.b_zip (ma_cons (me_var 0) (ma_cons (me_var 1) (ma_nil)))) (blkOk_by (by rfl)) (fun _ _ _ _ _ => by exact mgv_tup 2 rfl rfl (mgvs_cons (mgv_name (vs := [2, 3]) 2 sc_law_same.nd rfl (by first | exact Or.inl rfl | exact Or.inr rfl) (by decide)) (mgvs_cons (mgv_name (vs := [2, 3]) 3 sc_law_same.nd rfl (by first | exact Or.inl rfl | exact Or.inr rfl) (by decide)) (mgvs_nil)))) (fun _ _ _ _ _ => by exact pts_none) (fun _ _ _ _ _ => by exact me_call (Fs.law_same) (hr.mono (by omega)) ev.g_law_same ev.d_law_same.kp (bnd_law_same ev) L2.takes0 (ma_cons (me_var 2) (ma_cons (me_var 3) (ma_nil))))) (ma_nil)))))))) (ms_nil)) (ms_cons (ms_if (mt_tr rfl (me_isi1 6 rfl ev.kit rfl rfl ev.b_isinstance ev.b_dict rfl (me_var 1))) (ms_one (ms_ret (me_and rfl (me_isi1 6 rfl ev.kit rfl rfl ev.b_isinstance ev.b_dict rfl (me_var 0)) (me_one (me_call (Fs.law_same) (hr.mono (by omega)) ev.g_law_same ev.d_law_same.kp (bnd_law_same ev) tk (ma_cons (me_items rfl rfl (me_var 0) ev.b_list) (ma_cons (me_items rfl rfl (me_var 1) ev.b_list) (ma_nil)))))))) (ms_nil)) (ms_cons (ms_if ((mw_or (mt_tr rfl (me_isi1 1 rfl ev.kit rfl rfl ev.b_isinstance ev.b_bool rfl (me_var 1))) (mw_or1 (mt_tr rfl (me_isi1 1 rfl ev.kit rfl rfl ev.b_isinstance ev.b_bool rfl (me_var 0))))).pt) (ms_one (ms_ret (me_and rfl (me_isi1 1 rfl ev.kit rfl rfl ev.b_isinstance ev.b_bool rfl (me_var 1)) (me_and rfl (me_isi1 1 rfl ev.kit rfl rfl ev.b_isinstance ev.b_bool rfl (me_var 0)) (me_one (me_cmp op_eq os_eq (me_var 0) (me_var 1))))))) (ms_nil)) (ms_cons (ms_if ((mw_or (mt_cmp op_isN os_isN (me_var 1) (me_non)) (mw_or1 (mt_cmp op_isN os_isN (me_var 0) (me_non)))).pt) (ms_one (ms_ret (me_and rfl (me_cmp op_isN os_isN (me_var 1) (me_non)) (me_one (me_cmp op_isN os_isN (me_var 0) (me_non)))))) (ms_nil)) (ms_cons (ms_if ((mw_or (mt_cmp op_ne os_ne (me_isi1 2 rfl ev.kit rfl rfl ev.b_isinstance ev.b_int rfl (me_var 1)) (me_isi1 2 rfl ev.kit rfl rfl ev.b_isinstance ev.b_int rfl (me_var 0))) (mw_or1 (mt_cmp op_ne os_ne (me_isi1 3 rfl ev.kit rfl rfl ev.b_isinstance ev.b_str rfl (me_var 1)) (me_isi1 3 rfl ev.kit rfl rfl ev.b_isinstance ev.b_str rfl (me_var 0))))).pt) (ms_one (ms_ret (me_bl))) (ms_nil)) (ms_one (ms_ret (me_and rfl (me_not rfl (me_isiT [4, 5, 6] rfl ev.kit rfl rfl ev.b_isinstance (pa_cs (pe_bltn rfl ev.b_list rfl rfl) (pa_cs (pe_bltn rfl ev.b_tuple rfl rfl) (pa_cs (pe_bltn rfl ev.b_dict rfl rfl) pa_cs0))) (by decide) (me_var 0))) (me_one (me_cmp op_eq os_eq (me_var 0) (me_var 1))))))))))

theorem ok_is_program {k : Nat} {T : FTab} (ev : Ev w K mg base D) (Fs : Fns P w K mg base D k T) : FnOk P w K mg base (L2.CX P w) (3 * k + 2 + 1) (ga K "is_program") D.is_program ["thing"] (SPf (mkG K) 1 (runF 1 (m_is_program T))) := by
  refine fn_ok (m := m_is_program T) ev.d_is_program sc_is_program rfl fun cdv A outer s H E hc hr => ?_
  have hcd : cdv = .ref (cT K ("is_program", none)).1 := hc.symm.trans (codeOf_of (p := ("is_program", none)) ev.d_is_program)
  have tk := takes_of (X := cxOf (L2.CX P w) P w K mg base ["thing"] "is_program" (defScope s_is_program) (ga K "is_program") cdv A outer s H E) rfl rfl rfl rfl
  exact ms_one (ms_ret (me_and rfl (me_call (Fs.is_row) (hr.mono (by omega)) ev.g_is_row ev.d_is_row.kp (bnd_is_row ev) tk (ma_cons (me_var 0) (ma_cons (me_int) (ma_nil)))) (me_and rfl (me_call (Fs.are_names) (hr.mono (by omega)) ev.g_are_names ev.d_are_names.kp (bnd_are_names ev) tk (ma_cons (me_ix ix_seq (os_ix rfl) (me_var 0) (me_int)) (ma_nil))) (me_one (me_call (Fs.are_right) (hr.mono (by omega)) ev.g_are_right ev.d_are_right.kp (bnd_are_right ev) tk (ma_cons (me_lst (ma_cons (me_ix ix_seq (os_ix rfl) (me_var 0) (me_int)) (ma_nil))) (ma_nil)))))))

theorem ok_need_program {k : Nat} {T : FTab} (ev : Ev w K mg base D) (Fs : Fns P w K mg base D k T) : FnOk P w K mg base (L2.CX P w) (3 * k + 2 + 1) (ga K "need_program") D.need_program ["program"] (SPf (mkG K) 1 (runF 1 (m_need_program T))) := by
  refine fn_ok (m := m_need_program T) ev.d_need_program sc_need_program rfl fun cdv A outer s H E hc hr => ?_
  have hcd : cdv = .ref (cT K ("need_program", none)).1 := hc.symm.trans (codeOf_of (p := ("need_program", none)) ev.d_need_program)
  have tk := takes_of (X := cxOf (L2.CX P w) P w K mg base ["program"] "need_program" (defScope s_need_program) (ga K "need_program") cdv A outer s H E) rfl rfl rfl rfl
  exact ms_cons (ms_if (mt_not (mt_tr rfl (me_call (Fs.is_program) (hr.mono (by omega)) ev.g_is_program ev.d_is_program.kp (bnd_is_program ev) tk (ma_cons (me_var 0) (ma_nil))))) (ms_one (msr_program 1 1 rfl ev.x_BadProgram rfl hr tk (me_var 0))) (ms_nil)) (ms_bad)

theorem ok_need_right {k : Nat} {T : FTab} (ev : Ev w K mg base D) (Fs : Fns P w K mg base D k T) : FnOk P w K mg base (L2.CX P w) (3 * k + 2 + 1) (ga K "need_right") D.need_right ["program"] (SPf (mkG K) 1 (runF 5 (m_need_right T))) := by
  refine fn_ok (m := m_need_right T) ev.d_need_right sc_need_right rfl fun cdv A outer s H E hc hr => ?_
  have hcd : cdv = .ref (cT K ("need_right", none)).1 := hc.symm.trans (codeOf_of (p := ("need_right", none)) ev.d_need_right)
  have tk := takes_of (X := cxOf (L2.CX P w) P w K mg base ["program", "kept", "places", "one", "place"] "need_right" (defScope s_need_right) (ga K "need_right") cdv A outer s H E) rfl rfl rfl rfl
  exact ms_cons (ms_set 1 sc_need_right.nd rfl (by first | exact Or.inl rfl | exact Or.inr rfl) (me_call (Fs.need_program) (hr.mono (by omega)) ev.g_need_program ev.d_need_program.kp (bnd_need_program ev) tk (ma_cons (me_var 0) (ma_nil)))) (ms_bad)

theorem ok_is_row {k : Nat} {T : FTab} (ev : Ev w K mg base D) (Fs : Fns P w K mg base D k T) : FnOk P w K mg base (L2.CX P w) (3 * k + 2 + 1) (ga K "is_row") D.is_row ["thing", "many"] (SPf (mkG K) 2 (runF 2 (m_is_row T))) := by
  refine fn_ok (m := m_is_row T) ev.d_is_row sc_is_row rfl fun cdv A outer s H E hc hr => ?_
  have hcd : cdv = .ref (cT K ("is_row", none)).1 := hc.symm.trans (codeOf_of (p := ("is_row", none)) ev.d_is_row)
  have tk := takes_of (X := cxOf (L2.CX P w) P w K mg base ["thing", "many"] "is_row" (defScope s_is_row) (ga K "is_row") cdv A outer s H E) rfl rfl rfl rfl
  exact ms_one (ms_ret (me_and rfl (me_call (Fs.is_list) (hr.mono (by omega)) ev.g_is_list ev.d_is_list.kp (bnd_is_list ev) tk (ma_cons (me_var 0) (ma_nil))) (me_one (me_cmp op_eq os_eq (me_callB call_lenB (cs_len rfl) ev.b_len rfl (ma_cons (me_var 0) (ma_nil))) (me_var 1)))))

theorem ok_are_names {k : Nat} {T : FTab} (ev : Ev w K mg base D) (Fs : Fns P w K mg base D k T) : FnOk P w K mg base (L2.CX P w) (3 * k + 2 + 1) (ga K "are_names") D.are_names ["thing"] (SPf (mkG K) 1 (runF 2 (m_are_names T))) := by
  refine fn_ok (m := m_are_names T) ev.d_are_names sc_are_names rfl fun cdv A outer s H E hc hr => ?_
  have hcd : cdv = .ref (cT K ("are_names", none)).1 := hc.symm.trans (codeOf_of (p := ("are_names", none)) ev.d_are_names)
  have tk := takes_of (X := cxOf (L2.CX P w) P w K mg base ["thing", "one"] "are_names" (defScope s_are_names) (ga K "are_names") cdv A outer s H E) rfl rfl rfl rfl
  exact ms_one (ms_ret (me_and rfl (me_call (Fs.is_list) (hr.mono (by omega)) ev.g_is_list ev.d_is_list.kp (bnd_is_list ev) tk (ma_cons (me_var 0) (ma_nil))) (me_one (me_callB (cr_all rfl) (cs_all rfl) ev.b_all rfl (ma_cons (me_lc [("one", 1)] rfl sc_are_names.nd (mi_any rfl (me_var 0)) (blkOk_by (by rfl)) (fun _ _ _ _ _ => by exact mgv_name (vs := [1]) 1 sc_are_names.nd rfl (by first | exact Or.inl rfl | exact Or.inr rfl) (by decide)) (fun _ _ _ _ _ => by exact pts_none) (fun _ _ _ _ _ => by exact me_call (Fs.is_name) (hr.mono (by omega)) ev.g_is_name ev.d_is_name.kp (bnd_is_name ev) L2.takes0 (ma_cons (me_var 1) (ma_nil)))) (ma_nil))))))

theorem ok_are_right {k : Nat} {T : FTab} (ev : Ev w K mg base D) (Fs : Fns P w K mg base D k T) : FnOk P w K mg base (L2.CX P w) (3 * k + 2 + 1) (ga K "are_right") D.are_right ["trees"] (SPf (mkG K) 1 (runF 7 (m_are_right T))) := by
  refine fn_ok (m := m_are_right T) ev.d_are_right sc_are_right rfl fun cdv A outer s H E hc hr => ?_
  have hcd : cdv = .ref (cT K ("are_right", none)).1 := hc.symm.trans (codeOf_of (p := ("are_right", none)) ev.d_are_right)
  have tk := takes_of (X := cxOf (L2.CX P w) P w K mg base ["trees", "left", "thing", "sorts", "sort", "part", "one"] "are_right" (defScope s_are_right) (ga K "are_right") cdv A outer s H E) rfl rfl rfl rfl
  exact ms_cons (ms_set 1 sc_are_right.nd rfl (by first | exact Or.inl rfl | exact Or.inr rfl) (me_callTy call_list_of (cs_list rfl) ev.b_list rfl (ma_cons (me_var 0) (ma_nil)))) (ms_cons (ms_while PassesOwn.leaving (mt_tr rfl (me_var 1)) (ms_cons (ms_set 2 sc_are_right.nd rfl (by first | exact Or.inl rfl | exact Or.inr rfl) (me_pop rfl (me_var 1))) (ms_cons (ms_set 3 sc_are_right.nd rfl (by first | exact Or.inl rfl | exact Or.inr rfl) (me_call (Fs.sorts_of) (hr.mono (by omega)) ev.g_sorts_of ev.d_sorts_of.kp (bnd_sorts_of ev) tk (ma_cons (me_var 2) (ma_nil)))) (ms_cons (ms_if (mt_cmp op_isN os_isN (me_var 3) (me_non)) (ms_one (ms_ret (me_bl))) (ms_nil)) (ms_one (ms_for PassesOwn.leaving rfl (mi_zip rfl ev.b_zip (ma_cons (me_var 3) (ma_cons (me_slice rfl (me_var 2) (mo_some (me_int)) mo_none) (ma_nil)))) (mg_tup 2 rfl rfl (mgs_cons' (mg_name 4 sc_are_right.nd rfl (by first | exact Or.inl rfl | exact Or.inr rfl)) (mgs_cons' (mg_name 5 sc_are_right.nd rfl (by first | exact Or.inl rfl | exact Or.inr rfl)) (mgs_nil)))) (ms_one (ms_if (mt_cmp op_eq os_eq (me_var 4) (me_str [101])) (ms_one (ms_expr (me_append rfl (me_var 1) (ma_cons (me_var 5) (ma_nil))))) (ms_one (ms_if ((mw_and (mt_cmp op_eq os_eq (me_var 4) (me_str [108])) (mw_and1 (mt_tr rfl (me_call (Fs.is_list) (hr.mono (by omega)) ev.g_is_list ev.d_is_list.kp (bnd_is_list ev) tk (ma_cons (me_var 5) (ma_nil)))))).pt) (ms_one (ms_expr (me_extend rfl (me_var 1) (ma_cons (me_var 5) (ma_nil))))) (ms_one (ms_if ((mw_and (mt_cmp op_eq os_eq (me_var 4) (me_str [102])) (mw_and1 (mt_tr rfl (me_call (Fs.are_functions) (hr.mono (by omega)) ev.g_are_functions ev.d_are_functions.kp (bnd_are_functions ev) tk (ma_cons (me_var 5) (ma_nil)))))).pt) (ms_one (ms_expr (me_extend rfl (me_var 1) (ma_cons (me_lc [("one", 6)] rfl sc_are_right.nd (mi_any rfl (me_var 5)) (blkOk_by (by rfl)) (fun _ _ _ _ _ => by exact mgv_name (vs := [6]) 6 sc_are_right.nd rfl (by first | exact Or.inl rfl | exact Or.inr rfl) (by decide)) (fun _ _ _ _ _ => by exact pts_none) (fun _ _ _ _ _ => by exact me_ix ix_seq (os_ix rfl) (me_var 6) (me_int))) (ma_nil))))) (ms_one (ms_if ((mw_or (mt_cmp op_inB (os_in rfl) (me_var 4) (me_tup (ma_cons (me_str [108]) (ma_cons (me_str [102]) (ma_nil))))) (mw_or1 (mt_not (mt_tr rfl (me_call (Fs.is_leaf) (hr.mono (by omega)) ev.g_is_leaf ev.d_is_leaf.kp (bnd_is_leaf ev) tk (ma_cons (me_var 4) (ma_cons (me_var 5) (ma_nil)))))))).pt) (ms_one (ms_ret (me_bl))) (ms_nil))))))))))))))) (ms_one (ms_ret (me_bl))))

theorem ok_is_list {k : Nat} {T : FTab} (ev : Ev w K mg base D) (Fs : Fns P w K mg base D k T) : FnOk P w K mg base (L2.CX P w) (3 * k + 2 + 1) (ga K "is_list") D.is_list ["thing"] (SPf (mkG K) 1 (runF 1 (m_is_list T))) := by
  refine fn_ok (m := m_is_list T) ev.d_is_list sc_is_list rfl fun cdv A outer s H E hc hr => ?_
  have hcd : cdv = .ref (cT K ("is_list", none)).1 := hc.symm.trans (codeOf_of (p := ("is_list", none)) ev.d_is_list)
  have tk := takes_of (X := cxOf (L2.CX P w) P w K mg base ["thing"] "is_list" (defScope s_is_list) (ga K "is_list") cdv A outer s H E) rfl rfl rfl rfl
  exact ms_one (ms_ret (me_isiT [4, 5] rfl ev.kit rfl rfl ev.b_isinstance (pa_cs (pe_bltn rfl ev.b_list rfl rfl) (pa_cs (pe_bltn rfl ev.b_tuple rfl rfl) pa_cs0)) (by decide) (me_var 0)))

theorem ok_is_name {k : Nat} {T : FTab} (ev : Ev w K mg base D) (Fs : Fns P w K mg base D k T) : FnOk P w K mg base (L2.CX P w) (3 * k + 2 + 1) (ga K "is_name") D.is_name ["thing"] (SPf (mkG K) 1 (runF 2 (m_is_name T))) := by
  refine fn_ok (m := m_is_name T) ev.d_is_name sc_is_name rfl fun cdv A outer s H E hc hr => ?_
  have hcd : cdv = .ref (cT K ("is_name", none)).1 := hc.symm.trans (codeOf_of (p := ("is_name", none)) ev.d_is_name)
  have tk := takes_of (X := cxOf (L2.CX P w) P w K mg base ["thing", "sign"] "is_name" (defScope s_is_name) (ga K "is_name") cdv A outer s H E) rfl rfl rfl rfl
  exact ms_cons (ms_if ((mw_or (mt_cmp op_notTyB os_notTy (me_callTy call_type1 (cs_type rfl) ev.b_type rfl (ma_cons (me_var 0) (ma_nil))) (me_ty 3 ev.b_str rfl)) (mw_or (mt_not (mt_chain op_le op_le os_le os_le (me_int) (me_callB call_lenB (cs_len rfl) ev.b_len rfl (ma_cons (me_var 0) (ma_nil))) (me_int))) (mw_or (mt_cmp op_inB (os_in rfl) (me_var 0) (me_gl (av := .tup (([[103, 105, 118, 101, 110], [108, 101, 116], [114, 101, 99], [97, 110, 100], [105, 110], [105, 102], [116, 104, 101, 110], [101, 108, 115, 101], [112, 114, 105, 110, 116], [102, 117, 110], [102, 105, 114, 115, 116], [114, 101, 115, 116]] : List (List Nat)).map .str)) (v := .ref (ga K "WORDS")) ev.g_WORDS rfl (rv_strs (ev.w_WORDS)))) (mw_or1 (mt_cmp op_notInB (os_in rfl) (me_ix ix_seq (os_ix rfl) (me_var 0) (me_int)) (me_gl (av := .str [97, 98, 99, 100, 101, 102, 103, 104, 105, 106, 107, 108, 109, 110, 111, 112, 113, 114, 115, 116, 117, 118, 119, 120, 121, 122]) (v := .str (toS [97, 98, 99, 100, 101, 102, 103, 104, 105, 106, 107, 108, 109, 110, 111, 112, 113, 114, 115, 116, 117, 118, 119, 120, 121, 122])) ev.g_LETTERS.choose_spec ⟨_, rfl⟩ (fun _ _ => rv_str))))))).pt) (ms_one (ms_ret (me_bl))) (ms_nil)) (ms_one (ms_ret (me_callB (cr_all rfl) (cs_all rfl) ev.b_all rfl (ma_cons (me_lc [("sign", 1)] rfl sc_is_name.nd (mi_any rfl (me_var 0)) (blkOk_by (by rfl)) (fun _ _ _ _ _ => by exact mgv_name (vs := [1]) 1 sc_is_name.nd rfl (by first | exact Or.inl rfl | exact Or.inr rfl) (by decide)) (fun _ _ _ _ _ => by exact pts_none) (fun _ _ _ _ _ => by exact me_or rfl (me_cmp op_inB (os_in rfl) (me_var 1) (me_gl (av := .str [97, 98, 99, 100, 101, 102, 103, 104, 105, 106, 107, 108, 109, 110, 111, 112, 113, 114, 115, 116, 117, 118, 119, 120, 121, 122]) (v := .str (toS [97, 98, 99, 100, 101, 102, 103, 104, 105, 106, 107, 108, 109, 110, 111, 112, 113, 114, 115, 116, 117, 118, 119, 120, 121, 122])) ev.g_LETTERS.choose_spec ⟨_, rfl⟩ (fun _ _ => rv_str))) (me_one (me_cmp op_inB (os_in rfl) (me_var 1) (me_gl (av := .str [48, 49, 50, 51, 52, 53, 54, 55, 56, 57]) (v := .str (toS [48, 49, 50, 51, 52, 53, 54, 55, 56, 57])) ev.g_FIGURES.choose_spec ⟨_, rfl⟩ (fun _ _ => rv_str)))))) (ma_nil)))))

theorem ok_sorts_of {k : Nat} {T : FTab} (ev : Ev w K mg base D) (Fs : Fns P w K mg base D k T) : FnOk P w K mg base (L2.CX P w) (3 * k + 2 + 1) (ga K "sorts_of") D.sorts_of ["thing"] (SPf (mkG K) 1 (runF 2 (m_sorts_of T))) := by
  refine fn_ok (m := m_sorts_of T) ev.d_sorts_of sc_sorts_of rfl fun cdv A outer s H E hc hr => ?_
  have hcd : cdv = .ref (cT K ("sorts_of", none)).1 := hc.symm.trans (codeOf_of (p := ("sorts_of", none)) ev.d_sorts_of)
  have tk := takes_of (X := cxOf (L2.CX P w) P w K mg base ["thing", "sorts"] "sorts_of" (defScope s_sorts_of) (ga K "sorts_of") cdv A outer s H E) rfl rfl rfl rfl
  exact ms_cons (ms_if ((mw_or (mt_not (mt_tr rfl (me_call (Fs.is_list) (hr.mono (by omega)) ev.g_is_list ev.d_is_list.kp (bnd_is_list ev) tk (ma_cons (me_var 0) (ma_nil))))) (mw_or (mt_cmp op_lt os_lt (me_callB call_lenB (cs_len rfl) ev.b_len rfl (ma_cons (me_var 0) (ma_nil))) (me_int)) (mw_or (mt_cmp op_notTyB os_notTy (me_callTy call_type1 (cs_type rfl) ev.b_type rfl (ma_cons (me_ix ix_seq (os_ix rfl) (me_var 0) (me_int)) (ma_nil))) (me_ty 3 ev.b_str rfl)) (mw_or1 (mt_cmp (op_notIn_kd ev.k_PARTS.choose_spec.choose_spec) (os_inT (neg := true) (j := 6) rfl ev.t_PARTS) (me_ix ix_seq (os_ix rfl) (me_var 0) (me_int)) (me_gl (av := .fn 6) (v := .ref (ga K "PARTS")) ev.g_PARTS rfl (fun _ _ => by unfold RV; rfl))))))).pt) (ms_one (ms_ret (me_non))) (ms_nil)) (ms_cons (ms_set 1 sc_sorts_of.nd rfl (by first | exact Or.inl rfl | exact Or.inr rfl) (me_ix ix_kdict (os_ixT (j := 6) rfl ev.k_PARTS.choose_spec.choose_spec ev.t_PARTS) (me_gl (av := .fn 6) (v := .ref (ga K "PARTS")) ev.g_PARTS rfl (fun _ _ => by unfold RV; rfl)) (me_ix ix_seq (os_ix rfl) (me_var 0) (me_int)))) (ms_one (ms_ret (me_if ((mw_and (mt_cmp op_eq os_eq (me_callB call_lenB (cs_len rfl) ev.b_len rfl (ma_cons (me_var 0) (ma_nil))) (me_bin op_add os_add (me_callB call_lenB (cs_len rfl) ev.b_len rfl (ma_cons (me_var 1) (ma_nil))) (me_int))) (mw_and1 (mt_tr rfl (me_call (Fs.is_place) (hr.mono (by omega)) ev.g_is_place ev.d_is_place.kp (bnd_is_place ev) tk (ma_cons (me_ix ix_seq (os_ix rfl) (me_var 0) (me_int)) (ma_nil)))))).pt) (me_var 1) (me_non)))))

theorem ok_are_functions {k : Nat} {T : FTab} (ev : Ev w K mg base D) (Fs : Fns P w K mg base D k T) : FnOk P w K mg base (L2.CX P w) (3 * k + 2 + 1) (ga K "are_functions") D.are_functions ["thing"] (SPf (mkG K) 1 (runF 2 (m_are_functions T))) := by
  refine fn_ok (m := m_are_functions T) ev.d_are_functions sc_are_functions rfl fun cdv A outer s H E hc hr => ?_
  have hcd : cdv = .ref (cT K ("are_functions", none)).1 := hc.symm.trans (codeOf_of (p := ("are_functions", none)) ev.d_are_functions)
  have tk := takes_of (X := cxOf (L2.CX P w) P w K mg base ["thing", "one"] "are_functions" (defScope s_are_functions) (ga K "are_functions") cdv A outer s H E) rfl rfl rfl rfl
  exact ms_cons (ms_if ((mw_or (mt_not (mt_tr rfl (me_call (Fs.is_list) (hr.mono (by omega)) ev.g_is_list ev.d_is_list.kp (bnd_is_list ev) tk (ma_cons (me_var 0) (ma_nil))))) (mw_or (mt_cmp op_eq os_eq (me_callB call_lenB (cs_len rfl) ev.b_len rfl (ma_cons (me_var 0) (ma_nil))) (me_int)) (mw_or1 (mt_not (mt_tr rfl (me_callB (cr_all rfl) (cs_all rfl) ev.b_all rfl (ma_cons (me_lc [("one", 1)] rfl sc_are_functions.nd (mi_any rfl (me_var 0)) (blkOk_by (by rfl)) (fun _ _ _ _ _ => by exact mgv_name (vs := [1]) 1 sc_are_functions.nd rfl (by first | exact Or.inl rfl | exact Or.inr rfl) (by decide)) (fun _ _ _ _ _ => by exact pts_none) (fun _ _ _ _ _ => by exact me_call (Fs.is_row) (hr.mono (by omega)) ev.g_is_row ev.d_is_row.kp (bnd_is_row ev) L2.takes0 (ma_cons (me_var 1) (ma_cons (me_int) (ma_nil))))) (ma_nil)))))))).pt) (ms_one (ms_ret (me_bl))) (ms_nil)) (ms_one (ms_ret (me_callB (cr_all rfl) (cs_all rfl) ev.b_all rfl (ma_cons (me_lc [("one", 1)] rfl sc_are_functions.nd (mi_any rfl (me_var 0)) (blkOk_by (by rfl)) (fun _ _ _ _ _ => by exact mgv_name (vs := [1]) 1 sc_are_functions.nd rfl (by first | exact Or.inl rfl | exact Or.inr rfl) (by decide)) (fun _ _ _ _ _ => by exact pts_none) (fun _ _ _ _ _ => by exact me_and rfl (me_call (Fs.is_name) (hr.mono (by omega)) ev.g_is_name ev.d_is_name.kp (bnd_is_name ev) L2.takes0 (ma_cons (me_ix ix_seq (os_ix rfl) (me_var 1) (me_int)) (ma_nil))) (me_and rfl (me_call (Fs.is_place) (hr.mono (by omega)) ev.g_is_place ev.d_is_place.kp (bnd_is_place ev) L2.takes0 (ma_cons (me_ix ix_seq (os_ix rfl) (me_var 1) (me_int)) (ma_nil))) (me_one (me_call (Fs.are_names) (hr.mono (by omega)) ev.g_are_names ev.d_are_names.kp (bnd_are_names ev) L2.takes0 (ma_cons (me_ix ix_seq (os_ix rfl) (me_var 1) (me_int)) (ma_nil))))))) (ma_nil)))))

theorem ok_is_leaf {k : Nat} {T : FTab} (ev : Ev w K mg base D) (Fs : Fns P w K mg base D k T) : FnOk P w K mg base (L2.CX P w) (3 * k + 2 + 1) (ga K "is_leaf") D.is_leaf ["sort", "part"] (SPf (mkG K) 2 (runF 2 (m_is_leaf T))) := by
  refine fn_ok (m := m_is_leaf T) ev.d_is_leaf sc_is_leaf rfl fun cdv A outer s H E hc hr => ?_
  have hcd : cdv = .ref (cT K ("is_leaf", none)).1 := hc.symm.trans (codeOf_of (p := ("is_leaf", none)) ev.d_is_leaf)
  have tk := takes_of (X := cxOf (L2.CX P w) P w K mg base ["sort", "part"] "is_leaf" (defScope s_is_leaf) (ga K "is_leaf") cdv A outer s H E) rfl rfl rfl rfl
  exact ms_cons (ms_if (mt_cmp op_eq os_eq (me_var 0) (me_str [110])) (ms_one (ms_ret (me_and rfl (me_call (Fs.is_number) (hr.mono (by omega)) ev.g_is_number ev.d_is_number.kp (bnd_is_number ev) tk (ma_cons (me_var 1) (ma_nil))) (me_one (me_cmp op_le os_le (me_var 1) (me_gl (av := .int 2147483647) (v := .int 2147483647) ev.g_MOST.choose_spec ⟨_, rfl⟩ (fun _ _ => rv_int))))))) (ms_nil)) (ms_cons (ms_if (mt_cmp op_eq os_eq (me_var 0) (me_str [115])) (ms_one (ms_ret (me_call (Fs.is_name) (hr.mono (by omega)) ev.g_is_name ev.d_is_name.kp (bnd_is_name ev) tk (ma_cons (me_var 1) (ma_nil))))) (ms_nil)) (ms_one (ms_ret (me_if (mt_cmp op_eq os_eq (me_var 0) (me_str [112])) (me_call (Fs.are_names) (hr.mono (by omega)) ev.g_are_names ev.d_are_names.kp (bnd_are_names ev) tk (ma_cons (me_var 1) (ma_nil))) (me_and rfl (me_cmp op_isTyB os_isTy (me_callTy call_type1 (cs_type rfl) ev.b_type rfl (ma_cons (me_var 1) (ma_nil))) (me_ty 3 ev.b_str rfl)) (me_one (me_cmp op_inB (os_in rfl) (me_var 1) (me_gl (av := .tup (([[43], [45], [42], [61, 61], [60]] : List (List Nat)).map .str)) (v := .ref (ga K "OPS")) ev.g_OPS rfl (rv_strs (ev.w_OPS))))))))))

theorem ok_is_place {k : Nat} {T : FTab} (ev : Ev w K mg base D) (Fs : Fns P w K mg base D k T) : FnOk P w K mg base (L2.CX P w) (3 * k + 2 + 1) (ga K "is_place") D.is_place ["thing"] (SPf (mkG K) 1 (runF 1 (m_is_place T))) := by
  refine fn_ok (m := m_is_place T) ev.d_is_place sc_is_place rfl fun cdv A outer s H E hc hr => ?_
  have hcd : cdv = .ref (cT K ("is_place", none)).1 := hc.symm.trans (codeOf_of (p := ("is_place", none)) ev.d_is_place)
  have tk := takes_of (X := cxOf (L2.CX P w) P w K mg base ["thing"] "is_place" (defScope s_is_place) (ga K "is_place") cdv A outer s H E) rfl rfl rfl rfl
  exact ms_one (ms_ret (me_and rfl (me_call (Fs.is_row) (hr.mono (by omega)) ev.g_is_row ev.d_is_row.kp (bnd_is_row ev) tk (ma_cons (me_var 0) (ma_cons (me_int) (ma_nil)))) (me_and rfl (me_call (Fs.is_whole) (hr.mono (by omega)) ev.g_is_whole ev.d_is_whole.kp (bnd_is_whole ev) tk (ma_cons (me_ix ix_seq (os_ix rfl) (me_var 0) (me_int)) (ma_nil))) (me_and rfl (me_call (Fs.is_whole) (hr.mono (by omega)) ev.g_is_whole ev.d_is_whole.kp (bnd_is_whole ev) tk (ma_cons (me_ix ix_seq (os_ix rfl) (me_var 0) (me_int)) (ma_nil))) (me_and rfl (me_cmp op_gt os_gt (me_ix ix_seq (os_ix rfl) (me_var 0) (me_int)) (me_int)) (me_one (me_cmp op_gt os_gt (me_ix ix_seq (os_ix rfl) (me_var 0) (me_int)) (me_int))))))))

theorem ok_is_number {k : Nat} {T : FTab} (ev : Ev w K mg base D) (Fs : Fns P w K mg base D k T) : FnOk P w K mg base (L2.CX P w) (3 * k + 2 + 1) (ga K "is_number") D.is_number ["thing"] (SPf (mkG K) 1 (runF 1 (m_is_number T))) := by
  refine fn_ok (m := m_is_number T) ev.d_is_number sc_is_number rfl fun cdv A outer s H E hc hr => ?_
  have hcd : cdv = .ref (cT K ("is_number", none)).1 := hc.symm.trans (codeOf_of (p := ("is_number", none)) ev.d_is_number)
  have tk := takes_of (X := cxOf (L2.CX P w) P w K mg base ["thing"] "is_number" (defScope s_is_number) (ga K "is_number") cdv A outer s H E) rfl rfl rfl rfl
  exact ms_one (ms_ret (me_and rfl (me_call (Fs.is_whole) (hr.mono (by omega)) ev.g_is_whole ev.d_is_whole.kp (bnd_is_whole ev) tk (ma_cons (me_var 0) (ma_nil))) (me_one (me_cmp op_ge os_ge (me_var 0) (me_int)))))

theorem ok_is_whole {k : Nat} {T : FTab} (ev : Ev w K mg base D) (Fs : Fns P w K mg base D k T) : FnOk P w K mg base (L2.CX P w) (3 * k + 2 + 1) (ga K "is_whole") D.is_whole ["thing"] (SPf (mkG K) 1 (runF 1 (m_is_whole T))) := by
  refine fn_ok (m := m_is_whole T) ev.d_is_whole sc_is_whole rfl fun cdv A outer s H E hc hr => ?_
  have hcd : cdv = .ref (cT K ("is_whole", none)).1 := hc.symm.trans (codeOf_of (p := ("is_whole", none)) ev.d_is_whole)
  have tk := takes_of (X := cxOf (L2.CX P w) P w K mg base ["thing"] "is_whole" (defScope s_is_whole) (ga K "is_whole") cdv A outer s H E) rfl rfl rfl rfl
  exact ms_one (ms_ret (me_and rfl (me_isi1 2 rfl ev.kit rfl rfl ev.b_isinstance ev.b_int rfl (me_var 0)) (me_one (me_not rfl (me_isi1 1 rfl ev.kit rfl rfl ev.b_isinstance ev.b_bool rfl (me_var 0))))))
end
end K05

end

section
set_option maxHeartbeats 2000000
namespace K05
open Sh PySem PySem.Spec PyProof.Rows L2 LamX He
section
variable {P : Program} {w : World} {K : PySem.W.Frag} {mg : Str → Option Value} {base : Heap} {D : Fds}
theorem ok_law_all_refused {k : Nat} {T : FTab} (ev : Ev w K mg base D) (Fs : Fns P w K mg base D k T) : FnOk P w K mg base (L2.CX P w) (3 * k + 2 + 1) (ga K "_law_all_refused") D.law_all_refused ["word", "odds", "asks"] (SPf (mkG K) 3 (runF 5 (m_law_all_refused T))) := by
  refine fn_ok (m := m_law_all_refused T) ev.d_law_all_refused sc_law_all_refused rfl fun cdv A outer s H E hc hr => ?_
  have hcd : cdv = .ref (cT K ("_law_all_refused", none)).1 := hc.symm.trans (codeOf_of (p := ("_law_all_refused", none)) ev.d_law_all_refused)
  have tk := takes_of (X := cxOf (L2.CX P w) P w K mg base ["word", "odds", "asks", "ask", "odd"] "_law_all_refused" (defScope s_law_all_refused) (ga K "_law_all_refused") cdv A outer s H E) rfl rfl rfl rfl
  exact ms_cons (ms_for PassesOwn.leaving rfl (mi_any rfl (me_var 2)) (mg_name 3 sc_law_all_refused.nd rfl (by first | exact Or.inl rfl | exact Or.inr rfl)) (ms_one (ms_if ((mw_or (mt_not (mt_tr rfl (me_callB (cr_all rfl) (cs_all rfl) ev.b_all rfl (ma_cons (me_lc [("odd", 4)] rfl sc_law_all_refused.nd (mi_any rfl (me_var 1)) (blkOk_by (by rfl)) (fun _ _ _ _ _ => by exact mgv_name (vs := [4]) 4 sc_law_all_refused.nd rfl (by first | exact Or.inl rfl | exact Or.inr rfl) (by decide)) (fun _ _ _ _ _ => by exact pts_none) (fun _ _ _ _ _ => by exact me_call (Fs.law_same) (hr.mono (by omega)) ev.g_law_same ev.d_law_same.kp (bnd_law_same ev) L2.takes0 (ma_cons (me_met (c := (cT K ("_law_all_refused", none)).1) (P := (cT K ("_law_all_refused", none)).2) (k := 3 * k) rfl ev.exm (nm_inj K) ev.d_law_met ev.g_law_met (bnd_law_met ev) sc_law_met rfl (Or.inl rfl) (by exact fun _ => met_gives (i := 1) (n := "e") sc_law_met.nd rfl (fun _ => rfl) (Or.inl rfl) (by decide) (by decide) (fun _ _ => by exact (.fld ⟨rfl, by decide, .inl ev.gc_BadProgram⟩ ⟨ev.x_BadProgram.ga, ev.x_BadProgram.gg, ev.x_BadProgram.exC, ev.x_BadProgram.hdC⟩ ev.x_BadProgram.noN rfl (.fld ⟨rfl, by decide, .inl ev.gc_BadText⟩ ⟨ev.x_BadText.ga, ev.x_BadText.gg, ev.x_BadText.exC, ev.x_BadText.hdC⟩ ev.x_BadText.noN rfl .nil))) (fun _ => rfl)) ev.tb_law_all_refused (by exact hcd) (List.Mem.head _) (onlyT_law_all_refused ev) hr (lamS_by (by rfl)) rfl (fun _ _ _ _ _ => rfl) (fun A2 outer2 s2 H2 E2 f2 c2 hr2 => me_callV 3 (k := 3 * k) (byVal_ok ev Fs) (hr2) (takes_of (X := lamCx _ A2 outer2 s2 H2 E2 _ f2 c2) rfl rfl rfl rfl) (ma_cons (me_var 4) (ma_nil)))) (ma_cons (me_tup (ma_cons (me_var 0) (ma_cons (me_var 4) (ma_nil)))) (ma_nil))))) (ma_nil))))) (mw_or1 (mt_not (mt_tr rfl (me_call (Fs.law_is_very) (hr.mono (by omega)) ev.g_law_is_very ev.d_law_is_very.kp (bnd_law_is_very ev) tk (ma_cons (me_var 0) (ma_cons (me_var 3) (ma_nil)))))))).pt) (ms_one (ms_ret (me_bl))) (ms_nil)))) (ms_one (ms_ret (me_bl)))

theorem ok_law_is_very {k : Nat} {T : FTab} (ev : Ev w K mg base D) (Fs : Fns P w K mg base D k T) : FnOk P w K mg base (L2.CX P w) (3 * k + 2 + 1) (ga K "_law_is_very") D.law_is_very ["word", "ask"] (SPf (mkG K) 2 (runF 4 (m_law_is_very T))) := by
  refine fn_ok (m := m_law_is_very T) ev.d_law_is_very sc_law_is_very rfl fun cdv A outer s H E hc hr => ?_
  have hcd : cdv = .ref (cT K ("_law_is_very", none)).1 := hc.symm.trans (codeOf_of (p := ("_law_is_very", none)) ev.d_law_is_very)
  have tk := takes_of (X := cxOf (L2.CX P w) P w K mg base ["word", "ask", "odd", "found"] "_law_is_very" (defScope s_law_is_very) (ga K "_law_is_very") cdv A outer s H E) rfl rfl rfl rfl
  exact ms_cons (ms_set 2 sc_law_is_very.nd rfl (by first | exact Or.inl rfl | exact Or.inr rfl) (me_lst (ma_cons (me_str [111, 100, 100]) (ma_nil)))) (ms_cons (ms_set 3 sc_law_is_very.nd rfl (by first | exact Or.inl rfl | exact Or.inr rfl) (me_met (c := (cT K ("_law_is_very", none)).1) (P := (cT K ("_law_is_very", none)).2) (k := 3 * k) rfl ev.exm (nm_inj K) ev.d_law_met ev.g_law_met (bnd_law_met ev) sc_law_met rfl (Or.inl rfl) (by exact fun _ => met_gives (i := 1) (n := "e") sc_law_met.nd rfl (fun _ => rfl) (Or.inl rfl) (by decide) (by decide) (fun _ _ => by exact (.fld ⟨rfl, by decide, .inl ev.gc_BadProgram⟩ ⟨ev.x_BadProgram.ga, ev.x_BadProgram.gg, ev.x_BadProgram.exC, ev.x_BadProgram.hdC⟩ ev.x_BadProgram.noN rfl (.fld ⟨rfl, by decide, .inl ev.gc_BadText⟩ ⟨ev.x_BadText.ga, ev.x_BadText.gg, ev.x_BadText.exC, ev.x_BadText.hdC⟩ ev.x_BadText.noN rfl .nil))) (fun _ => rfl)) ev.tb_law_is_very (by exact hcd) (List.Mem.tail _ (List.Mem.head _)) (onlyT_law_is_very ev) hr (lamS_by (by rfl)) rfl (fun _ _ _ _ _ => rfl) (fun A2 outer2 s2 H2 E2 f2 c2 hr2 => me_callV 1 (k := 3 * k) (byVal_ok ev Fs) (hr2) (takes_of (X := lamCx _ A2 outer2 s2 H2 E2 _ f2 c2) rfl rfl rfl rfl) (ma_cons (me_var 2) (ma_nil))))) (ms_cons (ms_expr (me_append rfl (me_var 2) (ma_cons (me_str [108, 97, 116, 101]) (ma_nil)))) (ms_one (ms_ret (me_call (Fs.law_same) (hr.mono (by omega)) ev.g_law_same ev.d_law_same.kp (bnd_law_same ev) tk (ma_cons (me_var 3) (ma_cons (me_tup (ma_cons (me_var 0) (ma_cons (me_var 2) (ma_nil)))) (ma_nil))))))))

end
end K05

end

section
set_option maxHeartbeats 2000000
namespace K05
open Sh PySem PySem.Spec PyProof.Rows L2 LamX He
section
variable {P : Program} {w : World} {K : PySem.W.Frag} {mg : Str → Option Value} {base : Heap} {D : Fds}
theorem sp_draw {k : Nat} (ev : Ev w K mg base D) : FnOk P w K mg base (L2.CX P w) (k + 1) (ga K "_law_draw") D.law_draw ["stream", "many"] spDraw := by
  refine FunD.ok ev.d_law_draw sc_law_draw (fun vs H Q E h => ?_) (fun cdv A outer s H vs Q E hr h => ⟨t_draw K, ?_, pure_draw vs H Q E h⟩)
  · obtain ⟨a, l, d, m, n, c, xs, rfl, _⟩ := h
    rfl
  · exact pss_cons (ps_asg (pe_op op_add (pe_ix ix_seq (pv 0) pe_int (fun _ _ => rfl)) pe_int) (pg_sub (pv 0) pe_int set_list))
      (pss_cons (ps_while PassesOwn.leaving (pw_and (pt_cmpR op_eq (pe_ix ix_seq (pv 0) pe_int (fun _ _ => rfl)) pe_int (nomark _)) (pw_and1 (pt_cmpR (op_neD hr.units) (pe_ix ix_seq (pv 0) pe_int (fun _ _ => rfl)) (pe_lst pa_nil) (nomark _)))).pt
        (pss_cons (ps_set (i := 2) sc_law_draw.nd rfl (Or.inl rfl) (pe_callB call_abs rfl ev.b_abs rfl (pa_cons (pe_bm PySem.F.plainAttrs_list PySem.F.slot_list_pop PySem.F.type_list_pop mt_popAt (pe_ix ix_seq (pv 0) pe_int (fun _ _ => rfl)) (pa_cons pe_int pa_nil)) pa_nil)))
        (pss_cons (ps_asg (pe_op op_mod (pe_callTy call_int1 rfl ev.b_int rfl (pa_cons (pe_op op_add (pe_op op_add (pe_op op_mul (pe_ix ix_seq (pv 0) pe_int (fun _ _ => rfl)) pe_int) (pv 2)) pe_int) pa_nil)) pe_int) (pg_sub (pv 0) pe_int set_list))
        (pss_one (ps_asg (pe_ifExp (pt_cmpR op_ge (pv 2) (pe_op op_pow pe_int pe_int) (nomark _)) (pv 2) pe_int) (pg_sub (pv 0) pe_int set_list))))))
      (pss_cons (ps_if (pt_cmpR op_gt (pe_ix ix_seq (pv 0) pe_int (fun _ _ => rfl)) pe_int (nomark _))
        (pss_cons (ps_set (i := 3) sc_law_draw.nd rfl (Or.inl rfl) (pe_op op_mod (pe_callTy call_int1 rfl ev.b_int rfl (pa_cons (pe_ix ix_seq (pv 0) pe_int (fun _ _ => rfl)) pa_nil)) (pv 1)))
          (pss_cons (ps_asg (pe_op op_fdiv (pe_ix ix_seq (pv 0) pe_int (fun _ _ => rfl)) (pv 1)) (pg_sub (pv 0) pe_int set_list)) (pss_one (ps_ret (pv 3))))) pss_nil)
      (pss_cons (ps_set (i := 4) sc_law_draw.nd rfl (Or.inl rfl) (pe_op op_mod (pe_callTy call_int1 rfl ev.b_int rfl (pa_cons (pe_op op_pow (pe_op op_add (pe_op op_add (pe_ix ix_seq (pv 0) pe_int (fun _ _ => rfl)) (pe_op op_mul pe_int (pe_ix ix_seq (pv 0) pe_int (fun _ _ => rfl)))) pe_int) pe_int) pa_nil)) pe_int))
      (pss_one (ps_ret (pe_op op_mod (pe_op op_mod (pe_callTy call_int1 rfl ev.b_int rfl (pa_cons (pe_op op_pow (pe_op op_add (pe_op op_add (pe_op op_mul (pv 4) pe_int) (pe_op op_mul pe_int (pe_ix ix_seq (pv 0) pe_int (fun _ _ => rfl)))) pe_int) pe_int) pa_nil)) pe_int) (pv 1)))))))
theorem sp_stream {k : Nat} (ev : Ev w K mg base D) : FnOk P w K mg base (L2.CX P w) (k + 1) (ga K "_law_stream") D.law_stream ["script"] (spStream K) := by
  refine FunD.ok ev.d_law_stream sc_law_stream (fun vs H Q E h => ?_) (fun cdv A outer s H vs Q E hr h => ⟨t_stream K, ?_, pure_stream vs H Q E h⟩)
  · obtain ⟨a, ns, rfl, _⟩ := h
    rfl
  · exact pss_one (ps_ret (pe_lst (pa_cons (pe_callTy call_list_of rfl ev.b_list rfl (pa_cons (pv 0) pa_nil)) (pa_cons pe_int (pa_cons pe_int (pa_cons pe_int pa_nil))))))
theorem fns_ok (ev : Ev w K mg base D) : ∀ k, Fns P w K mg base D k (tab k)
  | 0 => ⟨fn_bad rfl, fn_bad rfl, fn_bad rfl, fn_bad rfl, fn_bad rfl, fn_bad rfl, fn_bad rfl, fn_bad rfl, fn_bad rfl, fn_bad rfl, fn_bad rfl, fn_bad rfl, fn_bad rfl, fn_bad rfl, fn_bad rfl, fn_bad rfl, fn_bad rfl, fn_bad rfl, fn_bad rfl, fn_bad rfl, fn_bad rfl, fn_bad rfl, fn_bad rfl, fn_bad rfl, fn_bad rfl, fn_bad rfl, fn_bad rfl⟩
  | k + 1 => by
    have Fs := fns_ok ev k
    exact ⟨ok_marks_of ev Fs,
      ok_read ev Fs,
      ok_law_all_refused ev Fs,
      (sp_draw (k := 3 * k + 2) ev).imp fun _ _ _ _ h => draw_sp h,
      ok_bare ev Fs,
      ok_written ev Fs,
      ok_names_or_first ev Fs,
      ok_functions_of ev Fs,
      ok_need_text ev Fs,
      ok_law_same ev Fs,
      ok_law_is_very ev Fs,
      ok_is_program ev Fs,
      ok_need_program ev Fs,
      fn_bad rfl,
      ok_need_right ev Fs,
      fn_bad rfl,
      ok_is_row ev Fs,
      ok_are_names ev Fs,
      ok_are_right ev Fs,
      ok_is_list ev Fs,
      ok_is_name ev Fs,
      ok_sorts_of ev Fs,
      ok_are_functions ev Fs,
      ok_is_leaf ev Fs,
      ok_is_place ev Fs,
      ok_is_number ev Fs,
      ok_is_whole ev Fs⟩
theorem law_body {k : Nat} {T : FTab} {cdv : Value} {A : Around} {outer : List Env} {s : Shared} {H : Hp} {E : XK} {W : WX} (ev : Ev w K mg base D) (Fs : Fns P w K mg base D k T) (hr : Room (3 * k + 2) (A.deeper (envOfC "law" (defScope s_law) s.heap.objs.size (ga K "law") cdv))) (tk : Takes (cxOf (L2.CX P w) P w K mg base ["script", "stream", "one", "odds"] "law" (defScope s_law) (ga K "law") cdv A outer s H E) W) :
    PSs (cxOf (L2.CX P w) P w K mg base ["script", "stream", "one", "odds"] "law" (defScope s_law) (ga K "law") cdv A outer s H E) ((defBody s_law).tail) (tS (mkG K) F0 W (m_law T)) := by
  exact ms_cons (ms_if (mt_not (mt_tr rfl (me_call (Fs.law_all_refused) (hr.mono (by omega)) ev.g_law_all_refused ev.d_law_all_refused.kp (bnd_law_all_refused ev) tk (ma_cons (me_str [116, 101, 120, 116]) (ma_cons (me_lst (ma_cons (me_non) (ma_cons (me_int) (ma_cons (me_lst (ma_cons (me_str [120]) (ma_nil))) (ma_cons (me_dnew) (ma_cons (me_tup (ma_nil)) (ma_cons (me_bl) (ma_nil)))))))) (ma_cons (me_lst (ma_cons (me_gl (av := .fn 0) (v := .ref (ga K "marks_of")) ev.g_marks_of rfl (fun _ _ => by unfold RV; rfl)) (ma_cons (me_gl (av := .fn 1) (v := .ref (ga K "read")) ev.g_read rfl (fun _ _ => by unfold RV; rfl)) (ma_nil)))) (ma_nil))))))) (ms_one (ms_ret (me_bl))) (ms_nil)) (ms_cons (ms_set 2 sc_law.nd rfl (by first | exact Or.inl rfl | exact Or.inr rfl) (me_tup (ma_cons (me_str [110, 117, 109, 98, 101, 114]) (ma_cons (me_tup (ma_cons (me_int) (ma_cons (me_int) (ma_nil)))) (ma_cons (me_call (Fs.law_draw) (hr.mono (by omega)) ev.g_law_draw ev.d_law_draw.kp (bnd_law_draw ev) tk (ma_cons (me_var 1) (ma_cons (me_int) (ma_nil)))) (ma_nil)))))) (ms_cons (ms_set 3 sc_law.nd rfl (by first | exact Or.inl rfl | exact Or.inr rfl) (me_lst (ma_cons (me_non) (ma_cons (me_int) (ma_cons (me_str [120]) (ma_cons (me_dnew) (ma_cons (me_lst (ma_nil)) (ma_cons (me_tup (ma_cons (me_lst (ma_nil)) (ma_nil))) (ma_cons (me_tup (ma_cons (me_lst (ma_nil)) (ma_cons (me_var 2) (ma_cons (me_var 2) (ma_nil))))) (ma_cons (me_tup (ma_cons (me_lst (ma_cons (me_str [65]) (ma_nil))) (ma_cons (me_var 2) (ma_nil)))) (ma_cons (me_tup (ma_cons (me_lst (ma_cons (me_str [120]) (ma_cons (me_int) (ma_nil)))) (ma_cons (me_var 2) (ma_nil)))) (ma_cons (me_tup (ma_cons (me_str [120]) (ma_cons (me_var 2) (ma_nil)))) (ma_cons (me_tup (ma_cons (me_lst (ma_nil)) (ma_cons (me_tup (ma_cons (me_str [110, 117, 109, 98, 101, 114]) (ma_cons (me_tup (ma_cons (me_int) (ma_cons (me_int) (ma_nil)))) (ma_nil)))) (ma_nil)))) (ma_cons (me_tup (ma_cons (me_lst (ma_nil)) (ma_cons (me_tup (ma_cons (me_str [110, 117, 109, 98, 101, 114]) (ma_cons (me_tup (ma_cons (me_int) (ma_cons (me_int) (ma_nil)))) (ma_cons (me_int) (ma_nil))))) (ma_nil)))) (ma_cons (me_tup (ma_cons (me_lst (ma_nil)) (ma_cons (me_tup (ma_cons (me_str [110, 117, 109, 98, 101, 114]) (ma_cons (me_tup (ma_cons (me_int) (ma_cons (me_int) (ma_nil)))) (ma_cons (me_neg (me_int)) (ma_nil))))) (ma_nil)))) (ma_nil)))))))))))))))) (ms_cons (ms_expr (me_extend rfl (me_var 3) (ma_cons (me_lst (ma_cons (me_tup (ma_cons (me_lst (ma_nil)) (ma_cons (me_tup (ma_cons (me_str [110, 117, 109, 98, 101, 114]) (ma_cons (me_tup (ma_cons (me_int) (ma_cons (me_int) (ma_nil)))) (ma_cons (me_bl) (ma_nil))))) (ma_nil)))) (ma_cons (me_tup (ma_cons (me_lst (ma_nil)) (ma_cons (me_tup (ma_cons (me_str [110, 97, 109, 101]) (ma_cons (me_tup (ma_cons (me_int) (ma_cons (me_int) (ma_nil)))) (ma_cons (me_str [108, 101, 116]) (ma_nil))))) (ma_nil)))) (ma_cons (me_tup (ma_cons (me_lst (ma_nil)) (ma_cons (me_tup (ma_cons (me_str [102, 117, 110]) (ma_cons (me_tup (ma_cons (me_int) (ma_cons (me_int) (ma_nil)))) (ma_cons (me_str [120]) (ma_cons (me_var 2) (ma_nil)))))) (ma_nil)))) (ma_nil))))) (ma_nil)))) (ms_cons (ms_expr (me_extend rfl (me_var 3) (ma_cons (me_lst (ma_cons (me_tup (ma_cons (me_lst (ma_nil)) (ma_cons (me_tup (ma_cons (me_str [116, 119, 111]) (ma_cons (me_tup (ma_cons (me_int) (ma_cons (me_int) (ma_nil)))) (ma_cons (me_str [47]) (ma_cons (me_var 2) (ma_cons (me_var 2) (ma_nil))))))) (ma_nil)))) (ma_cons (me_tup (ma_cons (me_lst (ma_nil)) (ma_cons (me_tup (ma_cons (me_str [114, 101, 99]) (ma_cons (me_tup (ma_cons (me_int) (ma_cons (me_int) (ma_nil)))) (ma_cons (me_lst (ma_nil)) (ma_cons (me_var 2) (ma_nil)))))) (ma_nil)))) (ma_cons (me_tup (ma_cons (me_lst (ma_nil)) (ma_cons (me_tup (ma_cons (me_str [99, 97, 108, 108]) (ma_cons (me_tup (ma_cons (me_int) (ma_cons (me_int) (ma_nil)))) (ma_cons (me_var 2) (ma_cons (me_var 2) (ma_nil)))))) (ma_nil)))) (ma_nil))))) (ma_nil)))) (ms_one (ms_ret (me_call (Fs.law_all_refused) (hr.mono (by omega)) ev.g_law_all_refused ev.d_law_all_refused.kp (bnd_law_all_refused ev) tk (ma_cons (me_str [112, 114, 111, 103, 114, 97, 109]) (ma_cons (me_var 3) (ma_cons (me_lst (ma_cons (me_gl (av := .fn 2) (v := .ref (ga K "bare")) ev.g_bare rfl (fun _ _ => by unfold RV; rfl)) (ma_cons (me_gl (av := .fn 3) (v := .ref (ga K "written")) ev.g_written rfl (fun _ _ => by unfold RV; rfl)) (ma_cons (me_gl (av := .fn 4) (v := .ref (ga K "names_or_first")) ev.g_names_or_first rfl (fun _ _ => by unfold RV; rfl)) (ma_cons (me_gl (av := .fn 5) (v := .ref (ga K "functions_of")) ev.g_functions_of rfl (fun _ _ => by unfold RV; rfl)) (ma_nil)))))) (ma_nil)))))))))))
theorem law_dig : digits (lawOut 4 (m_law (tab 14))) = 9 := by decide +kernel
theorem law_at0 : oneOf (lawOut 4 (m_law (tab 14))) 0 = true := by decide +kernel
theorem law_at1 : oneOf (lawOut 4 (m_law (tab 14))) 1 = true := by decide +kernel
theorem law_at2 : oneOf (lawOut 4 (m_law (tab 14))) 2 = true := by decide +kernel
theorem law_at3 : oneOf (lawOut 4 (m_law (tab 14))) 3 = true := by decide +kernel
theorem law_at4 : oneOf (lawOut 4 (m_law (tab 14))) 4 = true := by decide +kernel
theorem law_at5 : oneOf (lawOut 4 (m_law (tab 14))) 5 = true := by decide +kernel
theorem law_at6 : oneOf (lawOut 4 (m_law (tab 14))) 6 = true := by decide +kernel
theorem law_at7 : oneOf (lawOut 4 (m_law (tab 14))) 7 = true := by decide +kernel
theorem law_at8 : oneOf (lawOut 4 (m_law (tab 14))) 8 = true := by decide +kernel
theorem law_true : (lawOut 4 (m_law (tab 14))).allTrue = true := allTrue_of law_dig (by decide) fun i hi =>
  match i, hi with
  | 0, _ => law_at0
  | 1, _ => law_at1
  | 2, _ => law_at2
  | 3, _ => law_at3
  | 4, _ => law_at4
  | 5, _ => law_at5
  | 6, _ => law_at6
  | 7, _ => law_at7
  | 8, _ => law_at8
  | n + 9, h => absurd h (by omega)
theorem ok_law (ev : Ev w K mg base D) : FnOk P w K mg base (L2.CX P w) 45 (ga K "law") D.law ["script"] (spLaw K (mkG K).T) := by
  have Fs := fns_ok (P := P) ev 14
  obtain ⟨oc, od, dV, kV, doc, pm, an, cdv, ct, osl, e, lk, hcd0, _, _⟩ := ev.d_law.ex
  rw [e] at lk ⊢
  refine fn_of lk hcd0 sc_law (fun vs H Q E h => ?_) fun A outer s H vs Q E hr h => ?_
  · obtain ⟨a, ns, rfl, _⟩ := h
    rfl
  · have tk := takes_of (X := cxOf (L2.CX P w) P w K mg base ["script", "stream", "one", "odds"] "law" (defScope s_law) (ga K "law") cdv A outer s H E) rfl rfl rfl rfl
    have k : Nat := 14
    refine ⟨_, pss_cons (ps_set (i := 1) sc_law.nd rfl (Or.inl rfl) (pe_callS (sp_stream (k := 30) ev) (hr.mono (by omega)) rfl ev.g_law_stream ev.d_law_stream.kp (bnd_law_stream ev) (passAt tk) (pa_cons (pv 0) pa_nil))) (law_body ev Fs (hr.mono (by omega)) tk), law_pure (P := P) (w := w) (mg := mg) (base := base) (G := mkG K) (N := ["script", "stream", "one", "odds"]) (by decide) law_true h⟩
end
end K05

end

section
set_option maxHeartbeats 0
namespace K05
open Sh PySem PySem.Spec PyProof.Rows L2 LamX He
def clsB : Stmt → List Stmt
  | .ClassDef (body :=
      b) .. => b
  | _ => []
def ini (i : Nat) : Stmt := (clsB (top i)).getD 0 (.Pass ⟨0, 0, 0, 0⟩)
def fa : List Fa := [.glo "law", .glo "marks_of", .glo "read", .glo "_law_all_refused", .glo "_law_draw", .glo "bare", .glo "written", .glo "names_or_first", .glo "functions_of", .glo "need_text", .glo "_law_met", .glo "_law_same", .glo "_law_is_very", .glo "is_program", .glo "need_program", .glo "first_by", .glo "need_right", .glo "functions_by", .glo "is_row", .glo "are_names", .glo "are_right", .glo "is_list", .glo "is_name", .glo "sorts_of", .glo "are_functions", .glo "is_leaf", .glo "is_place", .glo "is_number", .glo "is_whole", .glo "_law_stream", .glo "BadText", .glo "BadProgram", .glo "OPS", .glo "WORDS", .glo "PARTS", .free "abs", .free "all", .free "bool", .free "dict", .free "int", .free "isinstance", .free "len", .free "list", .free "str", .free "tuple", .free "type", .free "zip", .str "FIGURES" (toS [48, 49, 50, 51, 52, 53, 54, 55, 56, 57]), .str "LETTERS" (toS [97, 98, 99, 100, 101, 102, 103, 104, 105, 106, 107, 108, 109, 110, 111, 112, 113, 114, 115, 116, 117, 118, 119, 120, 121, 122]), .int "MOST" 2147483647]
def fnl : List DefD := [⟨("law", none), "law", "law", defArgs s_law, defBody s_law, defScope s_law, [], []⟩, ⟨("marks_of", none), "marks_of", "marks_of", defArgs s_marks_of, defBody s_marks_of, defScope s_marks_of, [], []⟩, ⟨("read", none), "read", "read", defArgs s_read, defBody s_read, defScope s_read, [], []⟩, ⟨("_law_all_refused", none), "_law_all_refused", "_law_all_refused", defArgs s_law_all_refused, defBody s_law_all_refused, defScope s_law_all_refused, [], []⟩, ⟨("_law_draw", none), "_law_draw", "_law_draw", defArgs s_law_draw, defBody s_law_draw, defScope s_law_draw, [], []⟩, ⟨("bare", none), "bare", "bare", defArgs s_bare, defBody s_bare, defScope s_bare, [], []⟩, ⟨("written", none), "written", "written", defArgs s_written, defBody s_written, defScope s_written, [], []⟩, ⟨("names_or_first", none), "names_or_first", "names_or_first", defArgs s_names_or_first, defBody s_names_or_first, defScope s_names_or_first, [], []⟩, ⟨("functions_of", none), "functions_of", "functions_of", defArgs s_functions_of, defBody s_functions_of, defScope s_functions_of, [], []⟩, ⟨("need_text", none), "need_text", "need_text", defArgs s_need_text, defBody s_need_text, defScope s_need_text, [], []⟩, ⟨("_law_met", none), "_law_met", "_law_met", defArgs s_law_met, defBody s_law_met, defScope s_law_met, [], []⟩, ⟨("_law_same", none), "_law_same", "_law_same", defArgs s_law_same, defBody s_law_same, defScope s_law_same, [], []⟩, ⟨("_law_is_very", none), "_law_is_very", "_law_is_very", defArgs s_law_is_very, defBody s_law_is_very, defScope s_law_is_very, [], []⟩, ⟨("is_program", none), "is_program", "is_program", defArgs s_is_program, defBody s_is_program, defScope s_is_program, [], []⟩, ⟨("need_program", none), "need_program", "need_program", defArgs s_need_program, defBody s_need_program, defScope s_need_program, [], []⟩, ⟨("first_by", none), "first_by", "first_by", defArgs s_first_by, defBody s_first_by, defScope s_first_by, [], []⟩, ⟨("need_right", none), "need_right", "need_right", defArgs s_need_right, defBody s_need_right, defScope s_need_right, [], []⟩, ⟨("functions_by", none), "functions_by", "functions_by", defArgs s_functions_by, defBody s_functions_by, defScope s_functions_by, [], []⟩, ⟨("is_row", none), "is_row", "is_row", defArgs s_is_row, defBody s_is_row, defScope s_is_row, [], []⟩, ⟨("are_names", none), "are_names", "are_names", defArgs s_are_names, defBody s_are_names, defScope s_are_names, [], []⟩, ⟨("are_right", none), "are_right", "are_right", defArgs s_are_right, defBody s_are_right, defScope s_are_right, [], []⟩, ⟨("is_list", none), "is_list", "is_list", defArgs s_is_list, defBody s_is_list, defScope s_is_list, [], []⟩, ⟨("is_name", none), "is_name", "is_name", defArgs s_is_name, defBody s_is_name, defScope s_is_name, [], []⟩, ⟨("sorts_of", none), "sorts_of", "sorts_of", defArgs s_sorts_of, defBody s_sorts_of, defScope s_sorts_of, [], []⟩, ⟨("are_functions", none), "are_functions", "are_functions", defArgs s_are_functions, defBody s_are_functions, defScope s_are_functions, [], []⟩, ⟨("is_leaf", none), "is_leaf", "is_leaf", defArgs s_is_leaf, defBody s_is_leaf, defScope s_is_leaf, [], []⟩, ⟨("is_place", none), "is_place", "is_place", defArgs s_is_place, defBody s_is_place, defScope s_is_place, [], []⟩, ⟨("is_number", none), "is_number", "is_number", defArgs s_is_number, defBody s_is_number, defScope s_is_number, [], []⟩, ⟨("is_whole", none), "is_whole", "is_whole", defArgs s_is_whole, defBody s_is_whole, defScope s_is_whole, [], []⟩, ⟨("_law_stream", none), "_law_stream", "_law_stream", defArgs s_law_stream, defBody s_law_stream, defScope s_law_stream, [], []⟩, ⟨("BadText", some "__init__"), "__init__", "BadText.__init__", defArgs (ini 2), defBody (ini 2), defScope (ini 2), [], []⟩, ⟨("BadProgram", some "__init__"), "__init__", "BadProgram.__init__", defArgs (ini 3), defBody (ini 3), defScope (ini 3), [], []⟩]
def tsl : List Tab := [(fun K => ga K "PARTS", ["number", "name", "fun", "call", "let", "rec", "if", "two", "print", "pair", "first", "rest"])]
def tfl : List Defn := [("_law_all_refused", none), ("_law_is_very", none)]
def ex (K : PySem.W.Frag) : Bool := kitB K && (exmB K (mkG K).ca 2 && (oexB K (ga K "BadText") (ma K (ga K "BadText") "__init__") "text" && (oexB K (ga K "BadProgram") (ma K (ga K "BadProgram") "__init__") "program" && (tupB K "OPS" [.str (toS [43]), .str (toS [45]), .str (toS [42]), .str (toS [61, 61]), .str (toS [60])] && (tupB K "WORDS" [.str (toS [103, 105, 118, 101, 110]), .str (toS [108, 101, 116]), .str (toS [114, 101, 99]), .str (toS [97, 110, 100]), .str (toS [105, 110]), .str (toS [105, 102]), .str (toS [116, 104, 101, 110]), .str (toS [101, 108, 115, 101]), .str (toS [112, 114, 105, 110, 116]), .str (toS [102, 117, 110]), .str (toS [102, 105, 114, 115, 116]), .str (toS [114, 101, 115, 116])] && (tblB K (ga K "PARTS") tbl_PARTS && (!decide ((cT K ("_law_all_refused", none)).2 = (cT K ("_law_is_very", none)).2) && (!decide ((cT K ("_law_is_very", none)).2 = (cT K ("_law_all_refused", none)).2)))))))))
abbrev R : PySem.W.OpenRow := PySem.W.OpenLaw.row PySem.Challenge.rw_carriednames_k05_texts_refused
abbrev hk : PySem.W.Hook := hookX 4 fa fnl tsl tfl ex
def ob (s : PySem.W.SharedT) : AlX := obsX 4 fa fnl tsl tfl ex (HandSHeadRun.getT s)
theorem ob_eq (s : PySem.W.SharedT) : ob s = hk.obs s.abs := obsX_eq (HandSHeadRun.getT_eq s)
def nm0 : List Str := ["CarryError", "BadText", "BadProgram", "NotRight", "WORDS", "SIGNS", "LETTERS", "FIGURES", "MOST", "need_text", "end_of", "mark_at", "marks_by", "marks_of", "STRENGTHS", "PRIMARIES", "Reader", "read", "is_list", "is_whole", "is_number", "is_row", "OPS", "PARTS", "is_name", "is_place", "are_names", "is_leaf", "sorts_of", "are_functions"]
def nm1 : List Str := ["are_right", "is_program", "kept_part", "kept_tree", "need_program", "bare", "first_twice", "bound_with", "parts_with", "wrong_here", "first_wrong", "first_by", "names_or_first", "all_trees", "functions_by", "need_right", "functions_of", "STRONG", "strength", "put_in", "function_said", "said_long", "said_of", "written", "_law_stream", "_law_draw", "_law_same", "_law_is_very", "_law_all_refused", "_law_met"]
def names : List Str := nm0 ++ nm1
end K05

end

section
set_option maxHeartbeats 2000000
namespace K05
open Sh PySem PySem.Spec PyProof.Rows L2 LamX He
theorem otxt_BadText {K : PySem.W.Frag} {mg : Str → Option Value} {C fI : Addr} {fd : FuncData} (gC : mg "BadText" = some (.ref C)) (h : oexB K C fI "text" = true) (F : FunD K "__init__" "BadText.__init__" (defArgs (ini 2)) (defBody (ini 2)) (defScope (ini 2)) [] [] fI fd) : PySem.OX_text.OTxt K mg C fI := by
  obtain ⟨h1, h⟩ := ba h
  obtain ⟨h2, h⟩ := ba h
  obtain ⟨h3, h⟩ := ba h
  obtain ⟨h4, h⟩ := ba h
  obtain ⟨h5, h⟩ := ba h
  obtain ⟨h6, h⟩ := ba h
  obtain ⟨h7, h⟩ := ba h
  obtain ⟨h8, h⟩ := ba h
  obtain ⟨h9, h⟩ := ba h
  obtain ⟨h10, h⟩ := ba h
  obtain ⟨h11, h12⟩ := ba h
  refine ⟨gC, exbB_ok h1, eqO_ok h2, eqO_ok h3, eqO_ok h4, eqO_ok h5, eqO_ok h6, of_decide_eq_true h7, h8, of_decide_eq_true h9, of_decide_eq_true h10, h11, of_decide_eq_true h12, ?_⟩
  obtain ⟨oc, od, dV, kV, doc, pm, an, cdv, ct, osl, e, lk, hcd, hD, _⟩ := F.ex
  subst e
  have eD : dV = .none := by
    rcases hD with ⟨_, e⟩ | ⟨e, _⟩
    · exact e
    · exact absurd rfl e
  subst eD
  exact ⟨oc, od, doc, pm, kV, an, cdv, ct, osl, _, _, _, _, _, _, lk, hcd⟩
theorem otxt_BadProgram {K : PySem.W.Frag} {mg : Str → Option Value} {C fI : Addr} {fd : FuncData} (gC : mg "BadProgram" = some (.ref C)) (h : oexB K C fI "program" = true) (F : FunD K "__init__" "BadProgram.__init__" (defArgs (ini 3)) (defBody (ini 3)) (defScope (ini 3)) [] [] fI fd) : PySem.OX_program.OTxt K mg C fI := by
  obtain ⟨h1, h⟩ := ba h
  obtain ⟨h2, h⟩ := ba h
  obtain ⟨h3, h⟩ := ba h
  obtain ⟨h4, h⟩ := ba h
  obtain ⟨h5, h⟩ := ba h
  obtain ⟨h6, h⟩ := ba h
  obtain ⟨h7, h⟩ := ba h
  obtain ⟨h8, h⟩ := ba h
  obtain ⟨h9, h⟩ := ba h
  obtain ⟨h10, h⟩ := ba h
  obtain ⟨h11, h12⟩ := ba h
  refine ⟨gC, exbB_ok h1, eqO_ok h2, eqO_ok h3, eqO_ok h4, eqO_ok h5, eqO_ok h6, of_decide_eq_true h7, h8, of_decide_eq_true h9, of_decide_eq_true h10, h11, of_decide_eq_true h12, ?_⟩
  obtain ⟨oc, od, dV, kV, doc, pm, an, cdv, ct, osl, e, lk, hcd, hD, _⟩ := F.ex
  subst e
  have eD : dV = .none := by
    rcases hD with ⟨_, e⟩ | ⟨e, _⟩
    · exact e
    · exact absurd rfl e
  subst eD
  exact ⟨oc, od, doc, pm, kV, an, cdv, ct, osl, _, _, _, _, _, _, lk, hcd⟩
theorem ev_of {w : World} {h : Heap} {K : PySem.W.Frag} {mg : Str → Option Value} (KX : K.In h) (G : h.Ns mainGlobals mg) (c : SaysX fa fnl tsl tfl ex w h K) : ∃ D : Fds, FunD K "law" "law" (defArgs s_law) (defBody s_law) (defScope s_law) [] [] (ga K "law") D.law ∧ ∀ base : Heap, (∀ p ∈ tfl.map (cT K), TabB base mg p.1 p.2) → Ev w K mg base D := by
  have d := c.t.d
  have hm : (kitB K && (exmB K (mkG K).ca 2 && (oexB K (ga K "BadText") (ma K (ga K "BadText") "__init__") "text" && (oexB K (ga K "BadProgram") (ma K (ga K "BadProgram") "__init__") "program" && (tupB K "OPS" [.str (toS [43]), .str (toS [45]), .str (toS [42]), .str (toS [61, 61]), .str (toS [60])] && (tupB K "WORDS" [.str (toS [103, 105, 118, 101, 110]), .str (toS [108, 101, 116]), .str (toS [114, 101, 99]), .str (toS [97, 110, 100]), .str (toS [105, 110]), .str (toS [105, 102]), .str (toS [116, 104, 101, 110]), .str (toS [101, 108, 115, 101]), .str (toS [112, 114, 105, 110, 116]), .str (toS [102, 117, 110]), .str (toS [102, 105, 114, 115, 116]), .str (toS [114, 101, 115, 116])] && (tblB K (ga K "PARTS") tbl_PARTS && (!decide ((cT K ("_law_all_refused", none)).2 = (cT K ("_law_is_very", none)).2) && (!decide ((cT K ("_law_is_very", none)).2 = (cT K ("_law_all_refused", none)).2)))))))))) = true := c.more
  obtain ⟨x0, y0⟩ := ba hm
  obtain ⟨x1, y1⟩ := ba y0
  obtain ⟨x2, y2⟩ := ba y1
  obtain ⟨x3, y3⟩ := ba y2
  obtain ⟨x4, y4⟩ := ba y3
  obtain ⟨x5, y5⟩ := ba y4
  obtain ⟨x6, y6⟩ := ba y5
  obtain ⟨x7, y7⟩ := ba y6
  have x8 := y7
  obtain ⟨f_law, F_law⟩ := d.def_ 0 rfl
  obtain ⟨f_marks_of, F_marks_of⟩ := d.def_ 1 rfl
  obtain ⟨f_read, F_read⟩ := d.def_ 2 rfl
  obtain ⟨f_law_all_refused, F_law_all_refused⟩ := d.def_ 3 rfl
  obtain ⟨f_law_draw, F_law_draw⟩ := d.def_ 4 rfl
  obtain ⟨f_bare, F_bare⟩ := d.def_ 5 rfl
  obtain ⟨f_written, F_written⟩ := d.def_ 6 rfl
  obtain ⟨f_names_or_first, F_names_or_first⟩ := d.def_ 7 rfl
  obtain ⟨f_functions_of, F_functions_of⟩ := d.def_ 8 rfl
  obtain ⟨f_need_text, F_need_text⟩ := d.def_ 9 rfl
  obtain ⟨f_law_met, F_law_met⟩ := d.def_ 10 rfl
  obtain ⟨f_law_same, F_law_same⟩ := d.def_ 11 rfl
  obtain ⟨f_law_is_very, F_law_is_very⟩ := d.def_ 12 rfl
  obtain ⟨f_is_program, F_is_program⟩ := d.def_ 13 rfl
  obtain ⟨f_need_program, F_need_program⟩ := d.def_ 14 rfl
  obtain ⟨f_first_by, F_first_by⟩ := d.def_ 15 rfl
  obtain ⟨f_need_right, F_need_right⟩ := d.def_ 16 rfl
  obtain ⟨f_functions_by, F_functions_by⟩ := d.def_ 17 rfl
  obtain ⟨f_is_row, F_is_row⟩ := d.def_ 18 rfl
  obtain ⟨f_are_names, F_are_names⟩ := d.def_ 19 rfl
  obtain ⟨f_are_right, F_are_right⟩ := d.def_ 20 rfl
  obtain ⟨f_is_list, F_is_list⟩ := d.def_ 21 rfl
  obtain ⟨f_is_name, F_is_name⟩ := d.def_ 22 rfl
  obtain ⟨f_sorts_of, F_sorts_of⟩ := d.def_ 23 rfl
  obtain ⟨f_are_functions, F_are_functions⟩ := d.def_ 24 rfl
  obtain ⟨f_is_leaf, F_is_leaf⟩ := d.def_ 25 rfl
  obtain ⟨f_is_place, F_is_place⟩ := d.def_ 26 rfl
  obtain ⟨f_is_number, F_is_number⟩ := d.def_ 27 rfl
  obtain ⟨f_is_whole, F_is_whole⟩ := d.def_ 28 rfl
  obtain ⟨f_law_stream, F_law_stream⟩ := d.def_ 29 rfl
  obtain ⟨i_BadText, I_BadText⟩ := d.def_ 30 rfl
  obtain ⟨i_BadProgram, I_BadProgram⟩ := d.def_ 31 rfl
  have g_law : mg "law" = some (.ref (ga K "law")) := glo_ok KX G (d.fact 0 (f := .glo "law") rfl)
  have g_marks_of : mg "marks_of" = some (.ref (ga K "marks_of")) := glo_ok KX G (d.fact 1 (f := .glo "marks_of") rfl)
  have g_read : mg "read" = some (.ref (ga K "read")) := glo_ok KX G (d.fact 2 (f := .glo "read") rfl)
  have g_law_all_refused : mg "_law_all_refused" = some (.ref (ga K "_law_all_refused")) := glo_ok KX G (d.fact 3 (f := .glo "_law_all_refused") rfl)
  have g_law_draw : mg "_law_draw" = some (.ref (ga K "_law_draw")) := glo_ok KX G (d.fact 4 (f := .glo "_law_draw") rfl)
  have g_bare : mg "bare" = some (.ref (ga K "bare")) := glo_ok KX G (d.fact 5 (f := .glo "bare") rfl)
  have g_written : mg "written" = some (.ref (ga K "written")) := glo_ok KX G (d.fact 6 (f := .glo "written") rfl)
  have g_names_or_first : mg "names_or_first" = some (.ref (ga K "names_or_first")) := glo_ok KX G (d.fact 7 (f := .glo "names_or_first") rfl)
  have g_functions_of : mg "functions_of" = some (.ref (ga K "functions_of")) := glo_ok KX G (d.fact 8 (f := .glo "functions_of") rfl)
  have g_need_text : mg "need_text" = some (.ref (ga K "need_text")) := glo_ok KX G (d.fact 9 (f := .glo "need_text") rfl)
  have g_law_met : mg "_law_met" = some (.ref (ga K "_law_met")) := glo_ok KX G (d.fact 10 (f := .glo "_law_met") rfl)
  have g_law_same : mg "_law_same" = some (.ref (ga K "_law_same")) := glo_ok KX G (d.fact 11 (f := .glo "_law_same") rfl)
  have g_law_is_very : mg "_law_is_very" = some (.ref (ga K "_law_is_very")) := glo_ok KX G (d.fact 12 (f := .glo "_law_is_very") rfl)
  have g_is_program : mg "is_program" = some (.ref (ga K "is_program")) := glo_ok KX G (d.fact 13 (f := .glo "is_program") rfl)
  have g_need_program : mg "need_program" = some (.ref (ga K "need_program")) := glo_ok KX G (d.fact 14 (f := .glo "need_program") rfl)
  have g_first_by : mg "first_by" = some (.ref (ga K "first_by")) := glo_ok KX G (d.fact 15 (f := .glo "first_by") rfl)
  have g_need_right : mg "need_right" = some (.ref (ga K "need_right")) := glo_ok KX G (d.fact 16 (f := .glo "need_right") rfl)
  have g_functions_by : mg "functions_by" = some (.ref (ga K "functions_by")) := glo_ok KX G (d.fact 17 (f := .glo "functions_by") rfl)
  have g_is_row : mg "is_row" = some (.ref (ga K "is_row")) := glo_ok KX G (d.fact 18 (f := .glo "is_row") rfl)
  have g_are_names : mg "are_names" = some (.ref (ga K "are_names")) := glo_ok KX G (d.fact 19 (f := .glo "are_names") rfl)
  have g_are_right : mg "are_right" = some (.ref (ga K "are_right")) := glo_ok KX G (d.fact 20 (f := .glo "are_right") rfl)
  have g_is_list : mg "is_list" = some (.ref (ga K "is_list")) := glo_ok KX G (d.fact 21 (f := .glo "is_list") rfl)
  have g_is_name : mg "is_name" = some (.ref (ga K "is_name")) := glo_ok KX G (d.fact 22 (f := .glo "is_name") rfl)
  have g_sorts_of : mg "sorts_of" = some (.ref (ga K "sorts_of")) := glo_ok KX G (d.fact 23 (f := .glo "sorts_of") rfl)
  have g_are_functions : mg "are_functions" = some (.ref (ga K "are_functions")) := glo_ok KX G (d.fact 24 (f := .glo "are_functions") rfl)
  have g_is_leaf : mg "is_leaf" = some (.ref (ga K "is_leaf")) := glo_ok KX G (d.fact 25 (f := .glo "is_leaf") rfl)
  have g_is_place : mg "is_place" = some (.ref (ga K "is_place")) := glo_ok KX G (d.fact 26 (f := .glo "is_place") rfl)
  have g_is_number : mg "is_number" = some (.ref (ga K "is_number")) := glo_ok KX G (d.fact 27 (f := .glo "is_number") rfl)
  have g_is_whole : mg "is_whole" = some (.ref (ga K "is_whole")) := glo_ok KX G (d.fact 28 (f := .glo "is_whole") rfl)
  have g_law_stream : mg "_law_stream" = some (.ref (ga K "_law_stream")) := glo_ok KX G (d.fact 29 (f := .glo "_law_stream") rfl)
  have g_BadText : mg "BadText" = some (.ref (ga K "BadText")) := glo_ok KX G (d.fact 30 (f := .glo "BadText") rfl)
  have g_BadProgram : mg "BadProgram" = some (.ref (ga K "BadProgram")) := glo_ok KX G (d.fact 31 (f := .glo "BadProgram") rfl)
  have g_OPS : mg "OPS" = some (.ref (ga K "OPS")) := glo_ok KX G (d.fact 32 (f := .glo "OPS") rfl)
  have g_WORDS : mg "WORDS" = some (.ref (ga K "WORDS")) := glo_ok KX G (d.fact 33 (f := .glo "WORDS") rfl)
  have g_PARTS : mg "PARTS" = some (.ref (ga K "PARTS")) := glo_ok KX G (d.fact 34 (f := .glo "PARTS") rfl)
  have b_abs : mg "abs" = none := free_ok KX G (d.fact 35 (f := .free "abs") rfl)
  have b_all : mg "all" = none := free_ok KX G (d.fact 36 (f := .free "all") rfl)
  have b_bool : mg "bool" = none := free_ok KX G (d.fact 37 (f := .free "bool") rfl)
  have b_dict : mg "dict" = none := free_ok KX G (d.fact 38 (f := .free "dict") rfl)
  have b_int : mg "int" = none := free_ok KX G (d.fact 39 (f := .free "int") rfl)
  have b_isinstance : mg "isinstance" = none := free_ok KX G (d.fact 40 (f := .free "isinstance") rfl)
  have b_len : mg "len" = none := free_ok KX G (d.fact 41 (f := .free "len") rfl)
  have b_list : mg "list" = none := free_ok KX G (d.fact 42 (f := .free "list") rfl)
  have b_str : mg "str" = none := free_ok KX G (d.fact 43 (f := .free "str") rfl)
  have b_tuple : mg "tuple" = none := free_ok KX G (d.fact 44 (f := .free "tuple") rfl)
  have b_type : mg "type" = none := free_ok KX G (d.fact 45 (f := .free "type") rfl)
  have b_zip : mg "zip" = none := free_ok KX G (d.fact 46 (f := .free "zip") rfl)
  have g_FIGURES := str_ok KX G (d.fact 47 (f := .str "FIGURES" (toS [48, 49, 50, 51, 52, 53, 54, 55, 56, 57])) rfl)
  have g_LETTERS := str_ok KX G (d.fact 48 (f := .str "LETTERS" (toS [97, 98, 99, 100, 101, 102, 103, 104, 105, 106, 107, 108, 109, 110, 111, 112, 113, 114, 115, 116, 117, 118, 119, 120, 121, 122])) rfl)
  have g_MOST := int_ok KX G (d.fact 49 (f := .int "MOST" 2147483647) rfl)
  refine ⟨⟨f_law, f_marks_of, f_read, f_law_all_refused, f_law_draw, f_bare, f_written, f_names_or_first, f_functions_of, f_need_text, f_law_met, f_law_same, f_law_is_very, f_is_program, f_need_program, f_first_by, f_need_right, f_functions_by, f_is_row, f_are_names, f_are_right, f_is_list, f_is_name, f_sorts_of, f_are_functions, f_is_leaf, f_is_place, f_is_number, f_is_whole, f_law_stream⟩, F_law, fun base TB => ?_⟩
  exact {
    kit := (kitB_ok x0),
    exm := (exmB_ok (G := mkG K) x1),
    g_law := (g_law),
    d_law := (F_law),
    g_marks_of := (g_marks_of),
    d_marks_of := (F_marks_of),
    g_read := (g_read),
    d_read := (F_read),
    g_law_all_refused := (g_law_all_refused),
    d_law_all_refused := (F_law_all_refused),
    g_law_draw := (g_law_draw),
    d_law_draw := (F_law_draw),
    g_bare := (g_bare),
    d_bare := (F_bare),
    g_written := (g_written),
    d_written := (F_written),
    g_names_or_first := (g_names_or_first),
    d_names_or_first := (F_names_or_first),
    g_functions_of := (g_functions_of),
    d_functions_of := (F_functions_of),
    g_need_text := (g_need_text),
    d_need_text := (F_need_text),
    g_law_met := (g_law_met),
    d_law_met := (F_law_met),
    g_law_same := (g_law_same),
    d_law_same := (F_law_same),
    g_law_is_very := (g_law_is_very),
    d_law_is_very := (F_law_is_very),
    g_is_program := (g_is_program),
    d_is_program := (F_is_program),
    g_need_program := (g_need_program),
    d_need_program := (F_need_program),
    g_first_by := (g_first_by),
    d_first_by := (F_first_by),
    g_need_right := (g_need_right),
    d_need_right := (F_need_right),
    g_functions_by := (g_functions_by),
    d_functions_by := (F_functions_by),
    g_is_row := (g_is_row),
    d_is_row := (F_is_row),
    g_are_names := (g_are_names),
    d_are_names := (F_are_names),
    g_are_right := (g_are_right),
    d_are_right := (F_are_right),
    g_is_list := (g_is_list),
    d_is_list := (F_is_list),
    g_is_name := (g_is_name),
    d_is_name := (F_is_name),
    g_sorts_of := (g_sorts_of),
    d_sorts_of := (F_sorts_of),
    g_are_functions := (g_are_functions),
    d_are_functions := (F_are_functions),
    g_is_leaf := (g_is_leaf),
    d_is_leaf := (F_is_leaf),
    g_is_place := (g_is_place),
    d_is_place := (F_is_place),
    g_is_number := (g_is_number),
    d_is_number := (F_is_number),
    g_is_whole := (g_is_whole),
    d_is_whole := (F_is_whole),
    g_law_stream := (g_law_stream),
    d_law_stream := (F_law_stream),
    b_abs := (b_abs),
    b_all := (b_all),
    b_bool := (b_bool),
    b_dict := (b_dict),
    b_int := (b_int),
    b_isinstance := (b_isinstance),
    b_len := (b_len),
    b_list := (b_list),
    b_str := (b_str),
    b_tuple := (b_tuple),
    b_type := (b_type),
    b_zip := (b_zip),
    g_FIGURES := (g_FIGURES),
    g_LETTERS := (g_LETTERS),
    g_MOST := (g_MOST),
    g_OPS := (g_OPS),
    w_OPS := (fun H => tupB_ok x4 H),
    g_PARTS := (g_PARTS),
    k_PARTS := (c.t.tab 0 rfl),
    t_PARTS := (tblB_ok x6),
    g_WORDS := (g_WORDS),
    w_WORDS := (fun H => tupB_ok x5 H),
    gc_BadText := (g_BadText),
    x_BadText := (otxt_BadText g_BadText x2 I_BadText),
    gc_BadProgram := (g_BadProgram),
    x_BadProgram := (otxt_BadProgram g_BadProgram x3 I_BadProgram),
    tb_law_all_refused := (TB _ (List.Mem.head _)),
    tb_law_is_very := (TB _ (List.Mem.tail _ (List.Mem.head _))),
    ne_law_all_refused_law_is_very := (fun z => by rw [decide_eq_true z] at x7; cases x7),
    ne_law_is_very_law_all_refused := (fun z => by rw [decide_eq_true z] at x8; cases x8) }
theorem law_at {w : World} {h : Heap} {K : PySem.W.Frag} {mg : Str → Option Value} {f : Addr} (KX : K.In h) (G : h.Ns mainGlobals mg) (c : SaysX fa fnl tsl tfl ex w h K) (hmg : mg "law" = some (.ref f)) :
    LawAtS PySem.Challenge.rw_carriednames_k05_texts_refused w K (L2.CX PySem.Challenge.rw_carriednames_k05_texts_refused.prog w) 45 63 "script" mg f h := by
  obtain ⟨D, FL, hE⟩ := ev_of KX G c
  have hB := FunD.bindsA (ps := ["script"]) FL fun _ _ _ _ _ _ us hl => match us, hl with | [_], _ => rfl
  have gl : mg "law" = some (.ref (ga K "law")) := glo_ok KX G (c.t.d.fact 0 (f := .glo "law") rfl)
  rw [hmg] at gl
  cases gl
  have mem : ∀ p ∈ tfl.map (cT K), ∃ q ∈ tfl, p = cT K q := fun p hp => by
    obtain ⟨q, hq, e⟩ := List.mem_map.mp hp
    exact ⟨q, hq, e.symm⟩
  refine ⟨D.law, tfl.map (cT K), spLaw K (mkG K).T, fun p hp => ?_, fun p hp => ?_, fun p hp => ?_, fun s u => ?_, fun H a ns _ _ hT hS => ⟨a, ns, rfl, hS, fun p hp => ?_, fun H' => rfl⟩, fun base KB _ TB => ok_law (hE base TB)⟩
  · obtain ⟨q, hq, rfl⟩ := mem p hp
    exact c.empty q hq
  · obtain ⟨q, hq, rfl⟩ := mem p hp
    exact c.out q hq
  · obtain ⟨q, hq, rfl⟩ := mem p hp
    exact PySem.W.codeHd_of_K KX (c.hd q hq)
  · exact hB s [u] rfl
  · have hp2 : p = ((cT K ("_law_all_refused", none)).2, ("_law_all_refused" : Str) ++ ".<locals>." ++ "<lambda>") ∨ p = ((cT K ("_law_is_very", none)).2, ("_law_is_very" : Str) ++ ".<locals>." ++ "<lambda>") := by simpa [mkG] using hp
    rcases hp2 with rfl | rfl
    · exact TabS.nil (hT (cT K ("_law_all_refused", none)) (List.Mem.head _))
    · exact TabS.nil (hT (cT K ("_law_is_very", none)) (List.Mem.tail _ (List.Mem.head _)))
end K05

end
section
open PySem PySem.W PySem.Calls PyProof.Rows
set_option maxHeartbeats 0
theorem PySem.Challenge.cw_carriednames_k05_texts_refused_holds : PySem.Challenge.rw_carriednames_k05_texts_refused.Holds := by
  w_on; o_law; o_head K05.hk; (case hw => w_witness2)
  refine LamX.walk_ofTsE (l := PySem.Challenge.rw_carriednames_k05_texts_refused) (n := 63) (k := 45) (x := "script") (CX := fun w => L2.CX PySem.Challenge.rw_carriednames_k05_texts_refused.prog w) rfl (by decide) (by rfl) ⟨rfl, by decide, by decide⟩ ?F (fun w H s e s' ⟨_, _, _, _, _, _, _, _, _, _, _, _, z⟩ => z)
  intro w mg fa h Y G hmg
  obtain ⟨K, KX, c⟩ := Y
  exact ⟨K, KX, K05.law_at KX G c hmg⟩
end
