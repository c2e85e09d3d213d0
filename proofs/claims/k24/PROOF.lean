import PyProof.Rows.All
import Wide.All
import OpenK.AllK
import Wide.FinOn
import HandS.ForMost
import HandS.Exc
import HandS.TryOnly
import HandS.ExcOwn
import HandS.Lambda
import HandS.Nested
import HandS.CallSlots
import HandS.ExcCtx
import HandS.Flow
import HandS.IsInst
import HandS.TupAny
import HandS.WordsDict
import HandS.More
import HandS.Zip
import HandS.TupLen
import HandS.Comp
import HandS.Iter
import KE.GoesMore
import KE.GoesZip
import HandS.ExcField
import HandS.HeadHook4
import PyProof.EqAt
import PyProof.EqKinds
import PyProof.TupleCall
import Open.SpecLaws
import KE.OsGo
import HandS.ForSpec
import HandS.TryMany
import HandS.ListItems
import HandS.Wide
import HandS.HeadWalk
import HandS.Style
import HandS.Star
import HandS.Keys
import HandS.TupSets
import HandS.SortInts
import HandS.DictComp
import HandS.Small
import KE.KDictLaws
import HandS.SetKeys
import HandS.SetFor
import PyProof.DictUpdate
import PyProof.DictDisplay
import PyProof.DelItemList
import PyProof.RulesDelMore
import HandS.SortKw
import HandS.Conv
import HandS.NoneIn
import HandS.Deep
import KE.SortKeyHeap
import HandS.Words
import PySem.Challenge.RW_carriednames_k24_flat_machine_refused
import Lean
import KE.KStateDown
import HandS.Head0
import HandS.Head1
import HandS.Head2
import HandS.HeadEnd
import HandS.HeadHook1
import HandS.HeadHook2
set_option Elab.async false
set_option linter.all false
set_option maxRecDepth 100000
noncomputable section
namespace Sh
/-! ### abstract values, store, outcomes -/
/-- a value, tuples as pure data; ref: an object of the store; fn, cl: a def, a class of the text by number; clo: a lambda by number with its cells -/
inductive AV where
  | non | bl (b : Bool) | int (i : Int) | str (s : List Nat)
  | tup (xs : List AV)
  | ref (i : Nat)
  | fn (i : Nat)
  | cl (i : Nat)
  | clo (c : Nat) (ks : List Nat)
  | ty (n : Nat)
  deriving Inhabited

inductive AO where
  | lst (xs : List AV)
  | dct (kvs : List (AV × AV))
  | dtp (kvs : List (AV × AV))
  | ldk (kvs : List (AV × AV))
  | ins (c : Nat) (fs : List (Nat × AV))
  | cell (v : Option AV)
  | strm (c : Nat)
  deriving Inhabited

/-- digits of a place, the lowest first -/
def bits : Nat → Nat → List Bool
  | 0, _ => []
  | f + 1, i => match Nat.beq i 0 with
    | true => []
    | false => Nat.beq (i % 2) 1 :: bits f (i / 2)
theorem beq_dec (a b : Nat) : Nat.beq a b = decide (a = b) := by
  by_cases h : a = b
  · subst h;
        simp [Nat.beq_refl]
  · rw [decide_eq_false h]
    cases q : Nat.beq a b with
    | false => rfl
    | true =>
        exact absurd (Nat.eq_of_beq_eq_true q) h
theorem bits_inj : ∀ (f i j : Nat), i < 2 ^ f → j < 2 ^ f → bits f i = bits f j → i = j
  | 0, i, j, hi, hj, _ => by simp at hi hj; omega
  | f + 1, i, j, hi, hj, h => by
    have hi2 : i / 2 < 2 ^ f := by rw [Nat.pow_succ] at hi; omega
    have hj2 : j / 2 < 2 ^ f := by rw [Nat.pow_succ] at hj; omega
    unfold bits at h
    simp only [beq_dec] at h
    by_cases h0 : i = 0
    · by_cases h1 : j = 0
      · omega
      · simp [h0, h1] at h
    · by_cases h1 : j = 0
      · simp [h0, h1] at h
      · simp only [h0, h1, decide_false, List.cons.injEq] at h
        have e := bits_inj f _ _ hi2 hj2 h.2
        have p := h.1
        by_cases pi : i % 2 = 1
        · by_cases pj : j % 2 = 1
          · omega
          · simp [pi, pj] at p
        · by_cases pj : j % 2 = 1
          · simp [pi, pj] at p
          · omega
inductive Tr where
  | e
  | n (o : Option AO) (l r : Tr)
  deriving Inhabited
namespace Tr
def get : List Bool → Tr → Option AO
  | _, .e => none
  | [], .n o _ _ => o
  | true :: p, .n _ l _ => get p l
  | false :: p, .n _ _ r => get p r
def put (o : AO) : List Bool → Tr → Tr
  | [], .e => .n (some o) .e .e
  | [], .n _ l r => .n (some o) l r
  | true :: p, .e => .n none (put o p .e) .e
  | false :: p, .e => .n none .e (put o p .e)
  | true :: p, .n v l r => .n v (put o p l) r
  | false :: p, .n v l r => .n v l (put o p r)
theorem get_e (p : List Bool) : get p .e = none := by cases p <;> rfl
theorem get_put (o : AO) : ∀ (p q : List Bool) (t : Tr), get q (put o p t) = if q = p then some o else get q t
  | [], [], .e => rfl
  | [], [], .n _ _ _ => rfl
  | [], b :: q, .e => by cases b <;> simp [put, get, get_e]
  | [], b :: q, .n _ _ _ => by cases b <;> simp [put, get]
  | b :: p, [], .e => by cases b <;> simp [put, get]
  | b :: p, [], .n _ _ _ => by cases b <;> simp [put, get]
  | b :: p, c :: q, .e => by
    cases b <;> cases c <;> simp [put, get, get_e, get_put o p q]
  | b :: p, c :: q, .n v l r => by
    cases b <;> cases c <;> simp [put, get, get_put o p q]
end Tr
def depth : Nat := 40
structure Sto where
  n : Nat
  t : Tr
  deriving Inhabited
namespace Sto
def get (S : Sto) (i : Nat) : Option AO := S.t.get (bits depth i)
def put (S : Sto) (i : Nat) (o : AO) : Sto := ⟨S.n, S.t.put o (bits depth i)⟩
def new (S : Sto) (o : AO) : Sto := ⟨S.n + 1, S.t.put o (bits depth S.n)⟩
def ok (S : Sto) : Bool := Nat.blt S.n 1000000000
theorem get_put {S : Sto} {i j : Nat} {o : AO} (hi : i < 2 ^ depth) (hj : j < 2 ^ depth) : (S.put i o).get j = if j = i then some o else S.get j := by
  unfold get put
  rw [Tr.get_put]
  by_cases e : j = i
  · subst e; simp
  · have : bits depth j ≠ bits depth i := fun h => e (bits_inj depth j i hj hi h)
    simp [e, this]
theorem get_new {S : Sto} {j : Nat} {o : AO} (hi : S.n < 2 ^ depth) (hj : j < 2 ^ depth) : (S.new o).get j = if j = S.n then some o else S.get j := by
  unfold get new
  rw [Tr.get_put]
  by_cases e : j = S.n
  · subst e; simp
  · have : bits depth j ≠ bits depth S.n := fun h => e (bits_inj depth j S.n hj hi h)
    simp [e, this]
end Sto
/-- a local name: nothing yet, a value, a value whose cell has a number -/
inductive LV where
  | u | v (a : AV) | c (k : Nat) (a : AV)
  deriving Inhabited
abbrev Lo := List LV
/-- an exception: its class, its fields -/
structure AE where
  c : Nat
  fs : List (Nat × AV)
  deriving Inhabited
inductive Out (α : Type) where
  | ok (a : α) (S : Sto)
  | ex (e : AE) (L : Lo) (S : Sto)
  | bad
  | dr (n : Nat) (k : Int → Out α)
namespace Out
def bindI {α β : Type} : Out α → (α → Sto → Out β) → Out β
  | .ok a S, f => f a S
  | .ex e L S, _ => .ex e L S
  | .bad, _ => .bad
  | .dr n k, f => .dr n fun i => bindI (k i) f
noncomputable def bind {α β : Type} (m : Out α) (f : α → Sto → Out β) : Out β :=
  Out.rec (motive := fun _ => Out β) (fun a S => f a S) (fun e L S => .ex e L S) .bad (fun n _ ih => .dr n ih) m
/-- what holds at every leaf -/
def Sat {α : Type} : Out α → (α → Sto → Prop) → (AE → Lo → Sto → Prop) → Prop
  | .ok a S, P, _ => P a S
  | .ex e L S, _, E => E e L S
  | .bad, _, _ => False
  | .dr n k, P, E => ∀ i : Int, 0 ≤ i → i < n → (k i).Sat P E
theorem sat_bind {α β : Type} {f : α → Sto → Out β} {P : β → Sto → Prop} {E : AE → Lo → Sto → Prop} : ∀ {m : Out α}, (m.bind f).Sat P E ↔ m.Sat (fun a S => (f a S).Sat P E) E
  | .ok _ _ => Iff.rfl
  | .ex _ _ _ => Iff.rfl
  | .bad => Iff.rfl
  | .dr n k => ⟨fun h i h0 h1 => sat_bind.mp (h i h0 h1), fun h i h0 h1 => sat_bind.mpr (h i h0 h1)⟩
theorem sat_mono {α : Type} {P P' : α → Sto → Prop} {E E' : AE → Lo → Sto → Prop} (hP : ∀ a S, P a S → P' a S) (hE : ∀ e L S, E e L S → E' e L S) : ∀ {m : Out α}, m.Sat P E → m.Sat P' E'
  | .ok _ _, h => hP _ _ h
  | .ex _ _ _, h => hE _ _ _ h
  | .bad, h => h
  | .dr _ _, h => fun i h0 h1 => sat_mono hP hE (h i h0 h1)
/-- every leaf is True -/
def allTrue : Out AV → Bool
  | .ok (.bl true) _ => true
  | .dr n k => (List.range n).all fun i => (k i).allTrue
  | _ => false
theorem allTrue_sat : ∀ {m : Out AV}, m.allTrue = true → m.Sat (fun v _ => v = .bl true) (fun _ _ _ => False)
  | .ok v S, h => by
    cases v with
    | bl b => cases b with
      | true => rfl
      | false => cases h
    | _ => cases h
  | .ex _ _ _, h => by cases h
  | .bad, h => by cases h
  | .dr n k, h => fun i h0 h1 => by
    have h' : ((List.range n).all fun i => (k i).allTrue) = true := h
    rw [List.all_eq_true] at h'
    obtain ⟨m, rfl⟩ :=
        Int.eq_ofNat_of_zero_le h0
    exact allTrue_sat (h' m (List.mem_range.mpr (by omega)))
end Out
inductive Fl where
  | nx | br | ct | rt (v : AV)
abbrev EM := Lo → Sto → Out AV
abbrev AM := Lo → Sto → Out (List AV)
abbrev SM := Lo → Sto → Out (Fl × Lo)
abbrev FT := Nat → List AV → Sto → Out AV
end Sh

end

noncomputable section
namespace Sh
open PySem PySem.Spec PyProof.Rows L2
/-- a lambda of the text: its qualified name, parameters, body, scope, the names that it captures -/
structure LamD where
  q : Str
  params : Arguments
  body : Expr
  scope : Scope
  fr : List Str
/-- what stands behind the numbers -/
structure Gd where
  K : PySem.W.Frag
  fa : Nat → Addr
  ca : Nat → Addr
  nm : Nat → Str
  lam : Nat → LamD
  T : List (Addr × Str)
def toS (s : List Nat) : Str := ⟨s.toArray⟩
/-- the built-in classes by number -/
def tyN : Nat → String
  | 0 => "NoneType" | 1 => "bool" | 2 => "int" | 3 => "str" | 4 => "list" | 5 => "tuple" | 6 => "dict" | 7 => "ValueError" | _ => "object"
def LamO (f : Addr) (D : LamD) (cl : List (Str × Addr)) (c : Addr) : HO := .ext fun h => ∃ pm ctv, h.get? f = some (PySem.W.kla_obj "<lambda>" D.q D.params D.body D.scope cl pm c ctv)
section
variable (G : Gd) (ρ : List Addr) (H : Hp)
/-- a lambda's object -/
def RClo (c : Nat) (ks : List Nat) (v : V) : Prop :=
  ∃ (f c' : Addr) (cl : List (Str × Addr)), v = .ref f ∧ H f = some (LamO f (G.lam c) cl c') ∧ H c' = some (LamX.CodeO c' (G.lam c).q) ∧ cl.length = ks.length ∧
    (cl.map (·.1) = (G.lam c).fr ∧ ks.Nodup) ∧ ∀ (i : Nat) (k : Nat), ks[i]? = some k → ∃ x a, cl[i]? = some (x, a) ∧ ρ[k]? = some a
def isStr : AV → Bool
  | .str _ => true
  | _ => false
mutual
def RV : AV → V → Prop
  | .non, v => v = .non
  | .bl b, v => v = .bl b
  | .int i, v => v = .int i
  | .str s, v => v = .str (toS s)
  | .tup xs, v => ∃ a vs, v = .ref a ∧ SqT G.K H a vs ∧ RVs xs vs ∧ (H a = some (.tup vs) ∨ xs.all isStr = true)
  | .ref i, v => ∃ a, ρ[i]? = some a ∧ v = .ref a
  | .fn i, v => v = .ref (G.fa i)
  | .cl i, v => v = .ref (G.ca i)
  | .clo c ks, v => RClo G ρ H c ks v
  | .ty n, v => v = .ty (tyN n)
def RVs : List AV → List V → Prop
  | [], vs => vs = []
  | x :: xs, vs => ∃ v ws, vs = v :: ws ∧ RV x v ∧ RVs xs ws
end
end
/-- what never changes -/
def Imm : HO → Prop
  | .tup _ => True
  | .frz _ _ => True
  | .ext _ => True
  | _ => False
/-- what a known cell is known by -/
def Fzo : HO := .ext fun _ => True
/-- what stands still even where known cells and locks go -/
def Hrd (o : HO) : Prop := ∀ ob u, o = .frz ob u → ∃ xs, u = .tup xs
/-- the later state, but for known cells and locks -/
structure ExtT (ρ : List Addr) (H : Hp) (ρ' : List Addr) (H' : Hp) : Prop where
  pre : ∃ more, ρ' = ρ ++ more
  imm : ∀ a o, H a = some o → Imm o → Hrd o → H' a = some o
/-- the later state -/
structure Ext (ρ : List Addr) (H : Hp) (ρ' : List Addr) (H' : Hp) : Prop where
  pre : ∃ more, ρ' = ρ ++ more
  imm : ∀ a o, H a = some o → Imm o → H' a = some o
theorem Ext.toT {ρ ρ' : List Addr} {H H' : Hp} (x : Ext ρ H ρ' H') : ExtT ρ H ρ' H' := ⟨x.pre, fun a o h i _ => x.imm a o h i⟩
theorem Ext.refl (ρ : List Addr) (H : Hp) : Ext ρ H ρ H := ⟨⟨[], by simp⟩, fun _ _ h _ => h⟩
theorem Ext.trans {ρ ρ1 ρ2 : List Addr} {H H1 H2 : Hp} (x : Ext ρ H ρ1 H1) (y : Ext ρ1 H1 ρ2 H2) : Ext ρ H ρ2 H2 := by
  obtain ⟨m, hm⟩ := x.pre
  obtain ⟨m', hm'⟩ := y.pre
  exact ⟨⟨m ++ m', by rw [hm', hm, List.append_assoc]⟩, fun a o h i => y.imm a o (x.imm a o h i) i⟩
theorem ExtT.at {ρ ρ' : List Addr} {H H' : Hp} (x : ExtT ρ H ρ' H') {i : Nat} {a : Addr} (h : ρ[i]? = some a) : ρ'[i]? = some a := by
  obtain ⟨m, hm⟩ := x.pre
  rw [hm, List.getElem?_append_left (List.getElem?_eq_some_iff.mp h).1]
  exact h
theorem ExtT.sqT {ρ ρ' : List Addr} {H H' : Hp} (x : ExtT ρ H ρ' H') {K : PySem.W.Frag} {a : Addr} {vs : List V} (h : SqT K H a vs) : SqT K H' a vs := by
  rcases h with (h | ⟨o,
      h⟩) | h
  · exact .inl (.inl (x.imm _ _ h trivial fun _ _ z => by cases z))
  · exact .inl (.inr ⟨o, x.imm _ _ h trivial fun _ _ z => by cases z; exact ⟨_, rfl⟩⟩)
  · exact .inr h
section
variable {G : Gd} {ρ ρ' : List Addr} {H H' : Hp}
theorem RClo.monoT (x : ExtT ρ H ρ' H') {c : Nat} {ks : List Nat} {v : V} (h : RClo G ρ H c ks v) : RClo G ρ' H' c ks v := by
  obtain ⟨f, c', cl, e, h1, h2, h3, h4, h5⟩ := h
  refine ⟨f, c', cl, e, x.imm _ _ h1 trivial (fun _ _ z => by unfold LamO at z; cases z), x.imm _ _ h2 trivial (fun _ _ z => by unfold LamX.CodeO at z; cases z), h3, h4, fun i k hk => ?_⟩
  obtain ⟨y, a, e1, e2⟩ := h5 i k hk
  exact ⟨y, a, e1, x.at e2⟩
mutual
theorem RV.monoT (x : ExtT ρ H ρ' H') : ∀ (a : AV) {v : V}, RV G ρ H a v → RV G ρ' H' a v
  | .non, _, h => by unfold RV at h ⊢; exact h
  | .bl _, _, h => by unfold RV at h ⊢; exact h
  | .int _, _, h => by unfold RV at h ⊢; exact h
  | .str _, _, h => by unfold RV at h ⊢; exact h
  | .tup xs, _, h => by
    unfold RV at h ⊢
    obtain ⟨a, vs, e, s, r, k⟩ := h
    exact ⟨a, vs, e, x.sqT s, RVs.monoT x xs r, k.imp (fun k => x.imm _ _ k trivial fun _ _ z => by cases z) id⟩
  | .ref _, _, h => by
    unfold RV at h ⊢
    obtain ⟨a, e, r⟩ := h
    exact ⟨a, x.at e, r⟩
  | .fn _, _, h => by unfold RV at h ⊢; exact h
  | .cl _, _, h => by unfold RV at h ⊢; exact h
  | .clo _ _, _, h => by unfold RV at h ⊢; exact h.monoT x
  | .ty _, _, h => by unfold RV at h ⊢; exact h
theorem RVs.monoT (x : ExtT ρ H ρ' H') : ∀ (as : List AV) {vs : List V}, RVs G ρ H as vs → RVs G ρ' H' as vs
  | [], _, h => by unfold RVs at h ⊢; exact h
  | a :: as, _, h => by
    unfold RVs at h ⊢
    obtain ⟨v, ws, e, r, rs⟩ := h
    exact ⟨v, ws, e, RV.monoT x a r, RVs.monoT x as rs⟩
end
end

section
variable {G : Gd} {ρ ρ' : List Addr} {H H' : Hp}
theorem Ext.at (x : Ext ρ H ρ' H') {i : Nat} {a : Addr} (h : ρ[i]? = some a) : ρ'[i]? = some a := x.toT.at h
theorem Ext.sqT (x : Ext ρ H ρ' H') {K : PySem.W.Frag} {a : Addr} {vs : List V} (h : SqT K H a vs) : SqT K H' a vs := x.toT.sqT h
theorem RClo.mono (x : Ext ρ H ρ' H') {c : Nat} {ks : List Nat} {v : V} (h : RClo G ρ H c ks v) : RClo G ρ' H' c ks v := h.monoT x.toT
theorem RV.mono (x : Ext ρ H ρ' H') (a : AV) {v : V} (h : RV G ρ H a v) : RV G ρ' H' a v := RV.monoT x.toT a h
theorem RVs.mono (x : Ext ρ H ρ' H') (as : List AV) {vs : List V} (h : RVs G ρ H as vs) : RVs G ρ' H' as vs := RVs.monoT x.toT as h
end
/-! ### objects -/
def keyOf : AV → Option Key
  | .int i => some (.inl i)
  | .str s => some (.inr (toS s))
  | _ => none
section
variable (G : Gd) (ρ : List Addr) (H : Hp)
def KR : List (AV × AV) → List (Key × V) → Prop
  | [], ps => ps = []
  | (k, v) :: r, ps => ∃ k' x qs, ps = (k', x) :: qs ∧ keyOf k = some k' ∧ RV G ρ H v x ∧ KR r qs
def KTR : List (AV × AV) → List (List Key × V) → Prop
  | [], ps => ps = []
  | (k, v) :: r, ps => ∃ ks k' x qs, ps = (k', x) :: qs ∧ k = .tup ks ∧ ks.mapM keyOf = some k' ∧ RV G ρ H v x ∧ KTR r qs
def FR : List (Nat × AV) → List (Str × V) → Prop
  | [], gs => gs = []
  | (n, v) :: r, gs => ∃ x hs, gs = (G.nm n, x) :: hs ∧ RV G ρ H v x ∧ FR r hs
/-- a drawn stream: the law's own list of four, its inner list -/
def Strm (a l : Addr) (c : Nat) : Prop := ∃ (d m : Int) (xs : List Int), H a = some (.lst [.ref l, .int d, .int (c : Int), .int m]) ∧ H l = some (.lst (xs.map V.int)) ∧ 0 ≤ d ∧ 0 ≤ m ∧ m < 2147483647
def OR (a : Addr) : AO → Prop
  | .lst xs => ∃ vs, H a = some (.lst vs) ∧ RVs G ρ H xs vs
  | .dct kvs => ∃ ps, H a = some (.dK ps) ∧ KR G ρ H kvs ps
  | .dtp kvs => ∃ ps, H a = some (.dT ps) ∧ KTR G ρ H kvs ps
  | .ldk kvs => ∃ o ps, H a = some (.frz o (.dK ps)) ∧ KR G ρ H kvs ps
  | .ins c fs => ∃ dx gs, H a = some (.ins (G.ca c) dx gs) ∧ FR G ρ H fs gs
  | .cell ov => True
  | .strm c => ∃ l, Strm H a l c ∧ ∀ i : Nat, ρ[i]? ≠ some l
end
def AO.isCell : AO → Bool
  | .cell _ => true
  | _ => false
def AO.isStrm : AO → Bool
  | .strm _ => true
  | _ => false
section
variable {G : Gd} {ρ ρ' : List Addr} {H H' : Hp}
theorem KR.mono (x : Ext ρ H ρ' H') : ∀ {kvs : List (AV × AV)} {ps : List (Key × V)}, KR G ρ H kvs ps → KR G ρ' H' kvs ps
  | [], _, h => h
  | (k, v) :: r, _, ⟨k', y, qs, e, hk, hv, hr⟩ => ⟨k', y, qs, e, hk, hv.mono x v, KR.mono x hr⟩
theorem KTR.mono (x : Ext ρ H ρ' H') : ∀ {kvs : List (AV × AV)} {ps : List (List Key × V)}, KTR G ρ H kvs ps → KTR G ρ' H' kvs ps
  | [], _, h => h
  | (k, v) :: r, _, ⟨ks, k', y, qs, e, hk, hm, hv, hr⟩ => ⟨ks, k', y, qs, e, hk, hm, hv.mono x v, KTR.mono x hr⟩
theorem FR.mono (x : Ext ρ H ρ' H') : ∀ {fs : List (Nat × AV)} {gs : List (Str × V)}, FR G ρ H fs gs → FR G ρ' H' fs gs
  | [], _, h => h
  | (n, v) :: r, _, ⟨y, hs, e, hv, hr⟩ => ⟨y, hs, e, hv.mono x v, FR.mono x hr⟩
/-- all but what stands at ch is as it was -/
def Keep (ch : Option Addr) (H H' : Hp) : Prop := ∀ b o, some b ≠ ch → H b = some o → H' b = some o
theorem OR.mono {ch : Option Addr} {a : Addr} {o : AO} (x : Ext ρ H ρ' H') (k : Keep ch H H') (h : OR G ρ H a o) (hc : o.isCell = false → some a ≠ ch)
    (hl : ∀ c l, o = .strm c → Strm H a l c → some l ≠ ch) (hn : ∀ i : Nat, ∀ b, ρ'[i]? = some b → ρ[i]? = some b ∨ H b = none) : OR G ρ' H' a o := by
  cases o with
  | lst xs =>
    obtain ⟨vs, h1, h2⟩ := h
    exact ⟨vs, k a _ (hc rfl) h1, h2.mono x xs⟩
  | dct kvs =>
    obtain ⟨ps, h1, h2⟩ := h
    exact ⟨ps, k a _ (hc rfl) h1, h2.mono x⟩
  | dtp kvs =>
    obtain ⟨ps, h1, h2⟩ := h
    exact ⟨ps, k a _ (hc rfl) h1, h2.mono x⟩
  | ldk kvs =>
    obtain ⟨ob, ps, h1, h2⟩ := h
    exact ⟨ob, ps, k a _ (hc rfl) h1, h2.mono x⟩
  | ins c fs =>
    obtain ⟨dx, gs, h1, h2⟩ := h
    exact ⟨dx, gs, k a _ (hc rfl) h1, h2.mono x⟩
  | cell ov => trivial
  | strm c =>
    obtain ⟨l, s, hi⟩ := h
    have hl' := hl c l rfl s
    obtain ⟨d, m, xs, h1, h2, h3⟩ := s
    refine ⟨l, ⟨d, m, xs, k a _ (hc rfl) h1, k l _ hl' h2, h3⟩, fun i e => ?_⟩
    rcases hn i l e with q | q
    · exact hi i q
    · rw [h2] at q; cases q
end
/-- the whole store -/
structure Rel (G : Gd) (ρ : List Addr) (S : Sto) (H : Hp) : Prop where
  len : ρ.length = S.n
  lt : S.n ≤ 1000000000
  nd : ∀ (i j : Nat) (a : Addr) (o o' : AO), ρ[i]? = some a → ρ[j]? = some a → S.get i = some o → S.get j = some o' → o.isCell = o'.isCell → o ≠ .cell none → o' ≠ .cell none → i = j
  obj : ∀ (i : Nat) (a : Addr) (o : AO), ρ[i]? = some a → S.get i = some o → OR G ρ H a o
  tabs : LamX.Tabs G.T H
  one : ∀ (i j : Nat) (a b : Addr) (c c' : Nat), ρ[i]? = some a → ρ[j]? = some b → S.get i = some (.strm c) → S.get j = some (.strm c') → i = j
theorem small40 {n : Nat} (h : n ≤ 1000000000) : n < 2 ^ depth := Nat.lt_of_le_of_lt h (by decide)
section
variable {G : Gd} {ρ : List Addr} {S : Sto} {H : Hp}
theorem Rel.ilt (R : Rel G ρ S H) {i : Nat} {a : Addr} (h : ρ[i]? = some a) : i < 2 ^ depth := by
  have := (List.getElem?_eq_some_iff.mp h).1
  rw [R.len] at this
  exact small40 (Nat.le_of_lt (Nat.lt_of_lt_of_le this R.lt))
theorem ext_new {p : Addr} {o : HO} (hp : H p = none) (more : List Addr) : Ext ρ H (ρ ++ more) (upd H p o) := ⟨⟨more, rfl⟩, fun a u h _ => by rw [upd_ne (ne_of_none h hp)]; exact h⟩
theorem keep_new {p : Addr} {o : HO} (hp : H p = none) : Keep none H (upd H p o) := fun b u _ h => by rw [upd_ne (ne_of_none h hp)]; exact h
theorem tabs_new {T : List (Addr × Str)} {p : Addr} {o : HO} (hp : H p = none) (h : LamX.Tabs T H) : LamX.Tabs T (upd H p o) := h.ext fun b u e => by rw [upd_ne (ne_of_none e hp)]; exact e
/-- something that the store does not hold is made -/
theorem Rel.side {p : Addr} {o : HO} (R : Rel G ρ S H) (hp : H p = none) : Rel G ρ S (upd H p o) ∧ Ext ρ H ρ (upd H p o) := by
  have x : Ext ρ H ρ (upd H p o) := by have := ext_new (ρ := ρ) (o := o) hp []; simpa using this
  exact ⟨⟨R.len, R.lt, R.nd, fun i a u e g => (R.obj i a u e g).mono x (keep_new hp) (fun _ z => by cases z) (fun _ _ _ _ z => by cases z) fun j b h => .inl h, tabs_new hp R.tabs, R.one⟩, x⟩
theorem get_app {α : Type} {l : List α} {p b : α} {i : Nat} (h : (l ++ [p])[i]? = some b) : l[i]? = some b ∨ (i = l.length ∧ b = p) := by
  by_cases hi : i < l.length
  · rw [List.getElem?_append_left hi] at h
    exact .inl h
  · rw [List.getElem?_append_right (by omega)] at h
    by_cases hj : i - l.length = 0
    · rw [hj] at h
      simp at h
      exact .inr ⟨by omega, h.symm⟩
    · obtain ⟨k, hk⟩ : ∃ k, i - l.length = k + 1 := ⟨i - l.length - 1, by omega⟩
      rw [hk] at h
      simp at h
/-- a new object -/
theorem Rel.new {p : Addr} {o : HO} {ao : AO} (R : Rel G ρ S H) (hs : S.ok = true) (hp : H p = none) (hc : ao.isCell = false) (ho : OR G (ρ ++ [p]) (upd H p o) p ao) (hns : ao.isStrm = false := by rfl) :
    Rel G (ρ ++ [p]) (S.new ao) (upd H p o) ∧ Ext ρ H (ρ ++ [p]) (upd H p o) := by
  have x : Ext ρ H (ρ ++ [p]) (upd H p o) := ext_new hp [p]
  have hlt : S.n < 1000000000 := Nat.le_of_ble_eq_true hs
  have gn : ∀ {j : Nat}, j ≤ S.n → (S.new ao).get j = if j = S.n then some ao else S.get j := fun {j} h => Sto.get_new (small40 R.lt) (small40 (Nat.le_trans h R.lt))
  have jle : ∀ {j : Nat} {b : Addr}, (ρ ++ [p])[j]? = some b → j ≤ S.n := fun {j b} h => by
    have := (List.getElem?_eq_some_iff.mp h).1
    rw [List.length_append, List.length_singleton, R.len] at this
    omega
  have old : ∀ {j : Nat} {b : Addr} {u : AO}, (ρ ++ [p])[j]? = some b → (S.new ao).get j = some u → (j = S.n ∧ b = p ∧ u = ao) ∨ (ρ[j]? = some b ∧ S.get j = some u ∧ j ≠ S.n) := fun {j b u} h g => by
    rw [gn (jle h)] at g
    rcases get_app h with q | ⟨q, e⟩
    · have hj := (List.getElem?_eq_some_iff.mp q).1
      rw [R.len] at hj
      rw [if_neg (by omega)] at g
      exact .inr ⟨q, g, by omega⟩
    · rw [R.len] at q
      rw [if_pos q] at g
      exact .inl ⟨q, e, (Option.some.inj g).symm⟩
  have hne : ∀ {j : Nat} {b : Addr} {u : AO}, ρ[j]? = some b → S.get j = some u → u.isCell = false → H b ≠ none := fun {j b u} h g hu => by
    have q := R.obj j b u h g
    cases u with
    | lst xs => obtain ⟨_, e, _⟩ := q; rw [e]; exact fun z => by cases z
    | dct kvs => obtain ⟨_, e, _⟩ := q; rw [e]; exact fun z => by cases z
    | dtp kvs => obtain ⟨_, e, _⟩ := q; rw [e]; exact fun z => by cases z
    | ldk kvs => obtain ⟨_, _, e, _⟩ := q; rw [e]; exact fun z => by cases z
    | ins c fs => obtain ⟨_, _, e, _⟩ := q; rw [e]; exact fun z => by cases z
    | cell v => cases hu
    | strm c => obtain ⟨_, ⟨_, _, _, e, _⟩, _⟩ := q; rw [e]; exact fun z => by cases z
  refine ⟨⟨?_, ?_, fun i j a u u' hi hj gi gj hc' k1 k2 => ?_, fun i a u hi gi => ?_, tabs_new hp R.tabs, fun i j a b c c' hi hj gi gj => ?_⟩, x⟩
  · rw [List.length_append, List.length_singleton, R.len]; rfl
  · show S.n + 1 ≤ _; omega
  · rcases old hi gi with ⟨e1, e2, e3⟩ | ⟨h1, g1, n1⟩ <;> rcases old hj gj with ⟨f1, f2, f3⟩ | ⟨h2, g2, n2⟩
    · rw [e1, f1]
    · exfalso
      rw [e3, hc] at hc'
      exact hne h2 g2 hc'.symm (by rw [e2]; exact hp)
    · exfalso
      rw [f3, hc] at hc'
      exact hne h1 g1 hc' (by rw [f2]; exact hp)
    · exact R.nd i j a u u' h1 h2 g1 g2 hc' k1 k2
  · rcases old hi gi with ⟨_, e2, e3⟩ | ⟨h1, g1, _⟩
    · rw [e2, e3]; exact ho
    · refine (R.obj i a u h1 g1).mono x (keep_new hp) (fun _ z => by cases z) (fun _ _ _ _ z => by cases z) fun j b h => ?_
      rcases get_app h with q | ⟨_, e⟩
      · exact .inl q
      · rw [e]; exact .inr hp
  · rcases old hi gi with ⟨_, _, e3⟩ | ⟨h1, g1, _⟩
    · rw [← e3] at hns; cases hns
    · rcases old hj gj with ⟨_, _, e3⟩ | ⟨h2, g2, _⟩
      · rw [← e3] at hns; cases hns
      · exact R.one i j a b c c' h1 h2 g1 g2
/-- the object i is changed -/
theorem Rel.upd {i : Nat} {a : Addr} {o₀ o : HO} {ao₀ ao : AO} (R : Rel G ρ S H) (hi : ρ[i]? = some a) (hg : S.get i = some ao₀) (h0 : H a = some o₀) (hm : ¬ Imm o₀) (ht : ∀ ps, o₀ ≠ .tbl ps) (hc₀ : ao₀.isCell = false) (hc : ao.isCell = false)
    (ho : Ext ρ H ρ (upd H a o) → OR G ρ (upd H a o) a ao) (hns : ao.isStrm = false := by rfl) : Rel G ρ (S.put i ao) (L2.upd H a o) ∧ Ext ρ H ρ (L2.upd H a o) := by
  have x : Ext ρ H ρ (L2.upd H a o) := ⟨⟨[], by simp⟩, fun b u h im => by
    rw [upd_ne (fun z => by rw [z, h0] at h; exact hm (Option.some.inj h ▸ im))]; exact h⟩
  have k : Keep (some a) H (L2.upd H a o) := fun b u n h => by rw [upd_ne (fun z => n (by rw [z]))]; exact h
  have gp : ∀ {j : Nat} {b : Addr}, ρ[j]? = some b → (S.put i ao).get j = if j = i then some ao else S.get j := fun {j b} h => Sto.get_put (R.ilt hi) (R.ilt h)
  refine ⟨⟨R.len, R.lt, fun j j' b u u' hj hj' gj gj' hc' n1 n2 => ?_, fun j b u hj gj => ?_, fun p hp => ?_, fun j j' b b' c c' hj hj' gj gj' => ?_⟩, x⟩
  · have fix : ∀ {j : Nat} {u : AO}, ρ[j]? = some b → (S.put i ao).get j = some u → u ≠ .cell none → ∃ u0, S.get j = some u0 ∧ u0.isCell = u.isCell ∧ u0 ≠ .cell none := fun {j u} h g n => by
      rw [gp h] at g
      by_cases e : j = i
      · rw [if_pos e] at g
        cases g
        exact ⟨ao₀, by rw [e]; exact hg, by rw [hc₀, hc], fun z => by rw [z] at hc₀; cases hc₀⟩
      · rw [if_neg e] at g
        exact ⟨u, g, rfl, n⟩
    obtain ⟨w, g1, c1, m1⟩ := fix hj gj n1
    obtain ⟨w', g2, c2, m2⟩ := fix hj' gj' n2
    exact R.nd j j' b w w' hj hj' g1 g2 (by rw [c1, c2, hc']) m1 m2
  · rw [gp hj] at gj
    by_cases e : j = i
    · rw [if_pos e] at gj
      cases gj
      rw [e, hi] at hj
      cases hj
      exact ho x
    · rw [if_neg e] at gj
      have q := R.obj j b u hj gj
      refine q.mono x k (fun cu z => ?_) (fun c l e' s z => ?_) fun _ _ h => .inl h
      · have ez : b = a := Option.some.inj z
        rw [ez] at hj
        exact e (R.nd j i a u ao₀ hj hi gj hg (by rw [cu, hc₀]) (fun z => by rw [z] at cu; cases cu) fun z => by rw [z] at hc₀; cases hc₀)
      · have ez : l = a := Option.some.inj z
        subst e'
        obtain ⟨l', s', hn⟩ := q
        have el : l' = a := by
          rw [← ez]
          obtain ⟨_, _, _, e1, _⟩ := s
          obtain ⟨_, _, _, e2, _⟩ := s'
          rw [e1] at e2
          injection e2 with e2
          injection e2 with e2
          injection e2 with e2
          injection e2 with e2
          exact e2.symm
        exact hn i (by rw [el]; exact hi)
  · obtain ⟨ps, h1, h2, h3⟩ := R.tabs p hp
    refine ⟨ps, k _ _ (fun z => by
      cases z
      rw [h0] at h1
      exact ht ps (Option.some.inj h1)) h1, h2, fun pos cv hcv => ?_⟩
    obtain ⟨c, e1, e2⟩ := h3 pos cv hcv
    exact ⟨c, e1, x.imm _ _ e2 trivial⟩
  · have st : ∀ {j : Nat} {b : Addr} {c : Nat}, ρ[j]? = some b → (S.put i ao).get j = some (.strm c) → S.get j = some (.strm c) := fun {j b c} h g => by
      rw [gp h] at g
      by_cases e : j = i
      · rw [if_pos e] at g
        cases g
        cases hns
      · rw [if_neg e] at g
        exact g
    exact R.one j j' b b' c c' hj hj' (st hj gj) (st hj' gj')
/-! ### cells -/
theorem AO.cell_of {o : AO} (h : o.isCell = true) : ∃ v, o = .cell v := by
  cases o with
  | cell v => exact ⟨v, rfl⟩
  | _ => cases h
/-- a cell has a number from now on; nothing is told of it yet -/
theorem Rel.cellNew {a : Addr} (R : Rel G ρ S H) (hs : S.ok = true) (ha : H a = none) : Rel G (ρ ++ [a]) (S.new (.cell none)) H ∧ Ext ρ H (ρ ++ [a]) H := by
  have x : Ext ρ H (ρ ++ [a]) H := ⟨⟨[a], rfl⟩, fun _ _ h _ => h⟩
  have hlt : S.n < 1000000000 := Nat.le_of_ble_eq_true hs
  have old : ∀ {j : Nat} {b : Addr} {u : AO}, (ρ ++ [a])[j]? = some b → (S.new (.cell none)).get j = some u → u = .cell none ∨ (ρ[j]? = some b ∧ S.get j = some u) := fun {j b u} h g => by
    have jle : j ≤ S.n := by
      have := (List.getElem?_eq_some_iff.mp h).1
      rw [List.length_append, List.length_singleton, R.len] at this
      omega
    rw [Sto.get_new (small40 R.lt) (small40 (Nat.le_trans jle R.lt))] at g
    rcases get_app h with q | ⟨q, e⟩
    · have hj := (List.getElem?_eq_some_iff.mp q).1
      rw [R.len] at hj
      rw [if_neg (by omega)] at g
      exact .inr ⟨q, g⟩
    · rw [R.len] at q
      rw [if_pos q] at g
      exact .inl (Option.some.inj g).symm
  refine ⟨⟨?_, ?_, fun i j b u u' hi hj gi gj hc n1 n2 => ?_, fun i b u hi gi => ?_, R.tabs, fun i j b b' c c' hi hj gi gj => ?_⟩, x⟩
  · rw [List.length_append, List.length_singleton, R.len]; rfl
  · show S.n + 1 ≤ _; omega
  · rcases old hi gi with e | ⟨h1, g1⟩
    · exact absurd e n1
    · rcases old hj gj with e | ⟨h2, g2⟩
      · exact absurd e n2
      · exact R.nd i j b u u' h1 h2 g1 g2 hc n1 n2
  · rcases old hi gi with e | ⟨h1, g1⟩
    · rw [e]; trivial
    · refine (R.obj i b u h1 g1).mono x (ch := none) (fun _ _ _ h => h) (fun _ z => by cases z) (fun _ _ _ _ z => by cases z) fun j b' h => ?_
      rcases get_app h with q | ⟨_, e⟩
      · exact .inl q
      · rw [e]; exact .inr ha
  · rcases old hi gi with e | ⟨h1, g1⟩
    · cases e
    · rcases old hj gj with e | ⟨h2, g2⟩
      · cases e
      · exact R.one i j b b' c c' h1 h2 g1 g2
/-- cells' worths are others; those that are told of stand apart -/
theorem Rel.recell {S2 : Sto} (R : Rel G ρ S H) (hn : S2.n = S.n) (h : ∀ j a, ρ[j]? = some a → S2.get j = S.get j ∨ ((∃ v, S.get j = some (.cell v)) ∧ ∃ v, S2.get j = some (.cell v)))
    (hu : ∀ i j a v w, ρ[i]? = some a → ρ[j]? = some a → S2.get i = some (.cell (some v)) → S2.get j = some (.cell (some w)) → i = j) : Rel G ρ S2 H := by
  refine ⟨by rw [hn]; exact R.len, by rw [hn]; exact R.lt, fun i j b u u' hi hj gi gj hc n1 n2 => ?_, fun i b u hi gi => ?_, R.tabs, fun i j b b' c c' hi hj gi gj => ?_⟩
  · cases e : u.isCell with
    | true =>
      obtain ⟨v, rfl⟩ := AO.cell_of e
      rw [e] at hc
      obtain ⟨w, rfl⟩ := AO.cell_of hc.symm
      cases v with
      | none => exact absurd rfl n1
      | some v => cases w with
        | none => exact absurd rfl n2
        | some w => exact hu i j b v w hi hj gi gj
    | false =>
      rw [e] at hc
      rcases h i b hi with z | ⟨_, v, z⟩
      · rcases h j b hj with z' | ⟨_, v', z'⟩
        · exact R.nd i j b u u' hi hj (z ▸ gi) (z' ▸ gj) (by rw [e, hc]) n1 n2
        · rw [gj] at z'; cases z'; cases hc
      · rw [gi] at z; cases z; cases e
  · rcases h i b hi with z | ⟨_, v, z⟩
    · exact R.obj i b u hi (z ▸ gi)
    · rw [gi] at z; cases z; trivial
  · rcases h i b hi with z | ⟨_, v, z⟩
    · rcases h j b' hj with z' | ⟨_, v', z'⟩
      · exact R.one i j b b' c c' hi hj (z ▸ gi) (z' ▸ gj)
      · rw [gj] at z'; cases z'
    · rw [gi] at z; cases z
end
/-- several cells put -/
def putC : List (Nat × Option AV) → Sto → Sto
  | [], S => S
  | (k, v) :: r, S => (putC r S).put k (.cell v)
theorem putC_n (S : Sto) : ∀ l, (putC l S).n = S.n
  | [] => rfl
  | (_, _) :: r => putC_n S r
theorem get_putC {S : Sto} {j : Nat} (hj : j < 2 ^ depth) : ∀ {l : List (Nat × Option AV)}, (∀ p ∈ l, p.1 < 2 ^ depth) → (putC l S).get j = match l.lookup j with
    | some v => some (.cell v)
    | none => S.get j
  | [], _ => rfl
  | (k, v) :: r, h => by
    unfold putC
    rw [Sto.get_put (h (k, v) List.mem_cons_self) hj, List.lookup_cons]
    by_cases e : j = k
    · subst e; simp
    · have e2 : (j == k) = false := by simpa using e
      rw [if_neg e, e2]
      exact get_putC hj fun p hp => h p (List.mem_cons_of_mem _ hp)
end Sh

end

noncomputable section
namespace Sh
open PySem PySem.Spec PyProof.Rows L2 LamX
/-! cells that are known for the time of a call, and let go behind it -/
abbrev Cs := List (Addr × Obj)
def fz (H : Hp) (C : Cs) : Hp := fun b => match C.lookup b with
  | some o => some (.frz o Fzo)
  | none => H b
def uz (H : Hp) (C : Cs) : Hp := fun b => match C.lookup b with
  | some _ => none
  | none => H b
section
variable {H H' : Hp} {C : Cs} {b : Addr} {o : Obj}
theorem fz_at (h : C.lookup b = some o) : fz H C b = some (.frz o Fzo) := by unfold fz; rw [h]
theorem fz_ne (h : C.lookup b = none) : fz H C b = H b := by unfold fz; rw [h]
theorem uz_at (h : C.lookup b = some o) : uz H C b = none := by unfold uz; rw [h]
theorem uz_ne (h : C.lookup b = none) : uz H C b = H b := by unfold uz; rw [h]
theorem uz_none (h : H b = none) : uz H C b = none := by
  cases e : C.lookup b with
  | none => rw [uz_ne e]; exact h
  | some o => exact uz_at e
/-- the cells of C are not known of -/
def Free (H : Hp) (C : Cs) : Prop := ∀ b o, C.lookup b = some o → H b = none
/-- they are known of -/
def Held (H : Hp) (C : Cs) : Prop := ∀ b o, C.lookup b = some o → H b = some (.frz o Fzo)
theorem held_fz : Held (fz H C) C := fun b o h => fz_at h
theorem free_uz : Free (uz H C) C := fun b o h => uz_at h
theorem Free.ne (f : Free H C) {u : HO} (h : H b = some u) : C.lookup b = none := by
  cases e : C.lookup b with
  | none => rfl
  | some o => rw [f b o e] at h; cases h
theorem Held.ne (f : Held H C) {u : HO} (h : H b = some u) (hu : ∀ o, u ≠ .frz o Fzo) : C.lookup b = none := by
  cases e : C.lookup b with
  | none => rfl
  | some o => rw [f b o e] at h; exact absurd (Option.some.inj h).symm (hu o)
theorem Held.ne0 (f : Held H C) (h : H b = none) : C.lookup b = none := by
  cases e : C.lookup b with
  | none => rfl
  | some o => rw [f b o e] at h; cases h
theorem uz_fz (f : Free H C) : uz (fz H C) C = H := by
  funext b
  cases e : C.lookup b with
  | none => rw [uz_ne e, fz_ne e]
  | some o => rw [uz_at e, f b o e]
theorem fz_uz (f : Held H C) : fz (uz H C) C = H := by
  funext b
  cases e : C.lookup b with
  | none => rw [fz_ne e, uz_ne e]
  | some o => rw [fz_at e, f b o e]
end
section
variable {P : Program} {w : World} {H H' : Hp} {C : Cs} {h h' : Heap}
theorem hok_fz (f : Free H C) (k : HOk P w H h) (hc : ∀ b o, C.lookup b = some o → h.get? b = some o) : HOk P w (fz H C) h := fun a u e => by
  cases q : C.lookup a with
  | some o =>
    rw [fz_at q] at e
    cases e
    exact ⟨hc a o q, trivial, ⟨o, hc a o q⟩, fun _ _ _ _ => trivial⟩
  | none =>
    rw [fz_ne q] at e
    exact (k a u e).stay (fun _ _ _ z => z) (fun b z => by rw [fz_ne (f.ne z)]; exact z) fun b xs z => by rw [fz_ne (f.ne z)]; exact z
theorem hok_uz (f : Held H C) (k : HOk P w H h) : HOk P w (uz H C) h := fun a u e => by
  cases q : C.lookup a with
  | some o => rw [uz_at q] at e; cases e
  | none =>
    rw [uz_ne q] at e
    refine (k a u e).stay (fun _ _ _ z => z) (fun b z => ?_) fun b xs z => ?_
    · rw [uz_ne (f.ne z fun o q => by cases q)]; exact z
    · rw [uz_ne (f.ne z fun o q => by cases q)]; exact z
theorem un_fz {fs ex : List Addr} (f : Free H C) (hc : ∀ b o, C.lookup b = some o → h.get? b = some o) (hk : HOk P w H' h') (hf : Held H' C) (u : Un fs ex (fz H C) H' h h') : Un fs ex H (uz H' C) h h' := by
  have at_ : ∀ {b o o'}, C.lookup b = some o' → h.get? b = some o → h'.get? b = some o := fun {b o o'} q e => by
    have e1 := hc b o' q
    rw [e] at e1
    cases e1
    exact (hk b _ (hf b o q)).1
  refine ⟨fun b o e n hb hx => ?_, fun b o e n hb hx => ?_, fun b o e n hx => ?_, u.there, fun b xs e => ?_, fun b o x e => ?_, fun b ps e => ?_⟩
  · cases q : C.lookup b with
    | some o' => exact at_ q e
    | none => exact u.keep b o e (by rw [fz_ne q]; exact n) hb hx
  · cases q : C.lookup b with
    | some o' => exact ⟨o.slots, at_ q e⟩
    | none => exact u.slot b o e (by rw [fz_ne q]; exact n) hb hx
  · cases q : C.lookup b with
    | some o' => exact uz_at q
    | none => rw [uz_ne q]; exact u.free b o e (by rw [fz_ne q]; exact n) hx
  · rw [uz_ne (f.ne e)]; exact u.tups b xs (by rw [fz_ne (f.ne e)]; exact e)
  · rw [uz_ne (f.ne e)]; exact u.frzs b o x (by rw [fz_ne (f.ne e)]; exact e)
  · obtain ⟨m, z⟩ := u.tbls b ps (by rw [fz_ne (f.ne e)]; exact e)
    exact ⟨m, by rw [uz_ne (f.ne e)]; exact z⟩
theorem un_uz {fs : List Addr} (f : Held H C) (hk : HOk P w H h) (u : Un fs [] (uz H C) H' h h') : Un fs [] H (fz H' C) h h' := by
  refine ⟨fun b o e n hb hx => u.keep b o e (uz_none n) hb hx, fun b o e n hb hx => u.slot b o e (uz_none n) hb hx, fun b o e n hx => ?_, u.there, fun b xs e => ?_, fun b o x e => ?_, fun b ps e => ?_⟩
  · rw [fz_ne (f.ne0 n)]; exact u.free b o e (uz_none n) hx
  · have q := f.ne e fun o q => by cases q
    rw [fz_ne q]; exact u.tups b xs (by rw [uz_ne q]; exact e)
  · cases q : C.lookup b with
    | some o' =>
      rw [f b o' q] at e
      cases e
      exact fz_at q
    | none => rw [fz_ne q]; exact u.frzs b o x (by rw [uz_ne q]; exact e)
  · have q := f.ne e fun o q => by cases q
    obtain ⟨m, z⟩ := u.tbls b ps (by rw [uz_ne q]; exact e)
    exact ⟨m, by rw [fz_ne q]; exact z⟩
end
section
variable {P : Program} {w : World} {K : PySem.W.Frag} {mg : Str → Option Value} {base : Heap} {A : Around} {outer : List Env} {s s' : Shared} {H : Hp} {C : Cs} {Q : VK} {E : XK} {u : Value}
theorem env0_uz (f : Held H C) (e : Env0 P w K mg base A outer s H) : Env0 P w K mg base A outer s (uz H C) :=
  ⟨e.frames, e.mod, fun b o q => ⟨(e.bs b o q).1, uz_none (e.bs b o q).2⟩, e.bsz, e.funs, fun b hb => uz_none (e.frf b hb), hok_uz f e.hok, e.bare⟩
theorem env0_fz (f : Free H C) (hc : ∀ b o, C.lookup b = some o → s.heap.get? b = some o) (hB : ∀ b o, C.lookup b = some o → base.get? b = none ∧ b ∉ frs outer) (e : Env0 P w K mg base A outer s H) : Env0 P w K mg base A outer s (fz H C) := by
  refine ⟨e.frames, e.mod, fun b o q => ⟨(e.bs b o q).1, ?_⟩, e.bsz, e.funs, fun b hb => ?_, hok_fz f e.hok hc, e.bare⟩
  · cases z : C.lookup b with
    | none => rw [fz_ne z]; exact (e.bs b o q).2
    | some o' => rw [(hB b o' z).1] at q; cases q
  · cases z : C.lookup b with
    | none => rw [fz_ne z]; exact e.frf b hb
    | some o' => exact absurd hb (hB b o' z).2
theorem ce_fz (f : Free H C) (hc : ∀ b o, C.lookup b = some o → s.heap.get? b = some o) (h : CE outer P w (fz H C) s (fun v H' => Q v (uz H' C)) u s') : CE outer P w H s Q u s' := by
  obtain ⟨v, H', os, bare, un, hok, r, q⟩ :=
        h
  have hf : Held H' C := fun b o e => un.frzs b o Fzo (fz_at e)
  exact ⟨v, uz H' C, os, bare, un_fz f hc hok hf un, hok_uz hf hok, r, q⟩
theorem ce_uz (f : Held H C) (hk : HOk P w H s.heap) (hfr : ∀ b ∈ frs outer, H b = none) (h : CE outer P w (uz H C) s (fun v H' => Free H' C → Q v (fz H' C)) u s') : CE outer P w H s Q u s' := by
  obtain ⟨v, H', os, bare, un, hok, r, q⟩ :=
        h
  have at_ : ∀ b o, C.lookup b = some o → s.heap.get? b = some o := fun b o e => (hk b _ (f b o e)).1
  have nf : ∀ b o, C.lookup b = some o → b ∉ frs outer := fun b o e hb => by
    have z := hfr b hb
    rw [f b o e] at z
    cases z
  have fr : Free H' C := fun b o e => un.free b o (at_ b o e) (uz_at e) (by simp)
  exact ⟨v, fz H' C, os, bare, un_uz f hk un, hok_fz fr hok fun b o e => un.keep b o (at_ b o e) (uz_at e) (nf b o e) (by simp), r, q fr⟩
theorem cx_uz (f : Held H C) (hk : HOk P w H s.heap) (hfr : ∀ b ∈ frs outer, H b = none) (h : L2.CX P w outer (uz H C) s (fun cls d H' => Free H' C → E cls d (fz H' C)) u s') : L2.CX P w outer H s E u s' := by
  obtain ⟨a, B, H', cls, d, e, fl, hok, ub, na, os, bare, q⟩ := h
  have at_ : ∀ b o, C.lookup b = some o → s.heap.get? b = some o := fun b o e => (hk b _ (f b o e)).1
  have nf : ∀ b o, C.lookup b = some o → b ∉ frs outer := fun b o e hb => by
    have z := hfr b hb
    rw [f b o e] at z
    cases z
  have fr : Free H' C := fun b o e => ub.free b o (at_ b o e) (uz_at e)
  have inB : ∀ b o, C.lookup b = some o → B.get? b = some o := fun b o e => ub.keep b o (at_ b o e) (uz_at e) (nf b o e)
  have naC : C.lookup a = none := by
    cases z : C.lookup a with
    | none => rfl
    | some o =>
      have := inB a o z
      rw [fl.2.1] at this
      cases this
  refine ⟨a, B, fz H' C, cls, d, e, fl, hok_fz fr hok inB, ⟨fun b o e n hb => ub.keep b o e (uz_none n) hb, ub.slot, fun b o e n => ?_, ub.there, fun b xs e => ?_, fun b o x e => ?_, fun b ps e => ?_⟩, by rw [fz_ne naC]; exact na, os, bare, q fr⟩
  · rw [fz_ne (f.ne0 n)]; exact ub.free b o e (uz_none n)
  · have q := f.ne e fun o q => by cases q
    rw [fz_ne q]; exact ub.tups b xs (by rw [uz_ne q]; exact e)
  · cases q : C.lookup b with
    | some o' =>
      rw [f b o' q] at e
      cases e
      exact fz_at q
    | none => rw [fz_ne q]; exact ub.frzs b o x (by rw [uz_ne q]; exact e)
  · have q := f.ne e fun o q => by cases q
    obtain ⟨m, z⟩ := ub.tbls b ps (by rw [uz_ne q]; exact e)
    exact ⟨m, by rw [fz_ne q]; exact z⟩
theorem cx_fz (f : Free H C) (hc : ∀ b o, C.lookup b = some o → s.heap.get? b = some o) (hnf : ∀ b o, C.lookup b = some o → b ∉ frs outer) (h : L2.CX P w outer (fz H C) s (fun cls d H' => Held H' C → E cls d (uz H' C)) u s') : L2.CX P w outer H s E u s' := by
  obtain ⟨a, B, H', cls, d, e, fl, hok, ub, na, os, bare, q⟩ := h
  have hf : Held H' C := fun b o e => ub.frzs b o Fzo (fz_at e)
  refine ⟨a, B, uz H' C, cls, d, e, fl, hok_uz hf hok, ⟨fun b o e n hb => ?_, ub.slot, fun b o e n => ?_, ub.there, fun b xs e => ?_, fun b o x e => ?_, fun b ps e => ?_⟩, uz_none na, os, bare, q hf⟩
  · cases z : C.lookup b with
    | some o' =>
      have e1 := hc b o' z
      rw [e] at e1
      cases e1
      exact (hok b _ (hf b o z)).1
    | none => exact ub.keep b o e (by rw [fz_ne z]; exact n) hb
  · cases z : C.lookup b with
    | some o' => exact uz_at z
    | none => rw [uz_ne z]; exact ub.free b o e (by rw [fz_ne z]; exact n)
  · rw [uz_ne (f.ne e)]; exact ub.tups b xs (by rw [fz_ne (f.ne e)]; exact e)
  · rw [uz_ne (f.ne e)]; exact ub.frzs b o x (by rw [fz_ne (f.ne e)]; exact e)
  · obtain ⟨m, z⟩ := ub.tbls b ps (by rw [fz_ne (f.ne e)]; exact e)
    exact ⟨m, by rw [uz_ne (f.ne e)]; exact z⟩
theorem ce_fz' (f : Free H C) (hc : ∀ b o, C.lookup b = some o → s.heap.get? b = some o) (h : CE outer P w (fz H C) s (fun v H' => Held H' C → Q v (uz H' C)) u s') : CE outer P w H s Q u s' := by
  obtain ⟨v, H', os, bare, un, hok, r, q⟩ :=
        h
  have hf : Held H' C := fun b o e => un.frzs b o Fzo (fz_at e)
  exact ⟨v, uz H' C, os, bare, un_fz f hc hok hf un, hok_uz hf hok, r, q hf⟩
end
/-! ### a lambda's call -/
abbrev lamF (D : LamD) (cl : List (Str × Addr)) (c' : Addr) : NdefX.NF := ⟨"<lambda>", D.q, D.params, [], D.scope, cl, c'⟩
section
variable {P : Program} {w : World} {K : PySem.W.Frag} {mg : Str → Option Value} {base : Heap} {A : Around} {outer : List Env} {s s' : Shared} {H : Hp} {C : Cs} {Q : VK} {E : XK} {u : Value} {k : Nat}
theorem clo_run {D : LamD} {cl : List (Str × Addr)} {c' f : Addr} {N ps : List Str} {us : List Value} {vs : List V} {ws : List (Option V)} {t : TE} (S : NdefX.NScope N ps D.fr D.scope)
    (hb : ∀ (cl : List (Str × Addr)) (pm cv ctv : Value) (us : List Value), us.length = ps.length → bindArgs (PySem.W.kla_fn "<lambda>" D.q D.params D.body D.scope cl pm cv ctv) ⟨us, []⟩ = pure (ps.zip us))
    (hr : Room (k + 1) A) (e0 : Env0 P w K mg base A outer s H) (hf : H f = some (LamO f D cl c')) (hco : H c' = some (CodeO c' D.q)) (hl : vs.length = ps.length) (r : Vals vs us)
    (hC : Held H C) (hcl : ∀ y c, cl.lookup y = some c → ∃ o v, C.lookup c = some o ∧ o.data = .cell v) (hinj : ∀ x y c, cl.lookup x = some c → cl.lookup y = some c → x = y) (hw : ws.length = D.fr.length)
    (has : ∀ (i : Nat) (y : Str), D.fr[i]? = some y → ∃ c o v u, cl.lookup y = some c ∧ C.lookup c = some o ∧ ws[i]? = some (some v) ∧ RelV v u ∧ o.data = .cell (some u))
    (hbody : Room k (A.deeper (NdefX.envF (lamF D cl c') f s.heap.objs.size)) → PE (NdefX.ncx (L2.CX P w) P w K mg base N (lamF D cl c') f A outer s (uz H C) fun cls d H' => Free H' C → E cls d (fz H' C)) D.body t)
    (ht : t (NdefX.startF N vs ws) (uz H C) fun v H' => Free H' C → Q v (fz H' C)) : codeAny (model P w) A (.call (.ref f) ⟨us, []⟩) (CR (L2.CX P w) outer P w H s Q E) s := by
  have lim : s.heap.NoLimit :=
        e0.mod.nolimit.keeps fun b o e => (e0.bs b o e).1
  obtain ⟨⟨pm, ctv, ho⟩, _, _⟩ := e0.hok f _ hf
  obtain ⟨⟨oc, qs, tt, hoc, hdc, hvc⟩, _, _⟩ := e0.hok c' _ hco
  have e1 := env0_uz hC e0
  have at_ : ∀ b o, C.lookup b = some o → s.heap.get? b = some o := fun b o e => (e0.hok b _ (hC b o e)).1
  have CA : NdefX.CellsAt cl D.fr ws s.heap (uz H C) := by
    refine ⟨hw, fun y c e => ?_, hinj, fun i y e => ?_⟩
    · obtain ⟨o, v, h1, h2⟩ := hcl y c e
      exact ⟨uz_at h1, v, o, at_ c o h1, h2⟩
    · obtain ⟨c, o, v, u, h1, h2, h3, h4, h5⟩ := has i y e
      refine ⟨c, h1, fun v' hv' => ?_⟩
      rw [h3] at hv'
      cases hv'
      exact ⟨u, h4, o, at_ c o h2, h5⟩
  refine PySem.W.kla_callFunE hr.depth ho rfl S.co S.gen rfl ⟨c', oc, qs, tt, rfl, hoc, hdc, hvc⟩ ?_
  rw [hb _ _ _ _ us (by rw [← r.length]; exact hl)]
  refine wpAny_pure (wpAny_newFunctionEnv S.nocell (fun ⟨n, _⟩ hy =>
        S.par n (List.of_mem_zip hy).1) (fun h₁ hns hsb => ⟨lim.fresh _ hsb, ?_⟩) S.kind)
  show codeAny _ _ (.expr D.body (NdefX.envF (lamF D cl c') f s.heap.objs.size)) _ _
  have kp : ∀ b o, s.heap.get? b = some o → h₁.get? b = some o :=
        fun b o e => hsb.extBut b o (Nat.ne_of_lt (Heap.lt_size e)) (Heap.get?_push_of_some _ e)
  have J : Inv (NdefX.ncx (L2.CX P w) P w K mg base N (lamF D cl c') f A outer s (uz H C) fun cls d H' => Free H' C → E cls d (fz H' C)) [] (NdefX.startF N vs ws) (uz H C) { s with heap := h₁, toks := s.toks + (ps.zip us).length } :=
    NdefX.inv_startN (F := lamF D cl c') S hr.hd e1 hl r CA hns kp
  refine PySem.W.kla_codeExpr (wpAny_mono ((hbody (hr.deeper _)).run [] _ _ _ _ J ht) (fun v s' hq => ?_) fun e s' hq => ?_)
  · obtain ⟨w', H', J', rv, q⟩ := hq
    exact ce_uz hC e0.hok e0.frf ⟨w', H', J'.os, J'.bare, J'.base, J'.hok, rv, q⟩
  · exact wpAny_mono hq (fun _ _ z => cx_uz hC e0.hok e0.frf z) fun _ _ z => cx_uz hC e0.hok e0.frf z
end
end Sh

end

noncomputable section
namespace Sh
open PySem PySem.Spec PyProof.Rows L2 LamX
/-! the store's reading where cells become known, or are let go -/
section
variable {G : Gd} {ρ : List Addr} {S : Sto} {H : Hp} {C : Cs}
theorem fzo_ne {o : Obj} {u : HO} (h : u ≠ Fzo) : HO.frz o u ≠ HO.frz o Fzo := fun z => by injection z with _ z; exact h z
theorem ext_fz (f : Free H C) : Ext ρ H ρ (fz H C) := ⟨⟨[], by simp⟩, fun a o e _ => by rw [fz_ne (f.ne e)]; exact e⟩
theorem extT_uz (f : Held H C) : ExtT ρ H ρ (uz H C) := ⟨⟨[], by simp⟩, fun a o e _ n => by rw [uz_ne (f.ne e fun ob z => by obtain ⟨xs, h⟩ := n ob Fzo z; unfold Fzo at h; cases h)]; exact e⟩
theorem Rel.fz (R : Rel G ρ S H) (f : Free H C) : Rel G ρ S (fz H C) :=
  ⟨R.len, R.lt, R.nd, fun i a o hi hg => (R.obj i a o hi hg).mono (ch := none) (ext_fz f) (fun b u _ e => by rw [fz_ne (f.ne e)]; exact e) (fun _ z => by cases z) (fun _ _ _ _ z => by cases z) fun _ _ h => .inl h,
    R.tabs.ext fun b o e => by rw [fz_ne (f.ne e)]; exact e, R.one⟩
theorem KR.monoT {ρ' : List Addr} {H' : Hp} (x : ExtT ρ H ρ' H') : ∀ {kvs : List (AV × AV)} {ps : List (Key × V)}, KR G ρ H kvs ps → KR G ρ' H' kvs ps
  | [], _, h => h
  | (k, v) :: r, _, ⟨k', y, qs, e, hk, hv, hr⟩ => ⟨k', y, qs, e, hk, RV.monoT x v hv, KR.monoT x hr⟩
theorem KTR.monoT {ρ' : List Addr} {H' : Hp} (x : ExtT ρ H ρ' H') : ∀ {kvs : List (AV × AV)} {ps : List (List Key × V)}, KTR G ρ H kvs ps → KTR G ρ' H' kvs ps
  | [], _, h => h
  | (k, v) :: r, _, ⟨ks, k', y, qs, e, hk, hm, hv, hr⟩ => ⟨ks, k', y, qs, e, hk, hm, RV.monoT x v hv, KTR.monoT x hr⟩
theorem FR.monoT {ρ' : List Addr} {H' : Hp} (x : ExtT ρ H ρ' H') : ∀ {fs : List (Nat × AV)} {gs : List (Str × V)}, FR G ρ H fs gs → FR G ρ' H' fs gs
  | [], _, h => h
  | (n, v) :: r, _, ⟨y, hs, e, hv, hr⟩ => ⟨y, hs, e, RV.monoT x v hv, FR.monoT x hr⟩
theorem Rel.uz (R : Rel G ρ S H) (f : Held H C) : Rel G ρ S (uz H C) := by
  have x := extT_uz (ρ := ρ) f
  refine ⟨R.len, R.lt, R.nd, fun i a o hi hg => ?_, fun p hp => ?_, R.one⟩
  · have q := R.obj i a o hi hg
    cases o with
    | lst xs =>
      obtain ⟨vs, h1, h2⟩ := q
      exact ⟨vs, by rw [uz_ne (f.ne h1 fun _ z => by cases z)]; exact h1, RVs.monoT x xs h2⟩
    | dct kvs =>
      obtain ⟨ps, h1, h2⟩ := q
      exact ⟨ps, by rw [uz_ne (f.ne h1 fun _ z => by cases z)]; exact h1, h2.monoT x⟩
    | dtp kvs =>
      obtain ⟨ps, h1, h2⟩ := q
      exact ⟨ps, by rw [uz_ne (f.ne h1 fun _ z => by cases z)]; exact h1, h2.monoT x⟩
    | ldk kvs =>
      obtain ⟨ob, ps, h1, h2⟩ := q
      exact ⟨ob, ps, by rw [uz_ne (f.ne h1 fun _ z => by unfold Fzo at z; cases z)]; exact h1, h2.monoT x⟩
    | ins c fs =>
      obtain ⟨dx, gs, h1, h2⟩ := q
      exact ⟨dx, gs, by rw [uz_ne (f.ne h1 fun _ z => by cases z)]; exact h1, h2.monoT x⟩
    | cell v => trivial
    | strm c =>
      obtain ⟨l, ⟨d, m, xs, h1, h2, h3⟩, h4⟩ := q
      exact ⟨l, ⟨d, m, xs, by rw [uz_ne (f.ne h1 fun _ z => by cases z)]; exact h1, by rw [uz_ne (f.ne h2 fun _ z => by cases z)]; exact h2, h3⟩, h4⟩
  · obtain ⟨ps, h1, h2, h3⟩ := R.tabs p hp
    refine ⟨ps, by rw [uz_ne (f.ne h1 fun _ z => by cases z)]; exact h1, h2, fun pos cv hcv => ?_⟩
    obtain ⟨c, e1, e2⟩ := h3 pos cv hcv
    exact ⟨c, e1, by rw [uz_ne (f.ne e2 fun _ z => by unfold CodeO at z; cases z)]; exact e2⟩
/-- a later state of what was let go is a later state, once it is known again -/
theorem ext_back {ρ' : List Addr} {H' : Hp} (f : Held H C) (x : Ext ρ (uz H C) ρ' H') : Ext ρ H ρ' (Sh.fz H' C) := by
  refine ⟨x.pre, fun a o e i => ?_⟩
  cases q : C.lookup a with
  | some o' =>
    rw [f a o' q] at e
    cases e
    exact fz_at q
  | none =>
    rw [fz_ne q]
    exact x.imm a o (by rw [uz_ne q]; exact e) i
/-- a later state of what was known is a later state, once it is let go again -/
theorem ext_off {ρ' : List Addr} {H' : Hp} (f : Free H C) (x : Ext ρ (Sh.fz H C) ρ' H') : Ext ρ H ρ' (Sh.uz H' C) := by
  refine ⟨x.pre, fun a o e i => ?_⟩
  have q := f.ne e
  rw [uz_ne q]
  exact x.imm a o (by rw [fz_ne q]; exact e) i
end
end Sh

end

noncomputable section
namespace Sh
open PySem PySem.Spec PyProof.Rows L2
/-- a frame: its names by slot, the addresses of its cells, its scope -/
structure Fm where
  N : List Str
  cells : List (Str × Addr)
  sc : Scope
def CK (sc : Scope) (n : Str) : Prop := sc.names.lookup n = some .cell ∨ sc.names.lookup n = some .free
def nth : Lo → Nat → LV
  | [], _ => .u
  | x :: _, 0 => x
  | _ :: r, i + 1 => nth r i
def setL : Lo → Nat → LV → Lo
  | [], _, _ => []
  | _ :: r, 0, y => y :: r
  | x :: r, i + 1, y => x :: setL r i y
theorem nth_setL : ∀ (l : Lo) (i j : Nat) (y : LV), nth (setL l i y) j = if j = i ∧ i < l.length then y else nth l j
  | [], i, j, y => by simp [setL, nth]
  | x :: r, 0, 0, y => by simp [setL, nth]
  | x :: r, 0, j + 1, y => by simp [setL, nth]
  | x :: r, i + 1, 0, y => by simp [setL, nth]
  | x :: r, i + 1, j + 1, y => by simp [setL, nth, nth_setL r i j y]
theorem setL_len : ∀ (l : Lo) (i : Nat) (y : LV), (setL l i y).length = l.length
  | [], _, _ => rfl
  | _ :: _, 0, _ => rfl
  | _ :: r, i + 1, y => by simp [setL, setL_len r i y]
theorem nth_lt : ∀ {l : Lo} {i : Nat}, nth l i ≠ .u → i < l.length
  | [], _, h => absurd rfl h
  | _ :: _, 0, _ => Nat.succ_pos _
  | _ :: r, i + 1, h => Nat.succ_lt_succ (nth_lt (l := r) h)
/-- a local name's worth; a cell that has a number: its number's address is the cell's, the store tells nothing of it -/
def RLV (G : Gd) (F : Fm) (ρ : List Addr) (S : Sto) (H : Hp) (σ : L2.St) (i : Nat) : LV → Prop
  | .u => True
  | .v a => ∃ x, σ[i]? = some (some x) ∧ RV G ρ H a x
  | .c k a => (∃ x, σ[i]? = some (some x) ∧ RV G ρ H a x) ∧ S.get k = some (.cell none) ∧ ∃ n b, ρ[k]? = some b ∧ F.N[i]? = some n ∧ F.cells.lookup n = some b ∧ CK F.sc n
/-- a cell that is known, and that nobody changes for now -/
def Known (G : Gd) (ρ : List Addr) (H : Hp) (a : Addr) (v : AV) : Prop := ∃ o x u, H a = some (.frz o Fzo) ∧ o.data = .cell (some u) ∧ RelV x u ∧ RV G ρ H v x
theorem Known.mono {G : Gd} {ρ ρ' : List Addr} {H H' : Hp} {a : Addr} {v : AV} (x : Ext ρ H ρ' H') (h : Known G ρ H a v) : Known G ρ' H' a v := by
  obtain ⟨o, y, u, h1, h2, h3, h4⟩ := h
  exact ⟨o, y, u, x.imm _ _ h1 trivial, h2, h3, h4.mono x v⟩
/-- all cells that the store tells of are known -/
def AllKnown (G : Gd) (ρ : List Addr) (S : Sto) (H : Hp) : Prop := ∀ k a v, ρ[k]? = some a → S.get k = some (.cell (some v)) → Known G ρ H a v
structure Stt (G : Gd) (F : Fm) (ρ : List Addr) (S : Sto) (ls : Lo) (σ : L2.St) (H : Hp) : Prop where
  rel : Rel G ρ S H
  len : σ.length = ls.length
  loc : ∀ i, RLV G F ρ S H σ i (nth ls i)
  known : AllKnown G ρ S H
  one : ∀ i j k a b, nth ls i = .c k a → nth ls j = .c k b → i = j
section
variable {G : Gd} {F : Fm} {ρ ρ' : List Addr} {S S' : Sto} {ls : Lo} {σ : L2.St} {H H' : Hp}
theorem RLV.mono (x : Ext ρ H ρ' H') {i : Nat} {l : LV} (hd : ∀ k b, ρ[k]? = some b → S.get k = some (.cell none) → S'.get k = some (.cell none)) (h : RLV G F ρ S H σ i l) : RLV G F ρ' S' H' σ i l := by
  cases l with
  | u => trivial
  | v a =>
    obtain ⟨y, h1, h2⟩ := h
    exact ⟨y, h1, h2.mono x a⟩
  | c k a =>
    obtain ⟨⟨y, h1, h2⟩, h3, n, b, h4, h5⟩ := h
    exact ⟨⟨y, h1, h2.mono x a⟩, hd k b h4 h3, n, b, x.at h4, h5⟩
/-- the store has grown or changed -/
theorem Stt.with (T : Stt G F ρ S ls σ H) (x : Ext ρ H ρ' H') (R : Rel G ρ' S' H') (K : AllKnown G ρ' S' H') (hd : ∀ k b, ρ[k]? = some b → S.get k = some (.cell none) → S'.get k = some (.cell none)) : Stt G F ρ' S' ls σ H' :=
  ⟨R, T.len, fun i => (T.loc i).mono x hd, K, T.one⟩
theorem Stt.side (T : Stt G F ρ S ls σ H) {p : Addr} {o : HO} (hp : H p = none) : Stt G F ρ S ls σ (upd H p o) ∧ Ext ρ H ρ (upd H p o) := by
  obtain ⟨R, x⟩ := T.rel.side (o := o) hp
  exact ⟨T.with x R (fun k a v h g => (T.known k a v h g).mono x) fun _ _ _ g => g, x⟩
theorem Stt.lt (T : Stt G F ρ S ls σ H) {k : Nat} {a : Addr} (h : ρ[k]? = some a) : k < S.n := by
  have := (List.getElem?_eq_some_iff.mp h).1
  rw [T.rel.len] at this
  exact this
/-- one more in the store -/
theorem Stt.grow (T : Stt G F ρ S ls σ H) {p : Addr} {ao : AO} (hc : ∀ v, ao ≠ .cell (some v)) (x : Ext ρ H (ρ ++ [p]) H') (R : Rel G (ρ ++ [p]) (S.new ao) H') : Stt G F (ρ ++ [p]) (S.new ao) ls σ H' := by
  refine T.with x R (fun k a v h g => ?_) fun k b h g => ?_
  · have hlt : k < (ρ ++ [p]).length := (List.getElem?_eq_some_iff.mp h).1
    rw [List.length_append, List.length_singleton, T.rel.len] at hlt
    rw [Sto.get_new (small40 T.rel.lt) (small40 (Nat.le_trans (Nat.le_of_lt_succ hlt) T.rel.lt))] at g
    by_cases e : k = S.n
    · rw [if_pos e] at g
      exact absurd (Option.some.inj g) (hc _)
    · rw [if_neg e] at g
      rcases get_app h with q | ⟨q, _⟩
      · exact (T.known k a v q g).mono x
      · rw [T.rel.len] at q
        exact absurd q e
  · have hlt := T.lt h
    rw [Sto.get_new (small40 T.rel.lt) (small40 (Nat.le_trans (Nat.le_of_lt hlt) T.rel.lt)), if_neg (by omega)]
    exact g
theorem Stt.new (T : Stt G F ρ S ls σ H) {p : Addr} {o : HO} {ao : AO} (hs : S.ok = true) (hp : H p = none) (hc : ao.isCell = false) (ho : OR G (ρ ++ [p]) (upd H p o) p ao) (hns : ao.isStrm = false := by rfl) :
    Stt G F (ρ ++ [p]) (S.new ao) ls σ (upd H p o) ∧ Ext ρ H (ρ ++ [p]) (upd H p o) := by
  obtain ⟨R, x⟩ := T.rel.new hs hp hc ho hns
  exact ⟨T.grow (fun v z => by rw [z] at hc; cases hc) x R, x⟩
/-- something new that is no cell, laid by a rule of its own -/
theorem Stt.newC (T : Stt G F ρ S ls σ H) {p : Addr} {ao : AO} (hs : S.ok = true) (hc : ∀ v, ao ≠ .cell v) (x : Ext ρ H (ρ ++ [p]) H') (R : Rel G (ρ ++ [p]) (S.new ao) H') : Stt G F (ρ ++ [p]) (S.new ao) ls σ H' :=
  T.grow (fun v => hc _) x R
theorem Stt.upd (T : Stt G F ρ S ls σ H) {i : Nat} {a : Addr} {o₀ o : HO} {ao₀ ao : AO} (hi : ρ[i]? = some a) (hg : S.get i = some ao₀) (h0 : H a = some o₀) (hm : ¬ Imm o₀) (ht : ∀ ps, o₀ ≠ .tbl ps) (hc₀ : ao₀.isCell = false) (hc : ao.isCell = false)
    (ho : Ext ρ H ρ (L2.upd H a o) → OR G ρ (L2.upd H a o) a ao) (hns : ao.isStrm = false := by rfl) : Stt G F ρ (S.put i ao) ls σ (L2.upd H a o) ∧ Ext ρ H ρ (L2.upd H a o) := by
  obtain ⟨R, x⟩ := T.rel.upd hi hg h0 hm ht hc₀ hc ho hns
  refine ⟨T.with x R (fun k b v h g => ?_) fun k b h g => ?_, x⟩
  · rw [Sto.get_put (T.rel.ilt hi) (T.rel.ilt h)] at g
    by_cases e : k = i
    · rw [if_pos e] at g
      cases g
      cases hc
    · rw [if_neg e] at g
      exact (T.known k b v h g).mono x
  · rw [Sto.get_put (T.rel.ilt hi) (T.rel.ilt h)]
    by_cases e : k = i
    · rw [e, hg] at g
      cases g
      cases hc₀
    · rw [if_neg e]
      exact g
/-- a local name is stored; a number that its cell had is given up -/
theorem Stt.set (T : Stt G F ρ S ls σ H) {i : Nat} {a : AV} {x : V} (hi : i < ls.length) (r : RV G ρ H a x) : Stt G F ρ S (setL ls i (.v a)) (σ.set i (some x)) H := by
  have es : ∀ {j : Nat}, j ≠ i → (σ.set i (some x))[j]? = σ[j]? := fun {j} e => List.getElem?_set_ne (Ne.symm e)
  have back : ∀ {j k : Nat} {b : AV}, nth (setL ls i (.v a)) j = .c k b → nth ls j = .c k b := fun {j k b} h => by
    rw [nth_setL] at h
    by_cases e : j = i
    · rw [if_pos ⟨e, hi⟩] at h
      cases h
    · rw [if_neg (fun z => e z.1)] at h
      exact h
  refine ⟨T.rel, by rw [List.length_set, setL_len]; exact T.len, fun j => ?_, T.known, fun j j' k b b' h h' => T.one j j' k b b' (back h) (back h')⟩
  rw [nth_setL]
  by_cases e : j = i
  · subst e
    rw [if_pos ⟨rfl, hi⟩]
    exact ⟨x, by rw [List.getElem?_set_self (by rw [T.len]; exact hi)], r⟩
  · rw [if_neg (fun z => e z.1)]
    have h := T.loc j
    cases q : nth ls j with
    | u => trivial
    | v b => rw [q] at h; unfold RLV at h ⊢; rw [es e]; exact h
    | c k b => rw [q] at h; unfold RLV at h ⊢; rw [es e]; exact h
end
/-! ### the frame's own cells told of for a while -/
def noC : Lo → Bool
  | [] => true
  | .c _ _ :: _ => false
  | _ :: r => noC r
theorem noC_nth : ∀ {ls : Lo}, noC ls = true → ∀ i k a, nth ls i ≠ .c k a
  | [], _, _, _, _ => fun z => by cases z
  | .c _ _ :: _, h, _, _, _ => by cases h
  | .u :: r, h, 0, _, _ => fun z => by cases z
  | .v _ :: r, h, 0, _, _ => fun z => by cases z
  | .u :: r, h, i + 1, k, a => noC_nth (ls := r) h i k a
  | .v _ :: r, h, i + 1, k, a => noC_nth (ls := r) h i k a
def told : Lo → List (Nat × AV)
  | [] => []
  | .c k a :: r => (k, a) :: told r
  | _ :: r => told r
theorem told_mem : ∀ {ls : Lo} {k : Nat} {a : AV}, (k, a) ∈ told ls ↔ ∃ i, nth ls i = .c k a
  | [], k, a => ⟨fun h => (by cases h), fun ⟨i, h⟩ => (by cases h)⟩
  | .c k' a' :: r, k, a => by
    unfold told
    rw [List.mem_cons, told_mem (ls := r)]
    constructor
    · rintro (e | ⟨i, e⟩)
      · cases e; exact ⟨0, rfl⟩
      · exact ⟨i + 1, e⟩
    · rintro ⟨i, e⟩
      cases i with
      | zero => have e : LV.c k' a' = .c k a := e; cases e; exact .inl rfl
      | succ i => exact .inr ⟨i, e⟩
  | .u :: r, k, a => by
    unfold told
    rw [told_mem (ls := r)]
    constructor
    · rintro ⟨i, e⟩; exact ⟨i + 1, e⟩
    · rintro ⟨i, e⟩
      cases i with
      | zero => cases e
      | succ i => exact ⟨i, e⟩
  | .v _ :: r, k, a => by
    unfold told
    rw [told_mem (ls := r)]
    constructor
    · rintro ⟨i, e⟩; exact ⟨i + 1, e⟩
    · rintro ⟨i, e⟩
      cases i with
      | zero => cases e
      | succ i => exact ⟨i, e⟩
def onL (ls : Lo) (S : Sto) : Sto := putC ((told ls).map fun p => (p.1, some p.2)) S
def allLive (S : Sto) : List (Nat × AV) → Bool
  | [] => true
  | (k, _) :: r => match S.get k with
    | some (.cell (some _)) => allLive S r
    | _ => false
theorem allLive_at {S : Sto} : ∀ {l : List (Nat × AV)} {k : Nat} {a : AV}, allLive S l = true → (k, a) ∈ l → ∃ v, S.get k = some (.cell (some v))
  | [], _, _, _, h =>
        by cases h
  | (k', a') :: r, k, a, h, m => by
    unfold allLive at h
    split at h
    · rename_i v q
      rcases List.mem_cons.mp m with e | m
      · cases e; exact ⟨v, q⟩
      · exact allLive_at h m
    · cases h
def offL (ls : Lo) (S : Sto) : Option Sto := match allLive S (told ls) with
  | true => some (putC ((told ls).map fun p => (p.1, none)) S)
  | false => none
theorem mem_lookup' {α : Type} : ∀ {l : List (Nat × α)} {k : Nat} {c : α}, (k, c) ∈ l → ∃ c', l.lookup k = some c'
  | (q, v) :: r, k, c, h => by
    rw [List.lookup_cons]
    by_cases e : k = q
    · subst e; simp
    · have e2 : (k == q) = false := by simpa using e
      rw [e2]
      rcases
            List.mem_cons.mp h with z | z
      · cases z; exact absurd rfl e
      · exact mem_lookup' z
theorem lookup_mem' {α : Type} : ∀ {l : List (Nat × α)} {k : Nat} {c : α}, l.lookup k = some c → (k, c) ∈ l
  | (q, v) :: r, k, c, h => by
    rw [List.lookup_cons] at h
    by_cases e : k = q
    · subst e; simp at h; subst h; exact List.mem_cons_self
    · have e2 : (k == q) = false := by simpa using e
      rw [e2] at h
      exact List.mem_cons_of_mem _ (lookup_mem' h)
theorem look_told {ls : Lo} {f : AV → Option AV} (one : ∀ i j k a b, nth ls i = .c k a → nth ls j = .c k b → i = j) {j : Nat} :
    (∃ i a, nth ls i = .c j a ∧ ((told ls).map fun p => (p.1, f p.2)).lookup j = some (f a)) ∨ ((∀ i a, nth ls i ≠ .c j a) ∧ ((told ls).map fun p => (p.1, f p.2)).lookup j = none) := by
  cases q : ((told ls).map fun p => (p.1, f p.2)).lookup j with
  | none =>
    refine .inr ⟨fun i a e => ?_, rfl⟩
    have m := told_mem.mpr ⟨i, e⟩
    have m2 : (j, f a) ∈ (told ls).map fun p => (p.1, f p.2) := List.mem_map.mpr ⟨(j, a), m, rfl⟩
    obtain ⟨c', e'⟩ := mem_lookup' m2
    rw [q] at e'
    cases e'
  | some v =>
    have m := lookup_mem' q
    obtain ⟨⟨k, a⟩, m1, e⟩ := List.mem_map.mp m
    cases e
    obtain ⟨i, hi⟩ := told_mem.mp m1
    exact .inl ⟨i, a, hi, rfl⟩
/-- the objects of the frame's told cells -/
def CFr (F : Fm) (ls : Lo) (σ : L2.St) (C : Cs) : Prop :=
  (∀ b o, C.lookup b = some o → ∃ (i k : Nat) (a : AV) (n : Str), nth ls i = .c k a ∧ F.N[i]? = some n ∧ F.cells.lookup n = some b) ∧
  (∀ (i k : Nat) (a : AV) (n : Str) (b : Addr), nth ls i = .c k a → F.N[i]? = some n → F.cells.lookup n = some b → ∃ o x u, C.lookup b = some o ∧ σ[i]? = some (some x) ∧ o.data = .cell (some u) ∧ RelV x u) ∧
  ∀ (i j : Nat) (n m : Str) (b : Addr), F.N[i]? = some n → F.N[j]? = some m → F.cells.lookup n = some b → F.cells.lookup m = some b → i = j
section
variable {G : Gd} {F : Fm} {ρ ρ' : List Addr} {S S' S2 : Sto} {ls : Lo} {σ : L2.St} {H H' : Hp} {C : Cs}
theorem Stt.c_at (T : Stt G F ρ S ls σ H) {i k : Nat} {a : AV} (e : nth ls i = .c k a) : (∃ x, σ[i]? = some (some x) ∧ RV G ρ H a x) ∧ S.get k = some (.cell none) ∧ ∃ n b, ρ[k]? = some b ∧ F.N[i]? = some n ∧ F.cells.lookup n = some b ∧ CK F.sc n := by
  have z := T.loc i
  rw [e] at z
  exact z
theorem Stt.told_lt (T : Stt G F ρ S ls σ H) {f : AV → Option AV} : ∀ p ∈ (told ls).map fun p => (p.1, f p.2), p.1 < 2 ^ depth := fun p hp => by
  obtain ⟨⟨k, a⟩, m, e⟩ := List.mem_map.mp hp
  obtain ⟨i, hi⟩ := told_mem.mp m
  obtain ⟨_, _, n, b, h, _⟩ := T.c_at hi
  rw [← e]
  exact T.rel.ilt h
/-- told of: the call's state -/
theorem Stt.on (T : Stt G F ρ S ls σ H) (f : Free H C) (cf : CFr F ls σ C) : Rel G ρ (onL ls S) (fz H C) ∧ AllKnown G ρ (onL ls S) (fz H C) := by
  have gp : ∀ {j : Nat} {b : Addr}, ρ[j]? = some b → (∃ i a, nth ls i = .c j a ∧ (onL ls S).get j = some (.cell (some a))) ∨ ((∀ i a, nth ls i ≠ .c j a) ∧ (onL ls S).get j = S.get j) := fun {j b} h => by
    unfold onL
    rw [get_putC (T.rel.ilt h) T.told_lt]
    rcases look_told (f := some) T.one (j := j) with ⟨i, a, e, q⟩ | ⟨e, q⟩
    · rw [q]; exact .inl ⟨i, a, e, rfl⟩
    · rw [q]; exact .inr ⟨e, rfl⟩
  have x := ext_fz (ρ := ρ) f
  have own : ∀ {j i : Nat} {a : AV} {b : Addr}, ρ[j]? = some b → nth ls i = .c j a → ∃ o y u, C.lookup b = some o ∧ σ[i]? = some (some y) ∧ o.data = .cell (some u) ∧ RelV y u ∧ RV G ρ H a y := fun {j i a b} h e => by
    obtain ⟨⟨y, h1, h2⟩, _, n, b', h3, h4, h5, _⟩ := T.c_at e
    rw [h] at h3
    cases h3
    obtain ⟨o, y', u, c1, c2, c3, c4⟩ := cf.2.1 i j a n b e h4 h5
    rw [h1] at c2
    cases c2
    exact ⟨o, y, u, c1, h1, c3, c4, h2⟩
  have kn : ∀ {j : Nat} {b : Addr} {v : AV}, ρ[j]? = some b → (∀ i a, nth ls i ≠ .c j a) → S.get j = some (.cell (some v)) → C.lookup b = none := fun {j b v} h e g => by
    obtain ⟨o, _, _, h1, _⟩ := T.known j b v h g
    exact f.ne h1
  refine ⟨Rel.recell (T.rel.fz f) (putC_n _ _) (fun j b h => ?_) fun i j b v w hi hj gi gj => ?_, fun j b v h g => ?_⟩
  · rcases gp h with ⟨i, a, e, g⟩ | ⟨_, g⟩
    · exact .inr ⟨⟨_, (T.c_at e).2.1⟩, _, g⟩
    · exact .inl g
  · rcases gp hi with ⟨i1, a1, e1, g1⟩ | ⟨e1, g1⟩
    · obtain ⟨_, _, n1, b1, r1, n1e, c1, _⟩ := T.c_at e1
      rw [hi] at r1; cases r1
      rcases gp hj with ⟨i2, a2, e2, g2⟩ | ⟨e2, g2⟩
      · obtain ⟨o1, y1, u1, l1, s1, d1, rl1, rv1⟩ := own hi e1
        obtain ⟨_, _, n2, b2, r2, n2e, c2, _⟩ := T.c_at e2
        rw [hj] at r2; cases r2
        have z := cf.2.2 i1 i2 n1 n2 b n1e n2e c1 c2
        rw [z, e2] at e1
        cases e1
        rfl
      · rw [g2] at gj
        obtain ⟨o, y, u, l, _⟩ := own hi e1
        rw [kn hj e2 gj] at l
        cases l
    · rw [g1] at gi
      rcases gp hj with ⟨i2, a2, e2, g2⟩ | ⟨e2, g2⟩
      · obtain ⟨o, y, u, l, _⟩ := own hj e2
        rw [kn hi e1 gi] at l
        cases l
      · rw [g2] at gj
        exact T.rel.nd i j b _ _ hi hj gi gj rfl (fun z => by cases z) fun z => by cases z
  · rcases gp h with ⟨i, a, e, g'⟩ | ⟨e, g'⟩
    · rw [g] at g'
      cases g'
      obtain ⟨o, y, u, l, _, d, rl, rv⟩ := own h e
      exact ⟨o, y, u, fz_at l, d, rl, rv.mono x _⟩
    · rw [g'] at g
      exact (T.known j b v h g).mono x
/-- behind the call: nothing is told of the frame's own cells again -/
theorem Stt.off (T : Stt G F ρ S ls σ H) (f : Free H C) (cf : CFr F ls σ C) (x : Ext ρ (fz H C) ρ' H') (hf : Held H' C) (R : Rel G ρ' S' H') (K : AllKnown G ρ' S' H') (q : offL ls S' = some S2) :
    Stt G F ρ' S2 ls σ (uz H' C) ∧ Ext ρ H ρ' (uz H' C) := by
  have y : Ext ρ H ρ' (uz H' C) := ext_off f x
  have xT := extT_uz (ρ := ρ') hf
  unfold offL at q
  split at q
  · rename_i live
    cases q
    have tl : ∀ p ∈ (told ls).map fun p => (p.1, (none : Option AV)), p.1 < 2 ^ depth := T.told_lt (f := fun _ => none)
    have gp : ∀ {j : Nat} {b : Addr}, ρ'[j]? = some b → (∃ i a, nth ls i = .c j a ∧ (putC ((told ls).map fun p => (p.1, none)) S').get j = some (.cell none)) ∨ ((∀ i a, nth ls i ≠ .c j a) ∧ (putC ((told ls).map fun p => (p.1, none)) S').get j = S'.get j) := fun {j b} h => by
      rw [get_putC (R.ilt h) tl]
      rcases look_told (f := fun _ => none) T.one (j := j) with ⟨i, a, e, q⟩ | ⟨e, q⟩
      · rw [q]; exact .inl ⟨i, a, e, rfl⟩
      · rw [q]; exact .inr ⟨e, rfl⟩
    have lv : ∀ {i j : Nat} {a : AV}, nth ls i = .c j a → ∃ v, S'.get j = some (.cell (some v)) := fun {i j a} e => allLive_at live (told_mem.mpr ⟨i, e⟩)
    have Rz := R.uz hf
    have K2 : AllKnown G ρ' (putC ((told ls).map fun p => (p.1, none)) S') (uz H' C) := fun j b v h g => by
      rcases gp h with ⟨i, a, e, g'⟩ | ⟨e, g'⟩
      · rw [g] at g'; cases g'
      · rw [g'] at g
        obtain ⟨o, z, u, h1, h2, h3, h4⟩ := K j b v h g
        refine ⟨o, z, u, ?_, h2, h3, RV.monoT xT v h4⟩
        rw [uz_ne]
        · exact h1
        · cases q : C.lookup b with
          | none => rfl
          | some o' =>
            obtain ⟨i, k, a, n, c1, c2, c3⟩ := cf.1 b o' q
            obtain ⟨_, _, n', b', r1, r2, r3, _⟩ := T.c_at c1
            rw [c2] at r2; cases r2
            rw [c3] at r3; cases r3
            obtain ⟨v', lk⟩ := lv c1
            have e' := R.nd j k b _ _ h (x.at r1) g lk rfl (fun z => by cases z) fun z => by cases z
            subst e'
            exact absurd c1 (e i a)
    refine ⟨⟨Rel.recell Rz (putC_n _ _) (fun j b h => ?_) fun i j b v w hi hj gi gj => ?_, T.len, fun i => ?_, K2, T.one⟩, y⟩
    · rcases gp h with ⟨i, a, e, g⟩ | ⟨_, g⟩
      · obtain ⟨v, lk⟩ := lv e
        exact .inr ⟨⟨_, lk⟩, _, g⟩
      · exact .inl g
    · rcases gp hi with ⟨_, _, _, g1⟩ | ⟨_, g1⟩
      · rw [gi] at g1; cases g1
      · rcases gp hj with ⟨_, _, _, g2⟩ | ⟨_, g2⟩
        · rw [gj] at g2; cases g2
        · rw [g1] at gi
          rw [g2] at gj
          exact R.nd i j b _ _ hi hj gi gj rfl (fun z => by cases z) fun z => by cases z
    · have z := T.loc i
      cases e : nth ls i with
      | u => trivial
      | v a =>
        rw [e] at z
        obtain ⟨w, h1, h2⟩ := z
        exact ⟨w, h1, h2.mono y a⟩
      | c k a =>
        obtain ⟨⟨w, h1, h2⟩, _, n, b, h3, h4⟩ := T.c_at e
        refine ⟨⟨w, h1, h2.mono y a⟩, ?_, n, b, y.at h3, h4⟩
        rcases gp (y.at h3) with ⟨_, _, _, g⟩ | ⟨g, _⟩
        · exact g
        · exact absurd e (g i a)
  · cases q
/-- no cell has a number: any frame's -/
theorem Stt.any {F' : Fm} (T : Stt G F ρ S ls σ H) (hn : noC ls = true) : Stt G F' ρ S ls σ H :=
  ⟨T.rel, T.len, fun i => by
    have z := T.loc i
    cases q : nth ls i with
    | u => trivial
    | v a => rw [q] at z; exact z
    | c k a => exact absurd q (noC_nth hn i k a), T.known, T.one⟩
end
/-! ### readings -/
def RE (G : Gd) (ρ : List Addr) (H : Hp) (e : AE) (cls : Value) (d : Option Addr) : Prop :=
  cls = .ref (G.ca e.c) ∧ match e.fs with
    | [] => d = none
    | fs => ∃ a gs, d = some a ∧ H a = some (.xd gs) ∧ FR G ρ H fs gs
section
variable (G : Gd) (F : Fm) (W : WX)
def PostX (ρ : List Addr) (H : Hp) : AE → Lo → Sto → Prop := fun e L S' => ∀ ρ' H' σ', Ext ρ H ρ' H' → Stt G F ρ' S' L σ' H' → ∀ cls d, RE G ρ' H' e cls d → W cls d σ' H'
def PostV (ρ : List Addr) (ls : Lo) (σ : L2.St) (H : Hp) (Q : VK) : AV → Sto → Prop := fun v S' => ∀ ρ' H', Ext ρ H ρ' H' → Stt G F ρ' S' ls σ H' → ∀ x, RV G ρ' H' v x → Q x H'
def PostA (ρ : List Addr) (ls : Lo) (σ : L2.St) (H : Hp) (Q : List V → Hp → Prop) : List AV → Sto → Prop := fun vs S' => ∀ ρ' H', Ext ρ H ρ' H' → Stt G F ρ' S' ls σ H' → ∀ xs, RVs G ρ' H' vs xs → Q xs H'
def PostB (ρ : List Addr) (ls : Lo) (σ : L2.St) (H : Hp) (Q : Bool → Hp → Prop) : Bool → Sto → Prop := fun b S' => ∀ ρ' H', Ext ρ H ρ' H' → Stt G F ρ' S' ls σ H' → Q b H'
def PostS (ρ : List Addr) (H : Hp) (D : Ends) : Fl × Lo → Sto → Prop := fun r S' => ∀ ρ' H' σ', Ext ρ H ρ' H' → Stt G F ρ' S' r.2 σ' H' → match r.1 with
  | .nx => D.nx σ' H'
  | .br => D.bk σ' H'
  | .ct => D.ct σ' H'
  | .rt v => ∀ x, RV G ρ' H' v x → D.rt x H'
def tE (m : EM) : TE := fun σ H Q => ∃ ρ S ls, Stt G F ρ S ls σ H ∧ (m ls S).Sat (PostV G F ρ ls σ H Q) (PostX G F W ρ H)
def tA (m : AM) : TA := fun σ H Q => ∃ ρ S ls, Stt G F ρ S ls σ H ∧ (m ls S).Sat (PostA G F ρ ls σ H Q) (PostX G F W ρ H)
def tT (m : Lo → Sto → Out Bool) : TT := fun σ H Q => ∃ ρ S ls, Stt G F ρ S ls σ H ∧ (m ls S).Sat (PostB G F ρ ls σ H Q) (PostX G F W ρ H)
def tS (m : SM) : TS := fun D σ H => ∃ ρ S ls, Stt G F ρ S ls σ H ∧ (m ls S).Sat (PostS G F ρ H D) (PostX G F W ρ H)
end
theorem PE_imp {X : Cx} {e : Expr} {t t' : TE} (h : PE X e t) (i : ∀ σ H Q, t' σ H Q → t σ H Q) : PE X e t' := ⟨fun pins s σ H Q I q => h.run pins s σ H Q I (i σ H Q q)⟩
theorem PT_imp {X : Cx} {e : Expr} {t t' : TT} (h : PT X e t) (i : ∀ σ H Q, t' σ H Q → t σ H Q) : PT X e t' := ⟨fun pins s σ H Q I q => h.run pins s σ H Q I (i σ H Q q)⟩
theorem PA_imp {X : Cx} {e : List Expr} {t t' : TA} (h : PA X e t) (i : ∀ σ H Q, t' σ H Q → t σ H Q) : PA X e t' := ⟨fun pos pins s σ H Q I q => h.run pos pins s σ H Q I (i σ H Q q)⟩
theorem PS_imp {X : Cx} {e : Stmt} {t t' : TS} (h : PS X e t) (i : ∀ D σ H, t' D σ H → t D σ H) : PS X e t' := ⟨fun pins s σ H D I q => h.run pins s σ H D I (i D σ H q)⟩
theorem PSs_imp {X : Cx} {e : List Stmt} {t t' : TS} (h : PSs X e t) (i : ∀ D σ H, t' D σ H → t D σ H) : PSs X e t' := ⟨fun pins s σ H D I q => h.run pins s σ H D I (i D σ H q)⟩
section
variable {G : Gd} {F : Fm} {W : WX} {ρ ρ' : List Addr} {H H' : Hp} {ls : Lo} {σ : L2.St}
theorem PostX.ext (x : Ext ρ H ρ' H') {e : AE} {L : Lo} {S : Sto} (h : PostX G F W ρ H e L S) : PostX G F W ρ' H' e L S := fun ρ2 H2 σ2 y => h ρ2 H2 σ2 (x.trans y)
theorem PostV.ext (x : Ext ρ H ρ' H') {Q : VK} {v : AV} {S : Sto} (h : PostV G F ρ ls σ H Q v S) : PostV G F ρ' ls σ H' Q v S := fun ρ2 H2 y => h ρ2 H2 (x.trans y)
/-- one expression, then the rest -/
theorem tE_seq {m : EM} {Q : VK} (f : AV → Sto → Prop) {ρ : List Addr} {S : Sto} (T : Stt G F ρ S ls σ H) (h : (m ls S).Sat f (PostX G F W ρ H))
    (k : ∀ v S' ρ' H' x, f v S' → Ext ρ H ρ' H' → Stt G F ρ' S' ls σ H' → RV G ρ' H' v x → Q x H') : tE G F W m σ H Q :=
  ⟨ρ, S, ls, T, Out.sat_mono (fun v S' q ρ' H' x T' y r => k v S' ρ' H' y q x T' r) (fun _ _ _ q => q) h⟩
end
end Sh

end

noncomputable section
namespace Sh
open PySem PySem.Spec PyProof.Rows L2
abbrev fm (X : Cx) : Fm := ⟨X.N, X.env.cells, X.env.scope⟩
abbrev F0 : Fm := ⟨[], [], ⟨.function, [], false, false, []⟩⟩
section
variable {X : Cx} {F : Fm} {G : Gd} {W : WX} {a b c e : Expr} {es : List Expr} {ma mb mc : EM} {pos : Pos}
/-! ### names, constants -/
def mVar (i : Nat) : EM := fun ls S => match nth ls i with
  | .v a => .ok a S
  | .c _ a => .ok a S
  | .u => .bad
theorem me_var (i : Nat) {x : Str} (hN : X.N[i]? = some x := by rfl) (hv : Vis X.env.scope x := by first | exact Or.inl rfl | exact Or.inr (Or.inl rfl) | exact Or.inr (Or.inr rfl)) (hd : (x == ("__debug__" : Str)) = false := by decide)
    (hcd : (x == ("__classdict__" : Str)) = false := by decide) : PE X (.Name x pos) (tE G F W (mVar i)) := by
  refine PE_imp (pe_var hN hv hd hcd) fun σ H Q ⟨ρ, S, ls, T, h⟩ => ?_
  have l := T.loc i
  unfold mVar at h
  cases q : nth ls i with
  | u => rw [q] at h; exact h.elim
  | v a =>
    rw [q] at h l
    obtain ⟨x, h1, r⟩ := l
    exact ⟨x, h1, h ρ H (Ext.refl _ _) T x r⟩
  | c k a =>
    rw [q] at h l
    obtain ⟨⟨x, h1, r⟩, _⟩ := l
    exact ⟨x, h1, h ρ H (Ext.refl _ _) T x r⟩
def mC (a : AV) : EM := fun _ S => .ok a S
theorem tC_of {F : Fm} {a : AV} {v : V} (r : ∀ ρ H, RV G ρ H a v) {σ : L2.St} {H : Hp} {Q : VK} (h : tE G F W (mC a) σ H Q) : tC v σ H Q := by
  obtain ⟨ρ, S, ls, T, h⟩ := h
  exact h ρ H (Ext.refl _ _) T v (r ρ H)
theorem me_int {i : Int} {j} : PE X (.Constant (.int i) j pos) (tE G F W (mC (.int i))) := PE_imp pe_int fun _ _ _ h => tC_of (fun _ _ => by unfold RV; rfl) h
theorem me_bl {b : Bool} {j} : PE X (.Constant (.bool b) j pos) (tE G F W (mC (.bl b))) := PE_imp pe_bl fun _ _ _ h => tC_of (fun _ _ => by unfold RV; rfl) h
theorem me_non {j} : PE X (.Constant .none j pos) (tE G F W (mC .non)) := PE_imp pe_non fun _ _ _ h => tC_of (fun _ _ => by unfold RV; rfl) h
theorem me_str {x : Str} {j} (s : List Nat) (hx : x = toS s := by rfl) : PE X (.Constant (.str x) j pos) (tE G F W (mC (.str s))) := PE_imp pe_str fun _ _ _ h => tC_of (fun _ _ => by unfold RV; rw [hx]) h
/-- a def, a class, a constant of the text -/
theorem me_glob {x : Str} {av : AV} {v : V} {u : Value} (hg : Gl X x) (hm : X.mg x = some u) (r : RelV v u) (rv : ∀ ρ H, RV G ρ H av v) (hd : (x == ("__debug__" : Str)) = false := by decide) : PE X (.Name x pos) (tE G F W (mC av)) :=
  PE_imp (pe_glob hg hm r hd) fun _ _ _ h => tC_of rv h
/-! ### argument lists, displays -/
def mNil : AM := fun _ S => .ok [] S
def mCons (e : EM) (r : AM) : AM := fun ls S => (e ls S).bind fun x S1 => (r ls S1).bind fun xs S2 => .ok (x :: xs) S2
theorem ma_nil : PA X [] (tA G F W mNil) := PA_imp pa_nil fun σ H Q ⟨ρ, S, ls, T, h⟩ => h ρ H (Ext.refl _ _) T [] (by unfold RVs; rfl)
/-- two readings in a row -/
theorem tE_bind {F : Fm} {σ : L2.St} {H : Hp} {ρ : List Addr} {S : Sto} {ls : Lo} {α : Type} {m : EM} {f : AV → Sto → Out α} {P : α → Sto → Prop} {Q : VK} (T : Stt G F ρ S ls σ H) (h : ((m ls S).bind f).Sat P (PostX G F W ρ H))
    (k : ∀ v S' ρ' H' x, (f v S').Sat P (PostX G F W ρ' H') → Ext ρ H ρ' H' → Stt G F ρ' S' ls σ H' → RV G ρ' H' v x → Q x H') : tE G F W m σ H Q := by
  refine tE_seq (fun v S' => (f v S').Sat P (PostX G F W ρ H)) T (Out.sat_bind.mp h) fun v S' ρ' H' x q y T' r => ?_
  exact k v S' ρ' H' x (Out.sat_mono (fun _ _ z => z) (fun _ _ _ z => z.ext y) q) y T' r
theorem tA_bind {F : Fm} {σ : L2.St} {H : Hp} {ρ : List Addr} {S : Sto} {ls : Lo} {α : Type} {m : AM} {f : List AV → Sto → Out α} {P : α → Sto → Prop} {Q : List V → Hp → Prop} (T : Stt G F ρ S ls σ H) (h : ((m ls S).bind f).Sat P (PostX G F W ρ H))
    (k : ∀ v S' ρ' H' x, (f v S').Sat P (PostX G F W ρ' H') → Ext ρ H ρ' H' → Stt G F ρ' S' ls σ H' → RVs G ρ' H' v x → Q x H') : tA G F W m σ H Q := by
  refine ⟨ρ, S, ls, T, Out.sat_mono (fun v S' q ρ' H' y T' x r => ?_) (fun _ _ _ q => q) (Out.sat_bind.mp h)⟩
  exact k v S' ρ' H' x (Out.sat_mono (fun _ _ z => z) (fun _ _ _ z => z.ext y) q) y T' r
theorem tT_bind {F : Fm} {σ : L2.St} {H : Hp} {ρ : List Addr} {S : Sto} {ls : Lo} {α : Type} {m : Lo → Sto → Out Bool} {f : Bool → Sto → Out α} {P : α → Sto → Prop} {Q : Bool → Hp → Prop} (T : Stt G F ρ S ls σ H) (h : ((m ls S).bind f).Sat P (PostX G F W ρ H))
    (k : ∀ v S' ρ' H', (f v S').Sat P (PostX G F W ρ' H') → Ext ρ H ρ' H' → Stt G F ρ' S' ls σ H' → Q v H') : tT G F W m σ H Q := by
  refine ⟨ρ, S, ls, T, Out.sat_mono (fun v S' q ρ' H' y T' => ?_) (fun _ _ _ q => q) (Out.sat_bind.mp h)⟩
  exact k v S' ρ' H' (Out.sat_mono (fun _ _ z => z) (fun _ _ _ z => z.ext y) q) y T'
theorem ma_cons {mr : AM} (ha : PE X e (tE G F W ma)) (hr : PA X es (tA G F W mr)) (hs : starEach (e :: es) X.env = (false, eval e X.env) :: starEach es X.env := by rfl) : PA X (e :: es) (tA G F W (mCons ma mr)) := by
  refine PA_imp (pa_cons ha hr hs) fun σ H Q ⟨ρ, S, ls, T, h⟩ => ?_
  refine tE_bind T h fun v S1 ρ1 H1 x h1 x1 T1 r1 => ?_
  refine tA_bind T1 h1 fun vs S2 ρ2 H2 xs h2 x2 T2 r2 => ?_
  exact h2 ρ2 H2 (x1.trans x2) T2 (x :: xs) (by unfold RVs; exact ⟨x, xs, rfl, r1.mono x2 v, r2⟩)
def lenOk (xs : List AV) : Bool := Nat.ble xs.length 10000000
theorem RVs_len : ∀ {xs : List AV} {vs : List V} {ρ : List Addr} {H : Hp}, RVs G ρ H xs vs → vs.length = xs.length
  | [], _, _, _, h => by unfold RVs at h; rw [h]; rfl
  | x :: xs, _, ρ, H, h => by
    unfold RVs at h
    obtain ⟨v, ws, e, _, r⟩ := h
    rw [e, List.length_cons, List.length_cons, RVs_len r]
theorem lenOk_le {xs : List AV} {vs : List V} {ρ : List Addr} {H : Hp} (h : lenOk xs = true) (r : RVs G ρ H xs vs) : vs.length ≤ sizeLine := by
  rw [RVs_len r]
  exact Nat.le_trans (Nat.le_of_ble_eq_true h) (by rw [sizeLine_eq]; decide)
theorem lenOk_lt {xs : List AV} {vs : List V} {ρ : List Addr} {H : Hp} (h : lenOk xs = true) (r : RVs G ρ H xs vs) : vs.length < sizeLine := by
  rw [RVs_len r]
  exact Nat.lt_of_le_of_lt (Nat.le_of_ble_eq_true h) (by rw [sizeLine_eq]; decide)
def mTup (m : AM) : EM := fun ls S => (m ls S).bind fun xs S1 => match lenOk xs with
  | true => .ok (.tup xs) S1
  | false => .bad
theorem me_tup {m : AM} {k} (h : PA X es (tA G F W m)) : PE X (.Tuple es k pos) (tE G F W (mTup m)) := by
  refine PE_imp (pe_tup h) fun σ H Q ⟨ρ, S, ls, T, h⟩ => ?_
  refine tA_bind T h fun vs S1 ρ1 H1 xs h1 x1 T1 r1 => ?_
  cases q : lenOk vs with
  | false => rw [q] at h1; exact h1.elim
  | true =>
    rw [q] at h1
    refine ⟨lenOk_le q r1, fun p hp => ?_⟩
    obtain ⟨T2, x2⟩ := T1.side (o := .tup xs) hp
    refine h1 ρ1 _ (x1.trans x2) T2 (.ref p) ?_
    unfold RV
    exact ⟨p, xs, rfl, SqT.of upd_same, r1.mono x2 vs, .inl upd_same⟩
/-- a new list -/
def newL (xs : List AV) (S : Sto) : Out AV := match lenOk xs, S.ok with
  | true, true => .ok (.ref S.n) (S.new (.lst xs))
  | _, _ => .bad
theorem newL_ok {F : Fm} {σ : L2.St} {H : Hp} {ρ : List Addr} {S : Sto} {ls : Lo} {xs : List AV} {vs : List V} {Q : VK} {P : AV → Sto → Prop} {E : AE → Lo → Sto → Prop} (T : Stt G F ρ S ls σ H) (r : RVs G ρ H xs vs) (h : (newL xs S).Sat P E) :
    vs.length ≤ sizeLine ∧ ∀ p, H p = none → ∃ ρ' S', Stt G F ρ' S' ls σ (upd H p (.lst vs)) ∧ Ext ρ H ρ' (upd H p (.lst vs)) ∧ P (.ref S.n) S' ∧ RV G ρ' (upd H p (.lst vs)) (.ref S.n) (.ref p) := by
  unfold newL at h
  cases q : lenOk xs with
  | false => rw [q] at h; exact h.elim
  | true =>
    cases q2 : S.ok with
    | false => rw [q, q2] at h; exact h.elim
    | true =>
      rw [q, q2] at h
      refine ⟨lenOk_le q r, fun p hp => ?_⟩
      have x0 : Ext ρ H (ρ ++ [p]) (upd H p (.lst vs)) := ext_new hp [p]
      obtain ⟨T2, x2⟩ := T.new (o := .lst vs) (ao := .lst xs) q2 hp rfl ⟨vs, upd_same, r.mono x0 xs⟩
      refine ⟨_, _, T2, x2, h, ?_⟩
      unfold RV
      exact ⟨p, by rw [← T.rel.len]; simp, rfl⟩
def mLst (m : AM) : EM := fun ls S => (m ls S).bind newL
theorem me_lst {m : AM} (h : PA X es (tA G F W m)) : PE X (.List es pos) (tE G F W (mLst m)) := by
  refine PE_imp (pe_lst h) fun σ H Q ⟨ρ, S, ls, T, h⟩ => ?_
  refine tA_bind T h fun vs S1 ρ1 H1 xs h1 x1 T1 r1 => ?_
  obtain ⟨hl, k⟩ := newL_ok (Q := Q) T1 r1 h1
  refine ⟨hl, fun p hp => ?_⟩
  obtain ⟨ρ', S', T2, x2, q, r⟩ := k p hp
  exact q ρ' _ (x1.trans x2) T2 _ r
/-! ### operators -/
def OpS (G : Gd) (F : Fm) (W : WX) (r : R2) (f : AV → AV → Sto → Out AV) : Prop := ∀ (ρ : List Addr) (S : Sto) (ls : Lo) (σ : L2.St) (H : Hp) (x y : AV) (v w : V) (Q : VK), Stt G F ρ S ls σ H → RV G ρ H x v → RV G ρ H y w →
  (f x y S).Sat (PostV G F ρ ls σ H Q) (PostX G F W ρ H) → r v w H Q
def mBin (f : AV → AV → Sto → Out AV) (a b : EM) : EM := fun ls S => (a ls S).bind fun x S1 => (b ls S1).bind fun y S2 => f x y S2
theorem tOp_of {F : Fm} {r : R2} {f : AV → AV → Sto → Out AV} (hs : OpS G F W r f) {σ : L2.St} {H : Hp} {Q : VK} (h : tE G F W (mBin f ma mb) σ H Q) : tOp r (tE G F W ma) (tE G F W mb) σ H Q := by
  obtain ⟨ρ, S, ls, T, h⟩ := h
  refine tE_bind T h fun v S1 ρ1 H1 x h1 x1 T1 r1 => ?_
  refine tE_bind T1 h1 fun w S2 ρ2 H2 y h2 x2 T2 r2 => ?_
  exact hs ρ2 S2 ls σ H2 v w x y Q T2 (r1.mono x2 v) r2 (Out.sat_mono (fun _ _ z => z.ext (x1.trans x2)) (fun _ _ _ z => z) h2)
theorem me_bin {op : Operator} {r : R2} {f : AV → AV → Sto → Out AV} (ho : OpR X (binaryOp op) r) (hs : OpS G F W r f) (ha : PE X a (tE G F W ma)) (hb : PE X b (tE G F W mb)) : PE X (.BinOp a op b pos) (tE G F W (mBin f ma mb)) :=
  PE_imp (pe_op ho ha hb) fun _ _ _ h => tOp_of hs h
theorem me_cmp {op : CmpOp} {r : R2} {f : AV → AV → Sto → Out AV} (ho : OpR X (compareOp op) r) (hs : OpS G F W r f) (ha : PE X a (tE G F W ma)) (hb : PE X b (tE G F W mb)) (hm : behindInMarks op b = false := by first | exact nomark _ | rfl) :
    PE X (.Compare a [op] [b] pos) (tE G F W (mBin f ma mb)) := PE_imp (pe_cmpR ho ha hb hm) fun _ _ _ h => tOp_of hs h
/-! ### truth -/
def truth (S : Sto) : AV → Option Bool
  | .non => some false
  | .bl b => some b
  | .int i => some (i != 0)
  | .str s => match Nat.ble s.length 10000000 with
    | true => some (!s.isEmpty)
    | false => none
  | .tup xs => some (!xs.isEmpty)
  | .ref i => match S.get i with
    | some (.lst xs) => some (!xs.isEmpty)
    | _ => none
  | _ => none
theorem isEmpty_RVs {xs : List AV} {vs : List V} {ρ : List Addr} {H : Hp} (r : RVs G ρ H xs vs) : vs.isEmpty = xs.isEmpty := by
  have := RVs_len r
  cases xs <;> cases vs <;> simp_all
theorem toS_len (s : List Nat) : (toS s).length = s.length := by simp [toS, Str.length]
theorem truth_ok {F : Fm} {σ : L2.St} {H : Hp} {ρ : List Addr} {S : Sto} {ls : Lo} {a : AV} {x : V} {k : Bool} (T : Stt G F ρ S ls σ H) (r : RV G ρ H a x) (h : truth S a = some k) : TruV G.K x H k := by
  cases a with
  | non => unfold RV at r; subst r; cases h; rfl
  | bl b => unfold RV at r; subst r; cases h; rfl
  | int i => unfold RV at r; subst r; cases h; rfl
  | str s =>
    unfold RV at r; subst r
    cases q : Nat.ble s.length 10000000 with
    | false => simp only [truth, q] at h; cases h
    | true =>
      simp only [truth, q] at h
      cases h
      refine ⟨by rw [toS_len]; exact Nat.le_trans (Nat.le_of_ble_eq_true q) (by rw [sizeLine_eq]; decide), ?_⟩
      rw [toS_len]
      cases s with
      | nil => rfl
      | cons z zs =>
        have : ((z :: zs).length : Int) ≠ 0 := by rw [List.length_cons]; omega
        simp only [List.isEmpty_cons, Bool.not_false]
        exact (bne_iff_ne.mpr this).symm
  | tup xs =>
    unfold RV at r
    obtain ⟨p, vs, rfl, s, rs, _⟩ := r
    cases h
    exact .inr (.inl ⟨vs, s, by rw [isEmpty_RVs rs]⟩)
  | ref i =>
    unfold RV at r
    obtain ⟨p, hp, rfl⟩ := r
    cases q : S.get i with
    | none => simp only [truth, q] at h; cases h
    | some o =>
      have ob := T.rel.obj i p o hp q
      cases o with
      | lst xs =>
        simp only [truth, q] at h
        cases h
        obtain ⟨vs, e, rs⟩ := ob
        exact .inl ⟨vs, SqL.of e, by rw [isEmpty_RVs rs]⟩
      | _ => simp only [truth, q] at h; cases h
  | _ => cases h
end
end Sh

end

noncomputable section
namespace Sh
open PySem PySem.Spec PyProof.Rows L2
abbrev TM := Lo → Sto → Out Bool
section
variable {X : Cx} {F : Fm} {G : Gd} {W : WX} {a b c e : Expr} {es : List Expr} {rest : List Expr} {ma mb mc : EM} {pos : Pos}
/-! ### tests -/
def mTr (m : EM) : TM := fun ls S => (m ls S).bind fun v S1 => match truth S1 v with
  | some k => .ok k S1
  | none => .bad
theorem mt_tr (hk : X.K = G.K) (ha : PE X a (tE G F W ma)) (he : ∀ whole, isTrue a X.env whole = (do let v ← whole; standAt a.pos; holding [v] (truthy v)) := by intro _; rfl) : PT X a (tT G F W (mTr ma)) := by
  refine PT_imp (pt_truth ha he) fun σ H Q ⟨ρ, S, ls, T, h⟩ => ?_
  refine tE_bind T h fun v S1 ρ1 H1 x h1 x1 T1 r1 => ?_
  cases q : truth S1 v with
  | none => rw [q] at h1; exact h1.elim
  | some k =>
    rw [q] at h1
    exact ⟨k, by rw [hk]; exact truth_ok T1 r1 q, h1 ρ1 H1 x1 T1⟩
def mTb (m : EM) : TM := fun ls S => (m ls S).bind fun v S1 => match v with
  | .bl k => .ok k S1
  | _ => .bad
theorem mt_cmp {op : CmpOp} {r : R2} {f : AV → AV → Sto → Out AV} (ho : OpR X (compareOp op) r) (hs : OpS G F W r f) (ha : PE X a (tE G F W ma)) (hb : PE X b (tE G F W mb)) (hm : behindInMarks op b = false := by first | exact nomark _ | rfl) :
    PT X (.Compare a [op] [b] pos) (tT G F W (mTb (mBin f ma mb))) := by
  refine PT_imp (pt_cmpR ho ha hb hm) fun σ H Q ⟨ρ, S, ls, T, h⟩ => ?_
  refine tOp_of hs (tE_bind T h fun v S1 ρ1 H1 x h1 x1 T1 r1 => ?_)
  cases v with
  | bl k =>
    unfold RV at r1
    exact ⟨k, r1, h1 ρ1 H1 x1 T1⟩
  | _ => exact h1.elim
/-- a test whose value is True or False -/
theorem mt_val (ha : PE X a (tE G F W ma)) (he : ∀ whole, isTrue a X.env whole = (do let v ← whole; standAt a.pos; holding [v] (truthy v)) := by intro _; rfl) : PT X a (tT G F W (mTb ma)) := by
  refine PT_imp (pt_val ha he) fun σ H Q ⟨ρ, S, ls, T, h⟩ => ?_
  refine tE_bind T h fun v S1 ρ1 H1 x h1 x1 T1 r1 => ?_
  cases v with
  | bl k =>
    unfold RV at r1
    exact ⟨k, r1, h1 ρ1 H1 x1 T1⟩
  | _ => exact h1.elim
def mTnot (m : TM) : TM := fun ls S => (m ls S).bind fun k S1 => .ok (!k) S1
theorem mt_not {m : TM} (ha : PT X a (tT G F W m)) : PT X (.UnaryOp .Not a pos) (tT G F W (mTnot m)) := by
  refine PT_imp (pt_not ha) fun σ H Q ⟨ρ, S, ls, T, h⟩ => ?_
  exact tT_bind T h fun v S1 ρ1 H1 h1 x1 T1 => h1 ρ1 H1 x1 T1
def mTand (m n : TM) : TM := fun ls S => (m ls S).bind fun k S1 => match k with
  | true => n ls S1
  | false => .ok false S1
def mTor (m n : TM) : TM := fun ls S => (m ls S).bind fun k S1 => match k with
  | true => .ok true S1
  | false => n ls S1
theorem sat_ext {F : Fm} {ρ ρ' : List Addr} {H H' : Hp} {ls : Lo} {σ : L2.St} {α : Type} {m : Out α} {P P' : α → Sto → Prop} (x : Ext ρ H ρ' H') (hp : ∀ a S, P a S → P' a S) (h : m.Sat P (PostX G F W ρ' H')) : m.Sat P' (PostX G F W ρ' H') := Out.sat_mono hp (fun _ _ _ z => z) h
theorem PostB.ext {F : Fm} {ρ ρ' : List Addr} {H H' : Hp} {ls : Lo} {σ : L2.St} {Q : Bool → Hp → Prop} (x : Ext ρ H ρ' H') {v : Bool} {S : Sto} (h : PostB G F ρ ls σ H Q v S) : PostB G F ρ' ls σ H' Q v S := fun ρ2 H2 y => h ρ2 H2 (x.trans y)
theorem mw_and1 {m : TM} (ha : PT X a (tT G F W m)) : PW X (.BoolOp .And [a] pos) (tT G F W m) := pw_and1 ha
theorem mw_or1 {m : TM} (ha : PT X a (tT G F W m)) : PW X (.BoolOp .Or [a] pos) (tT G F W m) := pw_or1 ha
theorem PW_imp {t t' : TT} (h : PW X e t) (i : ∀ σ H Q, t' σ H Q → t σ H Q) : PW X e t' := ⟨fun whole pins s σ H Q I q => h.run whole pins s σ H Q I (i σ H Q q)⟩
theorem mw_and {m n : TM} (ha : PT X a (tT G F W m)) (hb : PW X (.BoolOp .And (b :: rest) pos) (tT G F W n)) : PW X (.BoolOp .And (a :: b :: rest) pos) (tT G F W (mTand m n)) := by
  refine PW_imp (pw_and ha hb) fun σ H Q ⟨ρ, S, ls, T, h⟩ => ?_
  refine tT_bind T h fun v S1 ρ1 H1 h1 x1 T1 => ?_
  cases v with
  | true => exact ⟨ρ1, S1, ls, T1, Out.sat_mono (fun _ _ z => z.ext x1) (fun _ _ _ z => z) h1⟩
  | false => exact h1 ρ1 H1 x1 T1
theorem mw_or {m n : TM} (ha : PT X a (tT G F W m)) (hb : PW X (.BoolOp .Or (b :: rest) pos) (tT G F W n)) : PW X (.BoolOp .Or (a :: b :: rest) pos) (tT G F W (mTor m n)) := by
  refine PW_imp (pw_or ha hb) fun σ H Q ⟨ρ, S, ls, T, h⟩ => ?_
  refine tT_bind T h fun v S1 ρ1 H1 h1 x1 T1 => ?_
  cases v with
  | true => exact h1 ρ1 H1 x1 T1
  | false => exact ⟨ρ1, S1, ls, T1, Out.sat_mono (fun _ _ z => z.ext x1) (fun _ _ _ z => z) h1⟩
/-! ### and, or, not as values; a if t else b -/
def mAnd (m n : EM) : EM := fun ls S => (m ls S).bind fun v S1 => match truth S1 v with
  | some true => n ls S1
  | some false => .ok v S1
  | none => .bad
def mOr (m n : EM) : EM := fun ls S => (m ls S).bind fun v S1 => match truth S1 v with
  | some true => .ok v S1
  | some false => n ls S1
  | none => .bad
def mNot (m : EM) : EM := fun ls S => (m ls S).bind fun v S1 => match truth S1 v with
  | some k => .ok (.bl (!k)) S1
  | none => .bad
theorem me_one {op} (ha : PE X a (tE G F W ma)) : PE X (.BoolOp op [a] pos) (tE G F W ma) := pe_one ha
theorem me_and (hk : X.K = G.K) (ha : PE X a (tE G F W ma)) (hb : PE X (.BoolOp .And (b :: rest) pos) (tE G F W mb)) : PE X (.BoolOp .And (a :: b :: rest) pos) (tE G F W (mAnd ma mb)) := by
  refine PE_imp (pe_andT ha hb) fun σ H Q ⟨ρ, S, ls, T, h⟩ => ?_
  refine tE_bind T h fun v S1 ρ1 H1 x h1 x1 T1 r1 => ?_
  cases q : truth S1 v with
  | none => rw [q] at h1; exact h1.elim
  | some k =>
    rw [q] at h1
    refine ⟨k, by rw [hk]; exact truth_ok T1 r1 q, ?_⟩
    cases k with
    | true => exact iteT ⟨ρ1, S1, ls, T1, Out.sat_mono (fun _ _ z => z.ext x1) (fun _ _ _ z => z) h1⟩
    | false => exact iteF (h1 ρ1 H1 x1 T1 x r1)
theorem me_or (hk : X.K = G.K) (ha : PE X a (tE G F W ma)) (hb : PE X (.BoolOp .Or (b :: rest) pos) (tE G F W mb)) : PE X (.BoolOp .Or (a :: b :: rest) pos) (tE G F W (mOr ma mb)) := by
  refine PE_imp (pe_orT ha hb) fun σ H Q ⟨ρ, S, ls, T, h⟩ => ?_
  refine tE_bind T h fun v S1 ρ1 H1 x h1 x1 T1 r1 => ?_
  cases q : truth S1 v with
  | none => rw [q] at h1; exact h1.elim
  | some k =>
    rw [q] at h1
    refine ⟨k, by rw [hk]; exact truth_ok T1 r1 q, ?_⟩
    cases k with
    | true => exact iteT (h1 ρ1 H1 x1 T1 x r1)
    | false => exact iteF ⟨ρ1, S1, ls, T1, Out.sat_mono (fun _ _ z => z.ext x1) (fun _ _ _ z => z) h1⟩
theorem me_not (hk : X.K = G.K) (ha : PE X a (tE G F W ma)) : PE X (.UnaryOp .Not a pos) (tE G F W (mNot ma)) := by
  refine PE_imp (pe_notT ha) fun σ H Q ⟨ρ, S, ls, T, h⟩ => ?_
  refine tE_bind T h fun v S1 ρ1 H1 x h1 x1 T1 r1 => ?_
  cases q : truth S1 v with
  | none => rw [q] at h1; exact h1.elim
  | some k =>
    rw [q] at h1
    exact ⟨k, by rw [hk]; exact truth_ok T1 r1 q, h1 ρ1 H1 x1 T1 _ (by unfold RV; rfl)⟩
def mIf (t : TM) (m n : EM) : EM := fun ls S => (t ls S).bind fun k S1 => match k with
  | true => m ls S1
  | false => n ls S1
theorem me_if {m : TM} (hc : PT X c (tT G F W m)) (ha : PE X a (tE G F W ma)) (hb : PE X b (tE G F W mb)) : PE X (.IfExp c a b pos) (tE G F W (mIf m ma mb)) := by
  refine PE_imp (pe_ifExp hc ha hb) fun σ H Q ⟨ρ, S, ls, T, h⟩ => ?_
  refine tT_bind T h fun v S1 ρ1 H1 h1 x1 T1 => ?_
  cases v with
  | true => exact iteT ⟨ρ1, S1, ls, T1, Out.sat_mono (fun _ _ z => z.ext x1) (fun _ _ _ z => z) h1⟩
  | false => exact iteF ⟨ρ1, S1, ls, T1, Out.sat_mono (fun _ _ z => z.ext x1) (fun _ _ _ z => z) h1⟩
/-! ### chains a < b < c -/
def mChain (f g : AV → AV → Sto → Out AV) (a b c : EM) : EM := fun ls S => (a ls S).bind fun x S1 => (b ls S1).bind fun y S2 => (f x y S2).bind fun k S3 => match k with
  | .bl true => (c ls S3).bind fun z S4 => g y z S4
  | .bl false => .ok (.bl false) S3
  | _ => .bad
theorem tChain_of {F : Fm} {r r' : R2} {f g : AV → AV → Sto → Out AV} (hs : OpS G F W r f) (hs' : OpS G F W r' g) {σ : L2.St} {H : Hp} {Q : VK} (h : tE G F W (mChain f g ma mb mc) σ H Q) : tChain r r' (tE G F W ma) (tE G F W mb) (tE G F W mc) σ H Q := by
  obtain ⟨ρ, S, ls, T, h⟩ := h
  refine tE_bind T h fun v S1 ρ1 H1 x h1 x1 T1 r1 => ?_
  refine tE_bind T1 h1 fun w S2 ρ2 H2 y h2 x2 T2 r2 => ?_
  refine hs ρ2 S2 ls σ H2 v w x y _ T2 (r1.mono x2 v) r2 (Out.sat_mono (fun k S3 h3 ρ3 H3 x3 T3 z rz => ?_) (fun _ _ _ z => z) (Out.sat_bind.mp h2))
  cases k with
  | bl k =>
    unfold RV at rz
    refine ⟨k, rz, ?_⟩
    cases k with
    | true =>
      refine iteT (tE_bind T3 (Out.sat_mono (fun _ _ z => z) (fun _ _ _ z => z.ext x3) h3) fun u S4 ρ4 H4 z h4 x4 T4 r4 => ?_)
      exact hs' ρ4 S4 ls σ H4 w u y z Q T4 (r2.mono (x3.trans x4) w) r4 (Out.sat_mono (fun _ _ z => z.ext (x1.trans (x2.trans (x3.trans x4)))) (fun _ _ _ z => z) h4)
    | false => exact iteF (h3 ρ3 H3 (x1.trans (x2.trans x3)) T3 _ (by unfold RV; rfl))
  | _ => exact h3.elim
theorem me_chain {op op' : CmpOp} {r r' : R2} {f g : AV → AV → Sto → Out AV} (ho : OpR X (compareOp op) r) (ho' : OpR X (compareOp op') r') (hs : OpS G F W r f) (hs' : OpS G F W r' g)
    (ha : PE X a (tE G F W ma)) (hb : PE X b (tE G F W mb)) (hc : PE X c (tE G F W mc))
    (h : PE X (.Compare a [op, op'] [b, c] pos) (tChain r r' (tE G F W ma) (tE G F W mb) (tE G F W mc))) : PE X (.Compare a [op, op'] [b, c] pos) (tE G F W (mChain f g ma mb mc)) :=
  PE_imp h fun _ _ _ q => tChain_of hs hs' q
/-! ### unary minus -/
def mNeg (m : EM) : EM := fun ls S => (m ls S).bind fun v S1 => match v with
  | .int i => .ok (.int (-i)) S1
  | _ => .bad
theorem me_neg (ha : PE X a (tE G F W ma)) : PE X (.UnaryOp .USub a pos) (tE G F W (mNeg ma)) := by
  refine PE_imp (pe_un un_neg ha) fun σ H Q ⟨ρ, S, ls, T, h⟩ => ?_
  refine tE_bind T h fun v S1 ρ1 H1 x h1 x1 T1 r1 => ?_
  cases v with
  | int i =>
    unfold RV at r1
    exact ⟨i, r1, h1 ρ1 H1 x1 T1 _ (by unfold RV; rfl)⟩
  | _ => exact h1.elim
/-! ### built-in functions by values -/
def CallS (G : Gd) (F : Fm) (W : WX) (r : List V → Hp → VK → Prop) (f : List AV → Sto → Out AV) : Prop := ∀ (ρ : List Addr) (S : Sto) (ls : Lo) (σ : L2.St) (H : Hp) (xs : List AV) (vs : List V) (Q : VK), Stt G F ρ S ls σ H → RVs G ρ H xs vs →
  (f xs S).Sat (PostV G F ρ ls σ H Q) (PostX G F W ρ H) → r vs H Q
def mCall (f : List AV → Sto → Out AV) (m : AM) : EM := fun ls S => (m ls S).bind fun xs S1 => f xs S1
theorem tCB_of {F : Fm} {r : List V → Hp → VK → Prop} {f : List AV → Sto → Out AV} {m : AM} (hs : CallS G F W r f) {σ : L2.St} {H : Hp} {Q : VK} (h : tE G F W (mCall f m) σ H Q) : tCB r (tA G F W m) σ H Q := by
  obtain ⟨ρ, S, ls, T, h⟩ := h
  refine tA_bind T h fun v S1 ρ1 H1 x h1 x1 T1 r1 => ?_
  exact hs ρ1 S1 ls σ H1 v x Q T1 r1 (Out.sat_mono (fun _ _ z => z.ext x1) (fun _ _ _ z => z) h1)
theorem me_callB {x : Str} {id : String} {r : List V → Hp → VK → Prop} {f : List AV → Sto → Out AV} {m : AM} {p : Pos} (hc : CallR X (.builtin id) r) (hs : CallS G F W r f) (hm : X.mg x = none) (hv : bootBuiltins x = some (.builtin id)) (ha : PA X (e :: es) (tA G F W m)) (hg : Gl X x := by rfl) (hn : x ≠ "__name__" := by decide) (hdb : (x == ("__debug__" : Str)) = false := by decide)
    (he : starEach (e :: es) X.env = (false, eval e X.env) :: starEach es X.env := by rfl) (hpl : (backTo pos (starEach es X.env)).any (·.1) = false := by rfl) : PE X (.Call (.Name x p) (e :: es) [] pos) (tE G F W (mCall f m)) :=
  PE_imp (pe_callB hc hg hm hv ha hn hdb he hpl) fun _ _ _ h => tCB_of hs h
theorem me_callTy {x : Str} {t : String} {r : List V → Hp → VK → Prop} {f : List AV → Sto → Out AV} {m : AM} {p : Pos} (hc : CallR X (.type t) r) (hs : CallS G F W r f) (hm : X.mg x = none) (hv : bootBuiltins x = some (.type t)) (ha : PA X (e :: es) (tA G F W m)) (hg : Gl X x := by rfl) (hn : x ≠ "__name__" := by decide) (hdb : (x == ("__debug__" : Str)) = false := by decide)
    (he : starEach (e :: es) X.env = (false, eval e X.env) :: starEach es X.env := by rfl) (hpl : (backTo pos (starEach es X.env)).any (·.1) = false := by rfl) : PE X (.Call (.Name x p) (e :: es) [] pos) (tE G F W (mCall f m)) :=
  PE_imp (pe_callTy hc hg hm hv ha hn hdb he hpl) fun _ _ _ h => tCB_of hs h
/-- a built-in class as a value -/
theorem me_ty {x : Str} {p : Pos} (n : Nat) (hm : X.mg x = none) (hv : bootBuiltins x = some (.type (tyN n))) (hg : Gl X x := by rfl) (hn : x ≠ "__name__" := by decide) (hd : (x == ("__debug__" : Str)) = false := by decide) : PE X (.Name x p) (tE G F W (mC (.ty n))) :=
  PE_imp (pe_bltn hg hm hv (v := .ty (tyN n)) rfl hn hd) fun _ _ _ h => tC_of (fun _ _ => by unfold RV; rfl) h
/-! ### methods of built-in types -/
def MethS (G : Gd) (F : Fm) (W : WX) (T : String) (r : V → List V → Hp → VK → Prop) (f : AV → List AV → Sto → Out AV) : Prop := ∀ (ρ : List Addr) (S : Sto) (ls : Lo) (σ : L2.St) (H : Hp) (x : AV) (xs : List AV) (v : V) (vs : List V) (Q : VK), Stt G F ρ S ls σ H → RV G ρ H x v → RVs G ρ H xs vs →
  (f x xs S).Sat (PostV G F ρ ls σ H Q) (PostX G F W ρ H) → r v vs H Q
def TypS (G : Gd) (F : Fm) (T : String) (g : AV → Sto → Bool) : Prop := ∀ (ρ : List Addr) (S : Sto) (ls : Lo) (σ : L2.St) (H : Hp) (x : AV) (v : V), Stt G F ρ S ls σ H → RV G ρ H x v → g x S = true → tyV G.K T v H
def mMeth (g : AV → Sto → Bool) (f : AV → List AV → Sto → Out AV) (o : EM) (m : AM) : EM := fun ls S => (o ls S).bind fun x S1 => match g x S1 with
  | true => (m ls S1).bind fun xs S2 => f x xs S2
  | false => .bad
theorem me_bm {name : Str} {o : Expr} {apos : Pos} {T id : String} {r : V → List V → Hp → VK → Prop} {g : AV → Sto → Bool} {f : AV → List AV → Sto → Out AV} {mo : EM} {m : AM} (hk : X.K = G.K)
    (hp : PE X (.Call (.Attribute o name apos) (e :: es) [] pos) (tBM X.K T r (tE G F W mo) (tA G F W m))) (hg : TypS G F T g) (hs : MethS G F W T r f) :
    PE X (.Call (.Attribute o name apos) (e :: es) [] pos) (tE G F W (mMeth g f mo m)) := by
  refine PE_imp hp fun σ H Q ⟨ρ, S, ls, Tt, h⟩ => ?_
  refine tE_bind Tt h fun v S1 ρ1 H1 x h1 x1 T1 r1 => ?_
  cases q : g v S1 with
  | false => rw [q] at h1; exact h1.elim
  | true =>
    rw [q] at h1
    refine ⟨by rw [hk]; exact hg ρ1 S1 ls σ H1 v x T1 r1 q, ?_⟩
    refine tA_bind T1 h1 fun vs S2 ρ2 H2 xs h2 x2 T2 r2 => ?_
    exact hs ρ2 S2 ls σ H2 v vs x xs Q T2 (r1.mono x2 v) r2 (Out.sat_mono (fun _ _ z => z.ext (x1.trans x2)) (fun _ _ _ z => z) h2)
theorem me_bm0 {name : Str} {o : Expr} {apos : Pos} {T id : String} {r : V → List V → Hp → VK → Prop} {g : AV → Sto → Bool} {f : AV → List AV → Sto → Out AV} {mo : EM} (hk : X.K = G.K)
    (hp : PE X (.Call (.Attribute o name apos) [] [] pos) (tBM0 X.K T r (tE G F W mo))) (hg : TypS G F T g) (hs : MethS G F W T r f) :
    PE X (.Call (.Attribute o name apos) [] [] pos) (tE G F W (mMeth g f mo mNil)) := by
  refine PE_imp hp fun σ H Q ⟨ρ, S, ls, Tt, h⟩ => ?_
  refine tE_bind Tt h fun v S1 ρ1 H1 x h1 x1 T1 r1 => ?_
  cases q : g v S1 with
  | false => rw [q] at h1; exact h1.elim
  | true =>
    rw [q] at h1
    refine ⟨by rw [hk]; exact hg ρ1 S1 ls σ H1 v x T1 r1 q, ?_⟩
    exact hs ρ1 S1 ls σ H1 v [] x [] Q T1 r1 (by unfold RVs; rfl) (Out.sat_mono (fun _ _ z => z.ext x1) (fun _ _ _ z => z) h1)
/-! ### subscripts -/
def mIx (f : AV → AV → Sto → Out AV) (a b : EM) : EM := mBin f a b
theorem me_ix {r : R2} {f : AV → AV → Sto → Out AV} (hr : IxR X r) (hs : OpS G F W r f) (ha : PE X a (tE G F W ma)) (hb : PE X b (tE G F W mb)) (hpl : PlainIx b := by exact fun _ _ => rfl) : PE X (.Subscript a b pos) (tE G F W (mBin f ma mb)) :=
  PE_imp (pe_ix hr ha hb hpl) fun _ _ _ h => tOp_of hs h
end
end Sh

end

noncomputable section
namespace Sh
open PySem PySem.Spec PyProof.Rows L2
/-! ### concrete operators -/
def eqL : List Nat → List Nat → Bool
  | [], [] => true
  | a :: r, b :: q => match Nat.beq a b with
    | true => eqL r q
    | false => false
  | _, _ => false
theorem eqL_dec : ∀ a b : List Nat, eqL a b = decide (a = b)
  | [], [] => rfl
  | [], _ :: _ => rfl
  | _ :: _, [] => rfl
  | a :: r, b :: q => by
    unfold eqL
    rw [beq_dec]
    by_cases h : a = b
    · subst h; simp [eqL_dec r q]
    · simp [h]
theorem toS_inj {a b : List Nat} : toS a = toS b ↔ a = b := ⟨fun h => by
  have := congrArg (fun s : Str => s.cps.toList) h
  simpa [toS] using this, fun h => by rw [h]⟩
theorem toS_dec (a b : List Nat) : decide (toS a = toS b) = eqL a b := by
  rw [eqL_dec]
  by_cases h : a = b
  · simp [h]
  · simp [h, toS_inj]
/-- == of scalars -/
def eqSc : AV → AV → Option Bool
  | .non, .non => some true
  | .non, .int _ => some false
  | .int _, .non => some false
  | .non, .bl _ => some false
  | .bl _, .non => some false
  | .non, .str _ => some false
  | .str _, .non => some false
  | .int i, .int j => some (decide (i = j))
  | .bl a, .bl b => some (a == b)
  | .str a, .str b => some (eqL a b)
  | .int _, .str _ => some false
  | .str _, .int _ => some false
  | .bl _, .str _ => some false
  | .str _, .bl _ => some false
  | _, _ => none
section
variable {X : Cx} {G : Gd} {W : WX} {F : Fm}
theorem eqSc_ok {ρ : List Addr} {H : Hp} : ∀ {x y : AV} {v w : V} {k : Bool}, RV G ρ H x v → RV G ρ H y w → eqSc x y = some k → scal v w = true ∧ decide (v = w) = k := by
  intro x y v w k rx ry h
  cases x <;> cases y <;> first
    | (cases h; done)
    | (unfold RV at rx ry; subst rx ry; cases h; refine ⟨rfl, ?_⟩; first
        | rfl
        | (rename_i a b; cases a <;> cases b <;> rfl)
        | (rename_i a b; rw [← toS_dec]; by_cases h : toS a = toS b <;> simp [h])
        | simp)
def fEq (x y : AV) (S : Sto) : Out AV := match eqSc x y with
  | some k => .ok (.bl k) S
  | none => .bad
def fNe (x y : AV) (S : Sto) : Out AV := match eqSc x y with
  | some k => .ok (.bl (!k)) S
  | none => .bad
theorem rv_bl {ρ : List Addr} {H : Hp} {k : Bool} : RV G ρ H (.bl k) (.bl k) := by unfold RV; rfl
theorem rv_int {ρ : List Addr} {H : Hp} {k : Int} : RV G ρ H (.int k) (.int k) := by unfold RV; rfl
theorem rv_str {ρ : List Addr} {H : Hp} {k : List Nat} : RV G ρ H (.str k) (.str (toS k)) := by unfold RV; rfl
theorem rv_non {ρ : List Addr} {H : Hp} : RV G ρ H .non .non := by unfold RV; rfl
theorem os_eq : OpS G F W rEq fEq := fun ρ S ls σ H x y v w Q T rx ry h => by
  unfold fEq at h
  cases q : eqSc x y with
  | none => rw [q] at h; exact h.elim
  | some k =>
    rw [q] at h
    obtain ⟨h1, h2⟩ := eqSc_ok rx ry q
    exact ⟨h1, by rw [h2]; exact h ρ H (Ext.refl _ _) T _ rv_bl⟩
theorem os_ne : OpS G F W rNe fNe := fun ρ S ls σ H x y v w Q T rx ry h => by
  unfold fNe at h
  cases q : eqSc x y with
  | none => rw [q] at h; exact h.elim
  | some k =>
    rw [q] at h
    obtain ⟨h1, h2⟩ := eqSc_ok rx ry q
    exact ⟨h1, by rw [h2]; exact h ρ H (Ext.refl _ _) T _ rv_bl⟩
/-- an operator of two ints -/
def fI (g : Int → Int → Option AV) (x y : AV) (S : Sto) : Out AV := match x, y with
  | .int i, .int j => match g i j with
    | some a => .ok a S
    | none => .bad
  | _, _ => .bad
theorem os_I {C : Int → Int → Prop} {g0 : Int → Int → V} {g : Int → Int → Option AV} (hg : ∀ i j a, g i j = some a → C i j ∧ ∀ ρ H, RV G ρ H a (g0 i j)) : OpS G F W (rI C g0) (fI g) := fun ρ S ls σ H x y v w Q T rx ry h => by
  unfold fI at h
  cases x <;> first
    | exact h.elim
    | (rename_i i
       cases y <;> first
        | exact h.elim
        | (rename_i j
           unfold RV at rx ry
           cases q : g i j with
           | none => simp only [q] at h; exact h.elim
           | some a =>
             simp only [q] at h
             obtain ⟨c, r⟩ := hg i j a q
             exact ⟨i, j, rx, ry, c, h ρ H (Ext.refl _ _) T _ (r ρ H)⟩))
theorem os_I0 {g0 : Int → Int → V} {g : Int → Int → Option AV} (hg : ∀ i j a, g i j = some a → ∀ ρ H, RV G ρ H a (g0 i j)) : OpS G F W (rI0 g0) (fI g) := fun ρ S ls σ H x y v w Q T rx ry h => by
  unfold fI at h
  cases x <;> first
    | exact h.elim
    | (rename_i i
       cases y <;> first
        | exact h.elim
        | (rename_i j
           unfold RV at rx ry
           cases q : g i j with
           | none => simp only [q] at h; exact h.elim
           | some a =>
             simp only [q] at h
             exact ⟨i, j, rx, ry, h ρ H (Ext.refl _ _) T _ (hg i j a q ρ H)⟩))
def gAdd (i j : Int) : Option AV := some (.int (i + j))
def gSub (i j : Int) : Option AV := some (.int (i - j))
def gLt (i j : Int) : Option AV := some (.bl (decide (i < j)))
def gLe (i j : Int) : Option AV := some (.bl (decide (i ≤ j)))
def gGt (i j : Int) : Option AV := some (.bl (decide (j < i)))
def gGe (i j : Int) : Option AV := some (.bl (decide (j ≤ i)))
theorem os_lt : OpS G F W (rI0 fun i j => .bl (decide (i < j))) (fI gLt) := os_I0 fun i j a h ρ H => by cases h; exact rv_bl
theorem os_le : OpS G F W (rI0 fun i j => .bl (decide (i ≤ j))) (fI gLe) := os_I0 fun i j a h ρ H => by cases h; exact rv_bl
theorem os_gt : OpS G F W (rI0 fun i j => .bl (decide (j < i))) (fI gGt) := os_I0 fun i j a h ρ H => by cases h; exact rv_bl
theorem os_ge : OpS G F W (rI0 fun i j => .bl (decide (j ≤ i))) (fI gGe) := os_I0 fun i j a h ρ H => by cases h; exact rv_bl
theorem os_add : OpS G F W (rI0 fun i j => .int (i + j)) (fI gAdd) := os_I0 fun i j a h ρ H => by cases h; exact rv_int
theorem os_sub : OpS G F W (rI0 fun i j => .int (i - j)) (fI gSub) := os_I0 fun i j a h ρ H => by cases h; exact rv_int
/-! is None, is a built-in class -/
def isNon : AV → Bool
  | .non => true
  | _ => false
theorem isNon_ok {ρ : List Addr} {H : Hp} {x : AV} {v : V} (r : RV G ρ H x v) : decide (v = .non) = isNon x := by
  cases x with
  | tup xs => unfold RV at r; obtain ⟨a, vs, rfl, _⟩ := r; rfl
  | ref i => unfold RV at r; obtain ⟨a, _, rfl⟩ := r; rfl
  | clo c ks => unfold RV at r; obtain ⟨f, c', cl, rfl, _⟩ := r; rfl
  | _ => unfold RV at r; subst r; rfl
def fIsN (x y : AV) (S : Sto) : Out AV := match y with
  | .non => .ok (.bl (isNon x)) S
  | _ => .bad
def fNotN (x y : AV) (S : Sto) : Out AV := match y with
  | .non => .ok (.bl (!isNon x)) S
  | _ => .bad
theorem os_isN : OpS G F W (fun x y H Q => y = .non ∧ Q (.bl (decide (x = .non))) H) fIsN := fun ρ S ls σ H x y v w Q T rx ry h => by
  cases y <;> first
    | exact (show False from h).elim
    | (unfold RV at ry; exact ⟨ry, by rw [isNon_ok rx]; exact h ρ H (Ext.refl _ _) T _ rv_bl⟩)
theorem os_notN : OpS G F W (fun x y H Q => y = .non ∧ Q (.bl (!decide (x = .non))) H) fNotN := fun ρ S ls σ H x y v w Q T rx ry h => by
  cases y <;> first
    | exact (show False from h).elim
    | (unfold RV at ry; exact ⟨ry, by rw [isNon_ok rx]; exact h ρ H (Ext.refl _ _) T _ rv_bl⟩)
theorem tyN_inj8 : ∀ a b : Fin 8, (decide (tyN a.1 = tyN b.1)) = Nat.beq a.1 b.1 := by decide +kernel
theorem tyN_inj {a b : Nat} (ha : a ≤ 7) (hb : b ≤ 7) : (decide (tyN a = tyN b)) = Nat.beq a b := tyN_inj8 ⟨a, by omega⟩ ⟨b, by omega⟩
def fIsTy (neg : Bool) (x y : AV) (S : Sto) : Out AV := match x, y with
  | .ty a, .ty b => match Nat.ble a 7, Nat.ble b 7 with
    | true, true => .ok (.bl (if neg then !(Nat.beq a b) else Nat.beq a b)) S
    | _, _ => .bad
  | _, _ => .bad
theorem fIsTy_ok {neg : Bool} {ρ : List Addr} {S : Sto} {H : Hp} {x y : AV} {v w : V} {P : AV → Sto → Prop} {E : AE → Lo → Sto → Prop} (rx : RV G ρ H x v) (ry : RV G ρ H y w) (h : (fIsTy neg x y S).Sat P E) :
    ∃ a b, v = .ty a ∧ w = .ty b ∧ P (.bl (if neg then !decide (a = b) else decide (a = b))) S := by
  unfold fIsTy at h
  cases x <;> first
    | exact h.elim
    | (cases y <;> first
        | exact h.elim
        | (rename_i a b
           unfold RV at rx ry
           cases q1 : Nat.ble a 7 with
           | false => simp only [q1] at h; exact h.elim
           | true =>
             cases q2 : Nat.ble b 7 with
             | false => simp only [q1, q2] at h; exact h.elim
             | true =>
               simp only [q1, q2] at h
               refine ⟨_, _, rx, ry, ?_⟩
               rw [tyN_inj (Nat.le_of_ble_eq_true q1) (Nat.le_of_ble_eq_true q2)]
               exact h))
theorem os_isTy : OpS G F W (fun x y H Q => ∃ a b, x = .ty a ∧ y = .ty b ∧ Q (.bl (decide (a = b))) H) (fIsTy false) := fun ρ S ls σ H x y v w Q T rx ry h => by
  obtain ⟨a, b, e1, e2, p⟩ := fIsTy_ok rx ry h
  exact ⟨a, b, e1, e2, p ρ H (Ext.refl _ _) T _ rv_bl⟩
theorem os_notTy : OpS G F W rNT (fIsTy true) := fun ρ S ls σ H x y v w Q T rx ry h => by
  obtain ⟨a, b, e1, e2, p⟩ := fIsTy_ok rx ry h
  exact ⟨a, b, e1, e2, p ρ H (Ext.refl _ _) T _ rv_bl⟩
/-! in -/
def memN (c : Nat) : List Nat → Bool
  | [] => false
  | a :: r => match Nat.beq a c with
    | true => true
    | false => memN c r
theorem memN_dec (c : Nat) : ∀ l : List Nat, memN c l = decide (c ∈ l)
  | [] => rfl
  | a :: r => by
    unfold memN
    rw [beq_dec]
    by_cases h : a = c
    · subst h; simp
    · have h2 : ¬ c = a := fun z => h z.symm
      simp [h, h2, memN_dec c r]
def flatA : AV → Bool
  | .non => true
  | .bl _ => true
  | .int _ => true
  | .str _ => true
  | _ => false
def eqF : AV → AV → Bool
  | .non, .non => true
  | .bl a, .bl b => a == b
  | .bl a, .int b =>
      (if a then 1 else 0) == b
  | .int a, .bl b =>
      a == (if b then 1 else 0)
  | .int a, .int b => decide (a = b)
  | .str a, .str b => eqL a b
  | _, _ => false
theorem eqF_ok {ρ : List Addr} {H : Hp} {x y : AV} {v w : V} (rx : RV G ρ H x v) (ry : RV G ρ H y w) (fx : flatA x = true) (fy : flatA y = true) : eqV v w = eqF x y := by
  cases x <;> first
    | (cases fx; done)
    | (cases y <;> first
        | (cases fy; done)
        | (unfold RV at rx ry; subst rx ry; first
            | rfl
            | (rename_i a b
               show (toS a == toS b) = eqL a b
               rw [← toS_dec]; by_cases h : toS a = toS b <;> simp [h])
            | (rename_i a b
               show (a == b) = decide (a = b)
               by_cases h : a = b <;> simp [h])))
theorem flatA_ok {ρ : List Addr} {H : Hp} {x : AV} {v : V} (rx : RV G ρ H x v) (fx : flatA x = true) : flatV v = true := by
  cases x <;> first
    | (cases fx; done)
    | (unfold RV at rx; subst rx; rfl)
def inA (x : AV) : List AV → Option Bool
  | [] => some false
  | y :: r => match flatA y with
    | true => match inA x r with
      | some k => some (eqF y x || k)
      | none => none
    | false => none
theorem inA_ok {ρ : List Addr} {H : Hp} {x : AV} {v : V} (rx : RV G ρ H x v) (fx : flatA x = true) : ∀ {xs : List AV} {vs : List V} {k : Bool}, RVs G ρ H xs vs → inA x xs = some k → vs.all flatV = true ∧ inV v vs = k
  | [], vs, k, r, h => by unfold RVs at r; subst r; cases h; exact ⟨rfl, rfl⟩
  | y :: ys, vs, k, r, h => by
    unfold RVs at r
    obtain ⟨w, ws, rfl, ry, rs⟩ := r
    unfold inA at h
    cases fy : flatA y with
    | false => simp only [fy] at h; cases h
    | true =>
      cases q : inA x ys with
      | none => simp only [fy, q] at h; cases h
      | some k' =>
        simp only [fy, q] at h
        cases h
        obtain ⟨h1, h2⟩ := inA_ok rx fx rs q
        refine ⟨by simp only [List.all_cons, flatA_ok ry fy, h1, Bool.and_self], ?_⟩
        unfold inV at h2 ⊢
        rw [List.any_cons, h2, eqF_ok ry rx fy fx]
def seqOf (S : Sto) : AV → Option (List AV)
  | .tup xs => some xs
  | .ref i => match S.get i with
    | some (.lst xs) => some xs
    | _ => none
  | _ => none
theorem seqOf_ok {ρ : List Addr} {S : Sto} {ls : Lo} {σ : L2.St} {H : Hp} {y : AV} {w : V} {xs : List AV} (T : Stt G F ρ S ls σ H) (r : RV G ρ H y w) (h : seqOf S y = some xs) :
    ∃ p vs, w = .ref p ∧ RVs G ρ H xs vs ∧ ((∃ i, y = .ref i ∧ S.get i = some (.lst xs) ∧ ρ[i]? = some p ∧ H p = some (.lst vs)) ∨ (y = .tup xs ∧ SqT G.K H p vs)) := by
  cases y with
  | tup ys =>
    cases h
    unfold RV at r
    obtain ⟨p, vs, e, s, rs, _⟩ := r
    exact ⟨p, vs, e, rs, .inr ⟨rfl, s⟩⟩
  | ref i =>
    unfold seqOf at h
    unfold RV at r
    obtain ⟨p, hp, e⟩ := r
    cases q : S.get i with
    | none => simp only [q] at h; cases h
    | some o =>
      cases o with
      | lst ys =>
        simp only [q] at h
        cases h
        obtain ⟨vs, e2, rs⟩ := T.rel.obj i p _ hp q
        exact ⟨p, vs, e, rs, .inl ⟨i, rfl, q, hp, e2⟩⟩
      | _ => simp only [q] at h; cases h
  | _ => cases h
def fIn (neg : Bool) (x y : AV) (S : Sto) : Out AV := match x, y with
  | .str [c], .str s => .ok (.bl (if neg then !memN c s else memN c s)) S
  | x, y => match seqOf S y with
    | some xs => match flatA x with
      | true => match inA x xs with
        | some k => .ok (.bl (if neg then !k else k)) S
        | none => .bad
      | false => .bad
    | none => .bad
theorem fIn_ok {neg : Bool} {ρ : List Addr} {S : Sto} {ls : Lo} {σ : L2.St} {H : Hp} {x y : AV} {v w : V} {P : AV → Sto → Prop} {E : AE → Lo → Sto → Prop} (T : Stt G F ρ S ls σ H) (rx : RV G ρ H x v) (ry : RV G ρ H y w) (h : (fIn neg x y S).Sat P E) :
    (∃ (c : Nat) (z : Str), v = .str ⟨#[c]⟩ ∧ w = .str z ∧ P (.bl (if neg then !decide (c ∈ z.cps.toList) else decide (c ∈ z.cps.toList))) S) ∨
    (∃ p xs, w = .ref p ∧ (SqL G.K H p xs ∨ SqT G.K H p xs) ∧ flatV v = true ∧ xs.all flatV = true ∧ P (.bl (if neg then !inV v xs else inV v xs)) S) := by
  unfold fIn at h
  split at h
  · rename_i c s
    unfold RV at rx ry
    refine .inl ⟨c, toS s, rx, ry, ?_⟩
    have e : (toS s).cps.toList = s := by simp [toS]
    rw [e, ← memN_dec]
    exact h
  · cases q : seqOf S y with
    | none => simp only [q] at h; exact h.elim
    | some xs =>
      cases fx : flatA x with
      | false => simp only [q, fx] at h; exact h.elim
      | true =>
        cases q2 : inA x xs with
        | none => simp only [q, fx, q2] at h; exact h.elim
        | some k =>
          simp only [q, fx, q2] at h
          obtain ⟨p, vs, e, rs, k2⟩ := seqOf_ok T ry q
          obtain ⟨a1, a2⟩ := inA_ok rx fx rs q2
          refine .inr ⟨p, vs, e, ?_, flatA_ok rx fx, a1, by rw [a2]; exact h⟩
          rcases k2 with ⟨i, _, _, _, e3⟩ | ⟨_, e3⟩
          · exact .inl (SqL.of e3)
          · exact .inr e3
def rInB (K : PySem.W.Frag) (neg : Bool) : R2 := fun x y H Q => (∃ (c : Nat) (z : Str), x = .str ⟨#[c]⟩ ∧ y = .str z ∧ Q (.bl (if neg then !decide (c ∈ z.cps.toList) else decide (c ∈ z.cps.toList))) H) ∨ rIn K neg x y H Q
theorem op_inB : OpR X (compareOp .In) (rInB X.K false) := op_in_sign.or op_in_seq
theorem op_notInB : OpR X (compareOp .NotIn) (rInB X.K true) := op_notIn_sign.or op_notIn_seq
theorem os_in {neg : Bool} (hk : X.K = G.K) : OpS G F W (rInB X.K neg) (fIn neg) := fun ρ S ls σ H x y v w Q T rx ry h => by
  rw [hk]
  rcases fIn_ok T rx ry h with ⟨c, z, e1, e2, p⟩ | ⟨p, xs, e1, e2, e3, e4, p'⟩
  · exact .inl ⟨c, z, e1, e2, p ρ H (Ext.refl _ _) T _ rv_bl⟩
  · exact .inr ⟨p, xs, e1, e2, e3, e4, p' ρ H (Ext.refl _ _) T _ rv_bl⟩
end
end Sh

end

noncomputable section
namespace Sh
open PySem PySem.Spec PyProof.Rows L2
section
variable {X : Cx} {G : Gd} {W : WX} {F : Fm} {ma mb : EM} {a b : Expr} {pos : Pos}
theorem rvs1 {ρ : List Addr} {H : Hp} {x : AV} {vs : List V} (r : RVs G ρ H [x] vs) : ∃ v, vs = [v] ∧ RV G ρ H x v := by
  unfold RVs at r
  obtain ⟨v, ws, rfl, rv, r2⟩ := r
  unfold RVs at r2
  subst r2
  exact ⟨v, rfl, rv⟩
theorem rvs2 {ρ : List Addr} {H : Hp} {x y : AV} {vs : List V} (r : RVs G ρ H [x, y] vs) : ∃ v w, vs = [v, w] ∧ RV G ρ H x v ∧ RV G ρ H y w := by
  unfold RVs at r
  obtain ⟨v, ws, rfl, rv, r2⟩ := r
  obtain ⟨w, rfl, rw⟩ := rvs1 r2
  exact ⟨v, w, rfl, rv, rw⟩
theorem rvs0 {ρ : List Addr} {H : Hp} {vs : List V} (r : RVs G ρ H [] vs) : vs = [] := by unfold RVs at r; exact r
/-! type(x) -/
def tyOf (S : Sto) : AV → Option Nat
  | .non => some 0
  | .bl _ => some 1
  | .int _ => some 2
  | .str _ => some 3
  | .tup _ => some 5
  | .ref i => match S.get i with
    | some (.lst _) => some 4
    | some (.dct _) => some 6
    | _ => none
  | _ => none
theorem tyOf_le {S : Sto} {x : AV} {n : Nat} (h : tyOf S x = some n) : n ≤ 6 := by
  cases x with
  | ref i =>
    unfold tyOf at h
    cases q : S.get i with
    | none => simp only [q] at h; cases h
    | some o => cases o <;> simp only [q] at h <;> cases h <;> decide
  | _ => cases h <;> decide
theorem tyOf_tyb {ρ : List Addr} {S : Sto} {ls : Lo} {σ : L2.St} {H : Hp} {x : AV} {v : V} {n : Nat} (T : Stt G F ρ S ls σ H) (r : RV G ρ H x v) (h : tyOf S x = some n) : TyB G.K H v (tyN n) ∧ TyX G.K H v (.type (tyN n)) := by
  cases x with
  | non => unfold RV at r; subst r; cases h; exact ⟨.non, .base .non⟩
  | bl b => unfold RV at r; subst r; cases h; exact ⟨.bl b, .base (.bl b)⟩
  | int b => unfold RV at r; subst r; cases h; exact ⟨.int b, .base (.int b)⟩
  | str b => unfold RV at r; subst r; cases h; exact ⟨.str _, .base (.str _)⟩
  | tup xs =>
    unfold RV at r
    obtain ⟨a, vs, rfl, s, _⟩ := r
    cases h
    refine ⟨.tup s, ?_⟩
    rcases s with (s | ⟨o, s⟩) | ⟨o, its, n, e, c, _⟩
    · exact .base (.tup s)
    · exact .fTuple s
    · exact .kTuple e c
  | ref i =>
    unfold RV at r
    obtain ⟨a, ha, rfl⟩ := r
    unfold tyOf at h
    cases q : S.get i with
    | none => simp only [q] at h; cases h
    | some o =>
      have ob := T.rel.obj i a o ha q
      cases o with
      | lst xs => simp only [q] at h; cases h; obtain ⟨vs, e, _⟩ := ob; exact ⟨.lst (SqL.of e), .base (.lst e)⟩
      | dct kvs =>
        simp only [q] at h
        cases h
        obtain ⟨ps, e, _⟩ := ob
        exact ⟨.dK e, .base (.dK e)⟩
      | _ => simp only [q] at h; cases h
  | _ => cases h
def fType : List AV → Sto → Out AV := fun xs S => match xs with
  | [x] => match tyOf S x with
    | some n => .ok (.ty n) S
    | none => .bad
  | _ => .bad
theorem rv_ty {ρ : List Addr} {H : Hp} {n : Nat} : RV G ρ H (.ty n) (.ty (tyN n)) := by unfold RV; rfl
theorem cs_type (hk : X.K = G.K) : CallS G F W (rTyp X.K) fType := fun ρ S ls σ H xs vs Q T r h => by
  unfold fType at h
  split at h
  · obtain ⟨v, rfl, rv⟩ := rvs1 r
    rename_i x
    cases q : tyOf S x with
    | none => rw [q] at h; exact h.elim
    | some n =>
      rw [q] at h
      exact ⟨v, _, rfl, by rw [hk]; exact (tyOf_tyb T rv q).1, h ρ H (Ext.refl _ _) T _ rv_ty⟩
  · exact h.elim
/-! isinstance(x, c), isinstance(x, (c, ..)), the classes built-in ones -/
def kitT (n c : Nat) : Bool := match Nat.beq n c with
  | true => true
  | false => match Nat.beq n 1 with
    | true => Nat.beq c 2
    | false => false
def kitL (n : Nat) : List Nat → Bool
  | [] => false
  | c :: r => match kitT n c with
    | true => true
    | false => kitL n r
def KitOk (K : PySem.W.Frag) : Prop := ∀ a b : Fin 7, PySem.W.kitOne K (.type (tyN a.1)) (.type (tyN b.1)) = some (kitT a.1 b.1)
def allLe6 : List Nat → Bool
  | [] => true
  | c :: r => match Nat.ble c 6 with
    | true => allLe6 r
    | false => false
theorem kitL_ok {K : PySem.W.Frag} (hK : KitOk K) {n : Nat} (hn : n ≤ 6) : ∀ cs : List Nat, allLe6 cs = true → PySem.W.kitAny K (.type (tyN n)) (cs.map fun c => .type (tyN c)) = some (kitL n cs)
  | [], _ => rfl
  | c :: r, h => by
    unfold allLe6 at h
    cases q : Nat.ble c 6 with
    | false => rw [q] at h; cases h
    | true =>
      rw [q] at h
      have h1 := hK ⟨n, by omega⟩ ⟨c, by have := Nat.le_of_ble_eq_true q; omega⟩
      have h2 := kitL_ok hK hn r h
      simp only [List.map_cons, PySem.W.kitAny, kitL]
      rw [h1]
      cases q2 : kitT n c with
      | true => rfl
      | false => exact h2
def mIsi (cs : List Nat) (m : EM) : EM := fun ls S => (m ls S).bind fun v S1 => match tyOf S1 v with
  | some n => .ok (.bl (kitL n cs)) S1
  | none => .bad
theorem me_isi1 {x c : Str} {p p2 : Pos} (n : Nat) (hk : X.K = G.K) (hK : KitOk G.K) (hn : Nat.ble n 6 = true) (hx : x = "isinstance") (hm : X.mg "isinstance" = none) (hmc : X.mg c = none) (hvc : bootBuiltins c = some (.type (tyN n)))
    (ha : PE X a (tE G F W ma)) (hg : Gl X "isinstance" := by rfl) (hgc : Gl X c := by rfl) (hcn : c ≠ "__name__" := by decide) (hcd : (c == ("__debug__" : Str)) = false := by decide)
    (hs : starEach [a, .Name c p2] X.env = (false, eval a X.env) :: starEach [.Name c p2] X.env := by rfl) (hs2 : starEach [.Name c p2] X.env = (false, eval (.Name c p2) X.env) :: starEach [] X.env := by rfl)
    (hpl : (backTo pos (starEach [.Name c p2] X.env)).any (·.1) = false := by rfl) :
    PE X (.Call (.Name x p) [a, .Name c p2] [] pos) (tE G F W (mIsi [n] ma)) := by
  subst hx
  refine PE_imp (pe_callB call_isi hg hm (by rfl) (pa_cons ha (pa_cons (pe_bltn hgc hmc (v := .ty (tyN n)) hvc rfl hcn hcd) pa_nil hs2) hs) (by decide) (by decide) hs hpl) fun σ H Q ⟨ρ, S, ls, T, h⟩ => ?_
  refine tE_bind T h fun v S1 ρ1 H1 x h1 x1 T1 r1 => ?_
  cases q : tyOf S1 v with
  | none => rw [q] at h1; exact h1.elim
  | some k =>
    rw [q] at h1
    have e := kitL_ok hK (tyOf_le q) [n] (by unfold allLe6; rw [hn]; rfl)
    have e2 : PySem.W.kitOne X.K (.type (tyN k)) (.type (tyN n)) = some (kitL k [n]) := by
      rw [hk]
      have h1 := hK ⟨k, by have := tyOf_le q; omega⟩ ⟨n, by have := Nat.le_of_ble_eq_true hn; omega⟩
      rw [h1]
      unfold kitL kitL
      cases kitT k n <;> rfl
    exact ⟨x, .ty (tyN n), .type (tyN k), .type (tyN n), _, rfl, .ty _, by rw [hk]; exact (tyOf_tyb T1 r1 q).2, e2, h1 ρ1 H1 x1 T1 _ rv_bl⟩
theorem paired_ty : ∀ cs : List Nat, Paired ClsV (cs.map fun c => V.ty (tyN c)) (cs.map fun c => .type (tyN c))
  | [] => .nil
  | _ :: r => .cons (.ty _) (paired_ty r)
/-- constants, one behind another -/
def tCs (vs : List V) : TA := fun _ H Q => Q vs H
theorem pa_cs0 : PA X [] (tCs []) := pa_nil
theorem pa_cs {e : Expr} {es : List Expr} {v : V} {vs : List V} (h : PE X e (tC v)) (r : PA X es (tCs vs)) (hs : starEach (e :: es) X.env = (false, eval e X.env) :: starEach es X.env := by rfl) : PA X (e :: es) (tCs (v :: vs)) := pa_cons h r hs
theorem me_isiT {x : Str} {p : Pos} {es : List Expr} {k : Nat} {p2 : Pos} (cs : List Nat) (hk : X.K = G.K) (hK : KitOk G.K) (hn : allLe6 cs = true) (hx : x = "isinstance") (hm : X.mg "isinstance" = none)
    (hes : PA X es (tCs (cs.map fun c => .ty (tyN c)))) (hl : cs.length ≤ 100) (ha : PE X a (tE G F W ma)) (hg : Gl X "isinstance" := by rfl)
    (hs : starEach [a, .Tuple es k p2] X.env = (false, eval a X.env) :: starEach [.Tuple es k p2] X.env := by rfl) (hs2 : starEach [.Tuple es k p2] X.env = (false, eval (.Tuple es k p2) X.env) :: starEach [] X.env := by rfl)
    (hpl : (backTo pos (starEach [.Tuple es k p2] X.env)).any (·.1) = false := by rfl) :
    PE X (.Call (.Name x p) [a, .Tuple es k p2] [] pos) (tE G F W (mIsi cs ma)) := by
  subst hx
  refine PE_imp (pe_callB call_isiT hg hm (by rfl) (pa_cons ha (pa_cons (pe_tup hes) pa_nil hs2) hs) (by decide) (by decide) hs hpl) fun σ H Q ⟨ρ, S, ls, T, h⟩ => ?_
  refine tE_bind T h fun v S1 ρ1 H1 x h1 x1 T1 r1 => ?_
  refine ⟨by rw [List.length_map, sizeLine_eq]; omega, fun q hq => ?_⟩
  cases qq : tyOf S1 v with
  | none => rw [qq] at h1; exact h1.elim
  | some n =>
    rw [qq] at h1
    obtain ⟨T2, x2⟩ := T1.side (o := .tup (cs.map fun c => V.ty (tyN c))) hq
    refine ⟨x, q, _, .type (tyN n), cs.map fun c => .type (tyN c), kitL n cs, rfl, upd_same, ?_, ?_, ?_, h1 _ _ (x1.trans x2) T2 _ rv_bl⟩
    · exact paired_ty cs
    · rw [hk]; exact (tyOf_tyb T2 (r1.mono x2 v) qq).2
    · rw [hk]; exact kitL_ok hK (tyOf_le qq) cs hn
/-! len -/
def fLen : List AV → Sto → Out AV := fun xs S => match xs with
  | [x] => match x with
    | .str s => match Nat.ble s.length 10000000 with
      | true => .ok (.int s.length) S
      | false => .bad
    | .ref i => match S.get i with
      | some (.lst ys) => .ok (.int ys.length) S
      | some (.dct kvs) => .ok (.int kvs.length) S
      | some (.dtp kvs) => .ok (.int kvs.length) S
      | _ => .bad
    | .tup ys => .ok (.int ys.length) S
    | _ => .bad
  | _ => .bad
theorem KR_len {ρ : List Addr} {H : Hp} : ∀ {kvs : List (AV × AV)} {ps : List (Key × V)}, KR G ρ H kvs ps → ps.length = kvs.length
  | [], _, h => by unfold KR at h; rw [h]; rfl
  | _ :: r, _, h => by
    obtain ⟨_, _, _, rfl, _, _, hr⟩ := h
    rw [List.length_cons, List.length_cons, KR_len hr]
theorem KTR_len {ρ : List Addr} {H : Hp} : ∀ {kvs : List (AV × AV)} {ps : List (List Key × V)}, KTR G ρ H kvs ps → ps.length = kvs.length
  | [], _, h => by unfold KTR at h; rw [h]; rfl
  | _ :: r, _, h => by
    obtain ⟨_, _, _, _, rfl, _, _, _, hr⟩ := h
    rw [List.length_cons, List.length_cons, KTR_len hr]
def rLenB (K : PySem.W.Frag) : List V → Hp → VK → Prop := fun xs H Q => ((∃ x n, xs = [x] ∧ LenV K x H n ∧ Q (.int n) H) ∨ ∃ a kvs, xs = [V.ref a] ∧ H a = some (.dK kvs) ∧ Q (.int kvs.length) H) ∨ rLenT xs H Q
theorem call_lenB : CallR X (.builtin "len") (rLenB X.K) := (call_len.or call_lenD).or call_len_dT
theorem cs_len (hk : X.K = G.K) : CallS G F W (rLenB X.K) fLen := fun ρ S ls σ H xs vs Q T r h => by
  unfold fLen at h
  split at h
  · obtain ⟨v, rfl, rv⟩ := rvs1 r
    rename_i x
    split at h
    · rename_i s
      unfold RV at rv
      subst rv
      cases q : Nat.ble s.length 10000000 with
      | false => rw [q] at h; exact h.elim
      | true =>
        rw [q] at h
        refine .inl (.inl ⟨_, s.length, rfl, ⟨by rw [toS_len]; exact Nat.le_trans (Nat.le_of_ble_eq_true q) (by rw [sizeLine_eq]; decide), (toS_len s).symm⟩, h ρ H (Ext.refl _ _) T _ rv_int⟩)
    · rename_i i
      unfold RV at rv
      obtain ⟨p, hp, rfl⟩ := rv
      cases q : S.get i with
      | none => simp only [q] at h; exact h.elim
      | some o =>
        have ob := T.rel.obj i p o hp q
        cases o with
        | lst ys =>
          simp only [q] at h
          obtain ⟨ws, e, rs⟩ := ob
          exact .inl (.inl ⟨_, ws.length, rfl, .inl ⟨ws, SqL.of e, rfl⟩, by rw [RVs_len rs]; exact h ρ H (Ext.refl _ _) T _ rv_int⟩)
        | dct kvs =>
          simp only [q] at h
          obtain ⟨ps, e, rs⟩ := ob
          exact .inl (.inr ⟨p, ps, rfl, e, by rw [KR_len rs]; exact h ρ H (Ext.refl _ _) T _ rv_int⟩)
        | dtp kvs =>
          simp only [q] at h
          obtain ⟨ps, e, rs⟩ := ob
          exact .inr ⟨p, ps, rfl, e, by rw [KTR_len rs]; exact h ρ H (Ext.refl _ _) T _ rv_int⟩
        | _ => simp only [q] at h; exact h.elim
    · rename_i ys
      unfold RV at rv
      obtain ⟨p, ws, rfl, s, rs, _⟩ := rv
      exact .inl (.inl ⟨_, ws.length, rfl, .inr ⟨ws, by rw [hk]; exact s, rfl⟩, by rw [RVs_len rs]; exact h ρ H (Ext.refl _ _) T _ rv_int⟩)
    · exact h.elim
  · exact h.elim
/-! all -/
def blsOf : List AV → Option (List Bool)
  | [] => some []
  | .bl k :: r => match blsOf r with
    | some ks => some (k :: ks)
    | none => none
  | _ => none
theorem blsOf_ok {ρ : List Addr} {H : Hp} : ∀ {xs : List AV} {vs : List V} {ks : List Bool}, RVs G ρ H xs vs → blsOf xs = some ks → vs = ks.map V.bl
  | [], vs, ks, r, h => by cases h; exact rvs0 r
  | x :: xs, vs, ks, r, h => by
    unfold RVs at r
    obtain ⟨v, ws, rfl, rv, rs⟩ := r
    cases x with
    | bl k =>
      unfold blsOf at h
      cases q : blsOf xs with
      | none => simp only [q] at h; cases h
      | some ks' =>
        simp only [q] at h
        cases h
        unfold RV at rv
        rw [rv, blsOf_ok rs q]
        rfl
    | _ => cases h
def fAll : List AV → Sto → Out AV := fun xs S => match xs with
  | [.ref i] => match S.get i with
    | some (.lst ys) => match blsOf ys with
      | some ks => .ok (.bl (ks.all id)) S
      | none => .bad
    | _ => .bad
  | _ => .bad
theorem cs_all (hk : X.K = G.K) : CallS G F W (rAll X.K) fAll := fun ρ S ls σ H xs vs Q T r h => by
  unfold fAll at h
  split at h
  · obtain ⟨v, rfl, rv⟩ := rvs1 r
    rename_i i
    unfold RV at rv
    obtain ⟨p, hp, rfl⟩ := rv
    cases q : S.get i with
    | none => simp only [q] at h; exact h.elim
    | some o =>
      have ob := T.rel.obj i p o hp q
      cases o with
      | lst ys =>
        simp only [q] at h
        obtain ⟨ws, e, rs⟩ := ob
        cases q2 : blsOf ys with
        | none => simp only [q2] at h; exact h.elim
        | some ks =>
          simp only [q2] at h
          exact ⟨p, ks, rfl, SqL.of (by rw [e, blsOf_ok rs q2]), h ρ H (Ext.refl _ _) T _ rv_bl⟩
      | _ => simp only [q] at h; exact h.elim
  · exact h.elim
/-! list(x), tuple(x) -/
def fList : List AV → Sto → Out AV := fun xs S => match xs with
  | [x] => match seqOf S x with
    | some ys => newL ys S
    | none => .bad
  | _ => .bad
theorem cs_list (hk : X.K = G.K) : CallS G F W (fun xs H Q => ∃ p ys, xs = [.ref p] ∧ (SqL X.K H p ys ∨ SqT X.K H p ys) ∧ ∀ l, H l = none → Q (.ref l) (upd H l (.lst ys))) fList := fun ρ S ls σ H xs vs Q T r h => by
  unfold fList at h
  split at h
  · obtain ⟨v, rfl, rv⟩ := rvs1 r
    rename_i x
    cases q : seqOf S x with
    | none => rw [q] at h; exact h.elim
    | some ys =>
      rw [q] at h
      obtain ⟨p, ws, rfl, rs, k⟩ := seqOf_ok T rv q
      obtain ⟨_, k2⟩ := newL_ok (Q := Q) T rs h
      refine ⟨p, ws, rfl, ?_, fun l hl => ?_⟩
      · rcases k with ⟨_, _, _, _, e⟩ | ⟨_, e⟩
        · exact .inl (SqL.of e)
        · exact .inr (by rw [hk]; exact e)
      · obtain ⟨ρ', S', T2, x2, q, r⟩ := k2 l hl
        exact q ρ' _ x2 T2 _ r
  · exact h.elim
/-! x[i] -/
theorem RVs_get {ρ : List Addr} {H : Hp} : ∀ {xs : List AV} {vs : List V} {j : Nat} {a : AV}, RVs G ρ H xs vs → xs[j]? = some a → ∃ v, vs[j]? = some v ∧ RV G ρ H a v
  | [], _, _, _, _, h =>
      by simp at h
  | x :: xs, vs, j, a, r, h => by
    unfold RVs at r
    obtain ⟨v, ws, rfl, rv, rs⟩ := r
    cases j with
    | zero => simp at h; subst h; exact ⟨v, rfl, rv⟩
    | succ j => simp at h; obtain ⟨w, e, r⟩ := RVs_get rs h; exact ⟨w, by simpa using e, r⟩
theorem atI_ok {ρ : List Addr} {H : Hp} {xs : List AV} {vs : List V} {i : Int} {a : AV} (r : RVs G ρ H xs vs) (h : atI xs i = some a) : ∃ v, atI vs i = some v ∧ RV G ρ H a v := by
  unfold atI at h ⊢
  rw [RVs_len r]
  cases q : ixN xs.length i with
  | none => rw [q] at h; cases h
  | some j => rw [q] at h; exact RVs_get r h
def fIx (x y : AV) (S : Sto) : Out AV := match y with
  | .int i => match x with
    | .str s => match Nat.ble s.length 10000000, atI s i with
      | true, some c => .ok (.str [c]) S
      | _, _ => .bad
    | x => match seqOf S x with
      | some ys => match atI ys i with
        | some a => .ok a S
        | none => .bad
      | none => .bad
  | _ => .bad
theorem os_ix (hk : X.K = G.K) : OpS G F W (rIx X.K) fIx := fun ρ S ls σ H x y v w Q T rx ry h => by
  unfold fIx at h
  split at h
  · rename_i i
    unfold RV at ry
    split at h
    · rename_i s
      unfold RV at rx
      cases q : Nat.ble s.length 10000000 with
      | false => rw [q] at h; exact h.elim
      | true =>
        cases q2 : atI s i with
        | none => rw [q, q2] at h; exact h.elim
        | some c =>
          rw [q, q2] at h
          refine .inr (.inr ⟨toS s, i, c, rx, ry, by rw [toS_len]; exact Nat.le_trans (Nat.le_of_ble_eq_true q) (by rw [sizeLine_eq]; decide), by simpa [toS] using q2, h ρ H (Ext.refl _ _) T _ (by unfold RV; rfl)⟩)
    · cases q : seqOf S x with
      | none => simp only [q] at h; exact h.elim
      | some ys =>
        cases q2 : atI ys i with
        | none => simp only [q, q2] at h; exact h.elim
        | some a =>
          simp only [q, q2] at h
          obtain ⟨p, ws, e, rs, k⟩ := seqOf_ok T rx q
          obtain ⟨u, e2, ru⟩ := atI_ok rs q2
          have hq := h ρ H (Ext.refl _ _) T _ ru
          rcases k with ⟨_, _, _, _, e3⟩ | ⟨_, e3⟩
          · exact .inl ⟨p, ws, i, u, e, ry, SqL.of e3, e2, hq⟩
          · exact .inr (.inl ⟨p, ws, i, u, e, ry, by rw [hk]; exact e3, e2, hq⟩)
  · exact h.elim
/-! slices -/
abbrev OM := Lo → Sto → Out (Option Int)
def PostO (G : Gd) (F : Fm) (ρ : List Addr) (ls : Lo) (σ : L2.St) (H : Hp) (Q : Option Int → Hp → Prop) : Option Int → Sto → Prop := fun o S' => ∀ ρ' H', Ext ρ H ρ' H' → Stt G F ρ' S' ls σ H' → Q o H'
def tO (G : Gd) (F : Fm) (W : WX) (m : OM) : TO := fun σ H Q => ∃ ρ S ls, Stt G F ρ S ls σ H ∧ (m ls S).Sat (PostO G F ρ ls σ H Q) (PostX G F W ρ H)
theorem PO_imp {e : Option Expr} {t t' : TO} (h : PO X e t) (i : ∀ σ H Q, t' σ H Q → t σ H Q) : PO X e t' := ⟨fun pins s σ H Q I q => h.run pins s σ H Q I (i σ H Q q)⟩
def mONone : OM := fun _ S => .ok none S
def mOSome (m : EM) : OM := fun ls S => (m ls S).bind fun v S1 => match v with
  | .int i => .ok (some i) S1
  | _ => .bad
theorem mo_none : PO X none (tO G F W mONone) := PO_imp po_none fun σ H Q ⟨ρ, S, ls, T, h⟩ => h ρ H (Ext.refl _ _) T
theorem mo_some (ha : PE X a (tE G F W ma)) : PO X (some a) (tO G F W (mOSome ma)) := PO_imp (po_some ha) fun σ H Q ⟨ρ, S, ls, T, h⟩ => by
  refine tE_bind T h fun v S1 ρ1 H1 x h1 x1 T1 r1 => ?_
  cases v with
  | int i => unfold RV at r1; exact ⟨i, r1, h1 ρ1 H1 x1 T1⟩
  | _ => exact h1.elim
def cutG {α : Type} (xs : List α) (lo hi : Option Int) : List α := (xs.drop (HT.sIx xs.length 0 lo)).take (HT.sIx xs.length xs.length hi - HT.sIx xs.length 0 lo)
theorem RVs_drop {ρ : List Addr} {H : Hp} : ∀ {xs : List AV} {vs : List V} (n : Nat), RVs G ρ H xs vs → RVs G ρ H (xs.drop n) (vs.drop n)
  | _, _, 0, r => r
  | [], vs, n + 1, r => by rw [rvs0 r]; unfold RVs; simp
  | x :: xs, vs, n + 1, r => by
    unfold RVs at r
    obtain ⟨v, ws, rfl, rv, rs⟩ := r
    exact RVs_drop n rs
theorem RVs_take {ρ : List Addr} {H : Hp} : ∀ {xs : List AV} {vs : List V} (n : Nat), RVs G ρ H xs vs → RVs G ρ H (xs.take n) (vs.take n)
  | xs, _, 0, r => by simp only [List.take_zero]; unfold RVs; rfl
  | [], vs, n + 1, r => by rw [rvs0 r]; unfold RVs; simp
  | x :: xs, vs, n + 1, r => by
    unfold RVs at r
    obtain ⟨v, ws, rfl, rv, rs⟩ := r
    simp only [List.take_succ_cons]
    unfold RVs
    exact ⟨v, _, rfl, rv, RVs_take n rs⟩
theorem RVs_cut {ρ : List Addr} {H : Hp} {xs : List AV} {vs : List V} {lo hi : Option Int} (r : RVs G ρ H xs vs) : RVs G ρ H (cutG xs lo hi) (cutV vs lo hi) := by
  unfold cutG cutV
  rw [RVs_len r]
  exact RVs_take _ (RVs_drop _ r)
def fSl (x : AV) (lo hi : Option Int) (S : Sto) : Out AV := match x with
  | .str s => match Nat.ble s.length 10000000 with
    | true => .ok (.str (cutG s lo hi)) S
    | false => .bad
  | .tup ys => .ok (.tup (cutG ys lo hi)) S
  | x => match seqOf S x with
    | some ys => newL (cutG ys lo hi) S
    | none => .bad
def rSlB (K : PySem.W.Frag) : V → Option Int → Option Int → Hp → VK → Prop := fun x lo hi H Q => rSlL K x lo hi H Q ∨ (rSlA K x lo hi H Q ∨ rSlS x lo hi H Q)
theorem sl_B : SlR X (rSlB X.K) := sl_list.or (sl_tupA.or sl_str)
def mSl (m : EM) (lo hi : OM) : EM := fun ls S => (m ls S).bind fun v S1 => (lo ls S1).bind fun l S2 => (hi ls S2).bind fun u S3 => fSl v l u S3
theorem tO_bind {σ : L2.St} {H : Hp} {ρ : List Addr} {S : Sto} {ls : Lo} {α : Type} {m : OM} {f : Option Int → Sto → Out α} {P : α → Sto → Prop} {Q : Option Int → Hp → Prop} (T : Stt G F ρ S ls σ H) (h : ((m ls S).bind f).Sat P (PostX G F W ρ H))
    (k : ∀ v S' ρ' H', (f v S').Sat P (PostX G F W ρ' H') → Ext ρ H ρ' H' → Stt G F ρ' S' ls σ H' → Q v H') : tO G F W m σ H Q := by
  refine ⟨ρ, S, ls, T, Out.sat_mono (fun v S' q ρ' H' y T' => ?_) (fun _ _ _ q => q) (Out.sat_bind.mp h)⟩
  exact k v S' ρ' H' (Out.sat_mono (fun _ _ z => z) (fun _ _ _ z => z.ext y) q) y T'
theorem me_slice {lo hi : Option Expr} {ml mh : OM} {p2 : Pos} (hk : X.K = G.K) (ha : PE X a (tE G F W ma)) (hl : PO X lo (tO G F W ml)) (hh : PO X hi (tO G F W mh)) : PE X (.Subscript a (.Slice lo hi none p2) pos) (tE G F W (mSl ma ml mh)) := by
  refine PE_imp (pe_slice sl_B ha hl hh) fun σ H Q ⟨ρ, S, ls, T, h⟩ => ?_
  refine tE_bind T h fun v S1 ρ1 H1 x h1 x1 T1 r1 => ?_
  refine tO_bind T1 h1 fun l S2 ρ2 H2 h2 x2 T2 => ?_
  refine tO_bind T2 h2 fun u S3 ρ3 H3 h3 x3 T3 => ?_
  have r3 := (r1.mono x2 v).mono x3 v
  have xx := x1.trans (x2.trans x3)
  unfold fSl at h3
  split at h3
  · rename_i s
    cases q : Nat.ble s.length 10000000 with
    | false => rw [q] at h3; exact h3.elim
    | true =>
      rw [q] at h3
      unfold RV at r3
      subst r3
      refine .inr (.inr ⟨toS s, rfl, by rw [toS_len]; exact Nat.le_trans (Nat.le_of_ble_eq_true q) (by rw [sizeLine_eq]; decide), h3 ρ3 H3 xx T3 _ ?_⟩)
      unfold RV
      show V.str (cutS (toS s) l u) = V.str (toS (cutG s l u))
      unfold cutS cutG
      rw [toS_len]
      rfl
  · rename_i ys
    unfold RV at r3
    obtain ⟨p, ws, rfl, s, rs, k0⟩ := r3
    refine .inr (.inl ⟨p, ws, rfl, by rw [hk]; exact s, fun hw => ?_, fun _ q hq => ?_⟩)
    · refine h3 ρ3 H3 xx T3 _ ?_
      unfold RV
      refine ⟨p, ws, rfl, s, ?_⟩
      have e : cutG ys l u = ys := by
        unfold cutG
        rw [RVs_len rs] at hw
        rw [hw.1, hw.2]
        simp
      rw [e]
      exact ⟨rs, k0⟩
    · obtain ⟨T4, x4⟩ := T3.side (o := .tup (cutV ws l u)) hq
      refine h3 ρ3 _ (xx.trans x4) T4 _ ?_
      unfold RV
      exact ⟨q, _, rfl, SqT.of upd_same, (RVs_cut rs).mono x4 _, .inl upd_same⟩
  · cases q : seqOf S3 v with
    | none => simp only [q] at h3; exact h3.elim
    | some ys =>
      simp only [q] at h3
      obtain ⟨p, ws, rfl, rs, k⟩ := seqOf_ok T3 r3 q
      rcases k with ⟨_, _, _, _, e⟩ | ⟨e, _⟩
      · refine .inl ⟨p, ws, rfl, SqL.of e, fun l' hl' => ?_⟩
        obtain ⟨_, k2⟩ := newL_ok (Q := Q) T3 (RVs_cut (lo := l) (hi := u) rs) h3
        obtain ⟨ρ', S', T4, x4, q4, r4⟩ := k2 l' hl'
        exact q4 ρ' _ (xx.trans x4) T4 _ r4
      · subst e
        rename_i hno1 hno2
        exact (hno2 _ rfl).elim
/-! methods of lists -/
def isL (x : AV) (S : Sto) : Bool := match x with
  | .ref i => match S.get i with
    | some (.lst _) => true
    | _ => false
  | _ => false
theorem isL_ok : TypS G F "list" isL := fun ρ S ls σ H x v T r h => by
  unfold isL at h
  split at h
  · rename_i i
    unfold RV at r
    obtain ⟨p, hp, rfl⟩ := r
    cases q : S.get i with
    | none => simp only [q] at h; cases h
    | some o =>
      have ob := T.rel.obj i p o hp q
      cases o with
      | lst ys => obtain ⟨ws, e, _⟩ := ob; exact .inl ⟨rfl, ws, SqL.of e⟩
      | _ => simp only [q] at h; cases h
  · cases h
def setLst (i : Nat) (xs : List AV) (v : AV) (S : Sto) : Out AV := match lenOk xs with
  | true => .ok v (S.put i (.lst xs))
  | false => .bad
/-- list i is written anew -/
theorem putL {ρ : List Addr} {S : Sto} {ls : Lo} {σ : L2.St} {H : Hp} {i : Nat} {p : Addr} {xs ys : List AV} {vs ws : List V} (T : Stt G F ρ S ls σ H) (hi : ρ[i]? = some p) (hg : S.get i = some (.lst xs)) (e : H p = some (.lst vs)) (rs : RVs G ρ H ys ws) :
    Stt G F ρ (S.put i (.lst ys)) ls σ (upd H p (.lst ws)) ∧ Ext ρ H ρ (upd H p (.lst ws)) :=
  T.upd hi hg e (fun z => z) (fun _ z => by cases z) rfl rfl fun x => ⟨ws, upd_same, rs.mono x ys⟩
theorem RVs_app {ρ : List Addr} {H : Hp} : ∀ {xs ys : List AV} {vs ws : List V}, RVs G ρ H xs vs → RVs G ρ H ys ws → RVs G ρ H (xs ++ ys) (vs ++ ws)
  | [], _, _, _, r, q => by rw [rvs0 r]; exact q
  | x :: xs, ys, vs, ws, r, q => by
    unfold RVs at r
    obtain ⟨v, us, rfl, rv, rs⟩ := r
    simp only [List.cons_append]
    unfold RVs
    exact ⟨v, _, rfl, rv, RVs_app rs q⟩
theorem RVs_one {ρ : List Addr} {H : Hp} {x : AV} {v : V} (r : RV G ρ H x v) : RVs G ρ H [x] [v] := by
  unfold RVs
  exact ⟨v, [], rfl, r, by unfold RVs; rfl⟩
def fAppend (x : AV) (as : List AV) (S : Sto) : Out AV := match x, as with
  | .ref i, [a] => match S.get i with
    | some (.lst xs) => setLst i (xs ++ [a]) .non S
    | _ => .bad
  | _, _ => .bad
theorem ms_append : MethS G F W "list" rAppend fAppend := fun ρ S ls σ H x xs v vs Q T r rs h => by
  unfold fAppend at h
  split at h
  · rename_i i a
    obtain ⟨w, rfl, rw_⟩ := rvs1 rs
    unfold RV at r
    obtain ⟨p, hp, rfl⟩ := r
    cases q : S.get i with
    | none => simp only [q] at h; exact h.elim
    | some o =>
      have ob := T.rel.obj i p o hp q
      cases o with
      | lst ys =>
        simp only [q, setLst] at h
        obtain ⟨ws, e, r2⟩ := ob
        cases q2 : lenOk (ys ++ [a]) with
        | false => rw [q2] at h; exact h.elim
        | true =>
          rw [q2] at h
          have rr := RVs_app r2 (RVs_one rw_)
          have := lenOk_le q2 rr
          rw [List.length_append, List.length_singleton] at this
          obtain ⟨T2, x2⟩ := putL T hp q e rr
          exact ⟨p, ws, w, rfl, rfl, e, by omega, h ρ _ x2 T2 _ rv_non⟩
      | _ => simp only [q] at h; exact h.elim
  · exact h.elim
def popG : List AV → Option (AV × List AV)
  | [] => none
  | x :: r => match popG r with
    | none => some (x, [])
    | some (y, q) => some (y, x :: q)
theorem popG_ok : ∀ {xs : List AV} {y : AV} {q : List AV}, popG xs = some (y, q) → xs[xs.length - 1]? = some y ∧ xs.dropLast = q
  | [], y, q, h => by cases h
  | [x], y, q, h => by cases h; exact ⟨rfl, rfl⟩
  | x :: z :: r, y, q, h => by
    unfold popG at h
    cases e : popG (z :: r) with
    | none =>
      unfold popG at e
      cases e2 : popG r with
      | none => simp only [e2] at e; cases e
      | some p => simp only [e2] at e; cases e
    | some p =>
      obtain ⟨y', q'⟩ := p
      simp only [e] at h
      cases h
      obtain ⟨h1, h2⟩ := popG_ok e
      refine ⟨?_, by rw [List.dropLast_cons₂, h2]⟩
      have : (x :: z :: r).length - 1 = ((z :: r).length - 1) + 1 := by simp
      rw [this, List.getElem?_cons_succ]
      exact h1
theorem RVs_init {ρ : List Addr} {H : Hp} : ∀ {xs : List AV} {vs : List V}, RVs G ρ H xs vs → RVs G ρ H xs.dropLast vs.dropLast
  | [], vs, r => by rw [rvs0 r]; exact (by unfold RVs; rfl)
  | [x], vs, r => by obtain ⟨v, rfl, _⟩ := rvs1 r; exact (by unfold RVs; rfl)
  | x :: y :: xs, vs, r => by
    unfold RVs at r
    obtain ⟨v, ws, rfl, rv, rs⟩ := r
    have h := RVs_init rs
    unfold RVs at rs
    obtain ⟨w, us, rfl, rw_, rs2⟩ := rs
    rw [List.dropLast_cons₂, List.dropLast_cons₂]
    unfold RVs
    exact ⟨v, _, rfl, rv, h⟩
def fPop (x : AV) (as : List AV) (S : Sto) : Out AV := match x, as with
  | .ref i, [] => match S.get i with
    | some (.lst xs) => match popG xs with
      | some (y, q) => .ok y (S.put i (.lst q))
      | none => .bad
    | _ => .bad
  | _, _ => .bad
theorem ms_pop : MethS G F W "list" rPop fPop := fun ρ S ls σ H x xs v vs Q T r rs h => by
  unfold fPop at h
  split at h
  · rename_i i
    have e0 := rvs0 rs
    subst e0
    unfold RV at r
    obtain ⟨p, hp, rfl⟩ := r
    cases q : S.get i with
    | none => simp only [q] at h; exact h.elim
    | some o =>
      have ob := T.rel.obj i p o hp q
      cases o with
      | lst ys =>
        simp only [q] at h
        obtain ⟨ws, e, r2⟩ := ob
        cases q2 : popG ys with
        | none => simp only [q2] at h; exact h.elim
        | some pq =>
          obtain ⟨y, qs⟩ := pq
          simp only [q2] at h
          obtain ⟨g1, g2⟩ := popG_ok q2
          obtain ⟨w, hw, rw_⟩ := RVs_get r2 g1
          have r3 := RVs_init r2
          rw [g2] at r3
          obtain ⟨T2, x2⟩ := putL T hp q e r3
          exact ⟨p, ws, w, rfl, rfl, e, by rw [RVs_len r2]; exact hw, h ρ _ x2 T2 _ (rw_.mono x2 y)⟩
      | _ => simp only [q] at h; exact h.elim
  · exact h.elim
end
end Sh

end

noncomputable section
namespace Sh
open PySem PySem.Spec PyProof.Rows L2
section
variable {X : Cx} {G : Gd} {W : WX} {F : Fm} {ma mb : EM} {a b e iter tg : Expr} {es : List Expr} {st : Stmt} {rest body : List Stmt} {pos : Pos}
/-! ### what cannot be reached here -/
def mBad : EM := fun _ _ => .bad
def mBadS : SM := fun _ _ => .bad
theorem me_bad : PE X e (tE G F W mBad) := ⟨fun _ _ _ _ _ _ ⟨_, _, _, _, h⟩ => h.elim⟩
theorem ms_bad : PSs X rest (tS G F W mBadS) := ⟨fun _ _ _ _ _ _ ⟨_, _, _, _, h⟩ => h.elim⟩
theorem ma_bad {m : AM} : PA X es (tA G F W fun _ _ => .bad) := ⟨fun _ _ _ _ _ _ _ ⟨_, _, _, _, h⟩ => h.elim⟩
/-! ### sequences -/
def mNx : SM := fun ls S => .ok (.nx, ls) S
def mSeq (m n : SM) : SM := fun ls S => (m ls S).bind fun r S1 => match r.1 with
  | .nx => n r.2 S1
  | .br => .ok r S1
  | .ct => .ok r S1
  | .rt _ => .ok r S1
theorem ms_nil : PSs X [] (tS G F W mNx) := PSs_imp pss_nil fun D σ H ⟨ρ, S, ls, T, h⟩ => h ρ H σ (Ext.refl _ _) T
theorem PostS.ext {D : Ends} {ρ ρ' : List Addr} {H H' : Hp} (x : Ext ρ H ρ' H') {r : Fl × Lo} {S : Sto} (h : PostS G F ρ H D r S) : PostS G F ρ' H' D r S := fun ρ2 H2 σ2 y => h ρ2 H2 σ2 (x.trans y)
theorem ms_cons {m n : SM} (h1 : PS X st (tS G F W m)) (h2 : PSs X rest (tS G F W n)) : PSs X (st :: rest) (tS G F W (mSeq m n)) := by
  refine PSs_imp (pss_cons h1 h2) fun D σ H ⟨ρ, S, ls, T, h⟩ => ?_
  refine ⟨ρ, S, ls, T, Out.sat_mono (fun r S1 q ρ1 H1 σ1 x1 T1 => ?_) (fun _ _ _ q => q) (Out.sat_bind.mp h)⟩
  obtain ⟨f, l⟩ := r
  cases f with
  | nx => exact ⟨ρ1, S1, l, T1, Out.sat_mono (fun _ _ z => z.ext x1) (fun _ _ _ z => z.ext x1) q⟩
  | br => exact q ρ1 H1 σ1 x1 T1
  | ct => exact q ρ1 H1 σ1 x1 T1
  | rt v => exact q ρ1 H1 σ1 x1 T1
theorem ms_one {m : SM} (h1 : PS X st (tS G F W m)) : PSs X [st] (tS G F W m) := PSs_imp (pss_one h1) fun _ _ _ h => h
/-! ### simple statements -/
def mRet (m : EM) : SM := fun ls S => (m ls S).bind fun v S1 => .ok (.rt v, ls) S1
theorem ms_ret (ha : PE X a (tE G F W ma)) : PS X (.Return (some a) pos) (tS G F W (mRet ma)) := PS_imp (ps_ret ha) fun D σ H ⟨ρ, S, ls, T, h⟩ => by
  refine tE_bind T h fun v S1 ρ1 H1 x h1 x1 T1 r1 => ?_
  exact h1 ρ1 H1 σ x1 T1 x r1
def mRetN : SM := fun ls S => .ok (.rt .non, ls) S
theorem ms_retN : PS X (.Return none pos) (tS G F W mRetN) := PS_imp ps_retN fun D σ H ⟨ρ, S, ls, T, h⟩ => h ρ H σ (Ext.refl _ _) T _ rv_non
def mExpr (m : EM) : SM := fun ls S => (m ls S).bind fun v S1 => .ok (.nx, ls) S1
theorem ms_expr (ha : PE X a (tE G F W ma)) (hs : swapsWith a none pos.line X.env = pure false := by rfl) : PS X (.Expr a pos) (tS G F W (mExpr ma)) := PS_imp (ps_expr ha hs) fun D σ H ⟨ρ, S, ls, T, h⟩ => by
  refine tE_bind T h fun v S1 ρ1 H1 x h1 x1 T1 r1 => ?_
  exact h1 ρ1 H1 σ x1 T1
def mIfS (t : TM) (m n : SM) : SM := fun ls S => (t ls S).bind fun k S1 => match k with
  | true => m ls S1
  | false => n ls S1
theorem ms_if {t : TM} {m n : SM} {c : Expr} {A B : List Stmt} (hc : PT X c (tT G F W t)) (ha : PSs X A (tS G F W m)) (hb : PSs X B (tS G F W n)) : PS X (.If c A B pos) (tS G F W (mIfS t m n)) := by
  refine PS_imp (ps_if hc ha hb) fun D σ H ⟨ρ, S, ls, T, h⟩ => ?_
  refine tT_bind T h fun v S1 ρ1 H1 h1 x1 T1 => ?_
  cases v with
  | true => exact iteT ⟨ρ1, S1, ls, T1, Out.sat_mono (fun _ _ z => z.ext x1) (fun _ _ _ z => z) h1⟩
  | false => exact iteF ⟨ρ1, S1, ls, T1, Out.sat_mono (fun _ _ z => z.ext x1) (fun _ _ _ z => z) h1⟩
def mBrk : SM := fun ls S => .ok (.br, ls) S
theorem ms_brk : PS X (.Break pos) (tS G F W mBrk) := PS_imp ps_break fun D σ H ⟨ρ, S, ls, T, h⟩ => h ρ H σ (Ext.refl _ _) T
/-! ### targets -/
abbrev GM := AV → Lo → Sto → Out Lo
abbrev GsM := List AV → Lo → Sto → Out Lo
def PostG (G : Gd) (F : Fm) (ρ : List Addr) (H : Hp) (Q : L2.St → Hp → Prop) : Lo → Sto → Prop := fun L S' => ∀ ρ' H' σ', Ext ρ H ρ' H' → Stt G F ρ' S' L σ' H' → Q σ' H'
def tGm (G : Gd) (F : Fm) (g : GM) : TG := fun v σ H Q => ∃ ρ S ls a, Stt G F ρ S ls σ H ∧ RV G ρ H a v ∧ (g a ls S).Sat (PostG G F ρ H Q) (fun _ _ _ => False)
def tGs (G : Gd) (F : Fm) (g : GsM) : TGs := fun vs σ H Q => ∃ ρ S ls as, Stt G F ρ S ls σ H ∧ RVs G ρ H as vs ∧ (g as ls S).Sat (PostG G F ρ H Q) (fun _ _ _ => False)
theorem PG_imp {t t' : TG} (h : PG X e t) (i : ∀ v σ H Q, t' v σ H Q → t v σ H Q) : PG X e t' := ⟨fun pins s σ H v u Q I r q => h.run pins s σ H v u Q I r (i v σ H Q q)⟩
theorem PGs_imp {t t' : TGs} (h : PGs X es t) (i : ∀ v σ H Q, t' v σ H Q → t v σ H Q) : PGs X es t' := ⟨fun pins s σ H v u Q I r q => h.run pins s σ H v u Q I r (i v σ H Q q)⟩
def gSet (i : Nat) : GM := fun a ls S => match Nat.blt i ls.length with
  | true => .ok (setL ls i (.v a)) S
  | false => .bad
theorem mg_name (i : Nat) {x : Str} (hN : X.N.Nodup) (hi : X.N[i]? = some x) (hx : Loc X.env.scope x) (hf : X.fn x = true ∨ X.env.scope.names.lookup x = some .local := by first | exact .inl rfl | exact .inr rfl | assumption) : PG X (.Name x pos) (tGm G F (gSet i)) := by
  refine PG_imp (pg_name hN hi hx hf) fun v σ H Q ⟨ρ, S, ls, a, T, r, h⟩ => ?_
  unfold gSet at h
  cases q : Nat.blt i ls.length with
  | false => rw [q] at h; exact h.elim
  | true =>
    rw [q] at h
    exact h ρ H _ (Ext.refl _ _) (T.set (Nat.le_of_ble_eq_true q) r)
def gsNil : GsM := fun as ls S => match as with
  | [] => .ok ls S
  | _ => .bad
def gsCons (g : GM) (r : GsM) : GsM := fun as ls S => match as with
  | a :: q => (g a ls S).bind fun l S1 => r q l S1
  | [] => .bad
theorem mgs_nil : PGs X [] (tGs G F gsNil) := PGs_imp pgs_nil fun vs σ H Q ⟨ρ, S, ls, as, T, r, h⟩ => by
  unfold gsNil at h
  split at h
  · exact ⟨rvs0 r, h ρ H σ (Ext.refl _ _) T⟩
  · exact h.elim
theorem mgs_cons {g : GM} {gr : GsM} (h1 : PG X e (tGm G F g)) (h2 : PGs X es (tGs G F gr)) (hs : ∀ {t : TG} {u : TGs}, PG X e t → PGs X es u → PGs X (e :: es) (gCons t u)) : PGs X (e :: es) (tGs G F (gsCons g gr)) := by
  refine PGs_imp (hs h1 h2) fun vs σ H Q ⟨ρ, S, ls, as, T, r, h⟩ => ?_
  unfold gsCons at h
  split at h
  · rename_i a q
    unfold RVs at r
    obtain ⟨v, ws, rfl, rvA, rs⟩ := r
    refine ⟨v, ws, rfl, ρ, S, ls, a, T, rvA, Out.sat_mono (fun l S1 z ρ1 H1 σ1 x1 T1 => ?_) (fun _ _ _ z => z) (Out.sat_bind.mp h)⟩
    exact ⟨ρ1, S1, l, q, T1, rs.mono x1 q, Out.sat_mono (fun _ _ y ρ2 H2 σ2 x2 => y ρ2 H2 σ2 (x1.trans x2)) (fun _ _ _ z => z) z⟩
  · exact h.elim
def gTupM (n : Nat) (g : GsM) : GM := fun a ls S => match a with
  | .tup xs => match Nat.beq xs.length n with
    | true => g xs ls S
    | false => .bad
  | _ => .bad
theorem mg_tup {g : GsM} {k : Nat} (n : Nat) (hk : X.K = G.K) (hc : X.calm = true) (h : PGs X es (tGs G F g)) (hn : (assignEach es X.env).length = n := by rfl) (hst : (assignEach es X.env).findIdx? (·.1) = none := by rfl) :
    PG X (.Tuple es k pos) (tGm G F (gTupM n g)) := by
  refine PG_imp (pg_tup hc h hn hst) fun v σ H Q ⟨ρ, S, ls, a, T, r, h⟩ => ?_
  unfold gTupM at h
  split at h
  · rename_i xs
    unfold RV at r
    obtain ⟨isS, ws, rfl, s, rs, _⟩ := r
    cases q : Nat.beq xs.length n with
    | false => rw [q] at h; exact h.elim
    | true =>
      rw [q] at h
      exact ⟨isS, ws, rfl, by rw [hk]; exact s, (RVs_len rs).trans (Nat.eq_of_beq_eq_true q), ρ, S, ls, xs, T, rs, h⟩
  · exact h.elim
def mAsg (m : EM) (g : GM) : SM := fun ls S => (m ls S).bind fun v S1 => noX ((g v ls S1).bind fun l S2 => .ok (.nx, l) S2)
where noX : Out (Fl × Lo) → Out (Fl × Lo)
  | .ok a S => .ok a S
  | _ => .bad
theorem noX_sat {m : Out (Fl × Lo)} {P : Fl × Lo → Sto → Prop} {E E' : AE → Lo → Sto → Prop} (h : (mAsg.noX m).Sat P E) : m.Sat P E' := by
  cases m with
  | ok a S => exact h
  | _ => exact h.elim
theorem ms_asg {g : GM} (ha : PE X a (tE G F W ma)) (hg : PG X tg (tGm G F g)) (hs : swapsWithSole [tg] a pos.line X.env = pure false := by rfl) (hw : swappedStores [tg] a X.env = pure none := by rfl)
    (h1 : (assignEach [tg] X.env).map (·.2) = [assign tg X.env] := by rfl) : PS X (.Assign [tg] a pos) (tS G F W (mAsg ma g)) := by
  refine PS_imp (ps_asg ha hg hs hw h1) fun D σ H ⟨ρ, S, ls, T, h⟩ => ?_
  refine tE_bind T h fun v S1 ρ1 H1 x h1 x1 T1 r1 => ?_
  refine ⟨ρ1, S1, ls, v, T1, r1, Out.sat_mono (fun l S2 z ρ2 H2 σ2 x2 T2 => ?_) (fun _ _ _ z => z) (Out.sat_bind.mp (noX_sat (E' := fun _ _ _ => False) h1))⟩
  exact z ρ2 H2 σ2 (x1.trans x2) T2
theorem ms_set (i : Nat) {x : Str} {pos' : Pos} (hN : X.N.Nodup) (hi : X.N[i]? = some x) (hx : Loc X.env.scope x) (ha : PE X a (tE G F W ma)) (hs : swapsWith a (some (.Name x pos')) pos.line X.env = pure false := by rfl) (hf : X.fn x = true ∨ X.env.scope.names.lookup x = some .local := by first | exact .inl rfl | exact .inr rfl | assumption) :
    PS X (.Assign [.Name x pos'] a pos) (tS G F W (mAsg ma (gSet i))) := by
  refine PS_imp (ps_set hN hi hx ha hs hf) fun D σ H ⟨ρ, S, ls, T, h⟩ => ?_
  refine tE_bind T h fun v S1 ρ1 H1 x h1 x1 T1 r1 => ?_
  unfold gSet at h1
  cases q : Nat.blt i ls.length with
  | false => rw [q] at h1; exact h1.elim
  | true =>
    rw [q] at h1
    exact h1 ρ1 H1 _ x1 (T1.set (Nat.le_of_ble_eq_true q) r1)
/-! ### iterators -/
inductive IT where
  | l (i : Nat) | t (xs : List AV) | s (xs : List Nat) | zl (i j : Nat) | zt (xs ys : List AV) | zs (xs : List Nat) (ys : List AV) | en (i : Nat)
  | rg (lo : Int) (n : Nat) | dk (i : Nat) | di (i : Nat) | ev (i : Nat) (lo : Int)
def at? {α : Type} : List α → Nat → Option α
  | [], _ => none
  | x :: _, 0 => some x
  | _ :: r, i + 1 => at? r i
theorem at?_eq {α : Type} : ∀ (l : List α) (i : Nat), at? l i = l[i]?
  | [], _ => rfl
  | _ :: _, 0 => rfl
  | _ :: r, i + 1 => by simp [at?, at?_eq r i]
def zip2 {α β : Type} (f : α → β → AV) (x : Option α) (y : Option β) : Option AV := match x, y with
  | some a, some b =>
      some (f a b)
  | _, _ => none
def lstAt (S : Sto) (i : Nat) : Option (List AV) := match S.get i with
  | some (.lst xs) => some xs
  | _ => none
def ldkAt (S : Sto) (i : Nat) : Option (List (AV × AV)) := match S.get i with
  | some (.ldk kvs) => some kvs
  | _ => none
def nxt (I : IT) (k : Nat) (S : Sto) : Option (Option AV) := match I with
  | .l i => match lstAt S i with
    | some xs => some (at? xs k)
    | none => none
  | .t xs => some (at? xs k)
  | .s xs => match at? xs k with
    | some c => some (some (.str [c]))
    | none => some none
  | .zl i j => match lstAt S i, lstAt S j with
    | some xs, some ys => some (zip2 (fun a b => .tup [a, b]) (at? xs k) (at? ys k))
    | _, _ => none
  | .zt xs ys => some (zip2 (fun a b => .tup [a, b]) (at? xs k) (at? ys k))
  | .zs xs ys => match Nat.ble k xs.length, Nat.ble k ys.length with
    | true, true => some (zip2 (fun a b => .tup [.str [a], b]) (at? xs k) (at? ys k))
    | _, _ => none
  | .en i => match lstAt S i with
    | some xs => match at? xs k with
      | some a => some (some (.tup [.int k, a]))
      | none => some none
    | none => none
  | .ev i lo => match lstAt S i with
    | some xs => match at? xs k with
      | some a => some (some (.tup [.int (lo + k), a]))
      | none => some none
    | none => none
  | .rg lo n => match Nat.blt k n with
    | true => some (some (.int (lo + k)))
    | false => some none
  | .dk i => match ldkAt S i with
    | some kvs => match at? kvs k with
      | some p => some (some p.1)
      | none => some none
    | none => none
  | .di i => match ldkAt S i with
    | some kvs => match at? kvs k with
      | some p => some (some (.tup [p.1, p.2]))
      | none => some none
    | none => none
def RI (G : Gd) (F : Fm) (I : IT) (J : It) (ρ : List Addr) (H : Hp) : Prop := ∀ (F' : Fm) (ρ' : List Addr) (H' : Hp) (S : Sto) (ls : Lo) (σ : L2.St) (k : Nat), Ext ρ H ρ' H' → Stt G F' ρ' S ls σ H' →
  (nxt I k S = some none → J.stop k H') ∧ ∀ v, nxt I k S = some (some v) → J.go k H' ∧ ∀ x H2, J.yld k H' x H2 → ∃ ρ2, Ext ρ' H' ρ2 H2 ∧ Stt G F' ρ2 S ls σ H2 ∧ RV G ρ2 H2 v x
theorem RI.mono {I : IT} {J : It} {ρ ρ' : List Addr} {H H' : Hp} (x : Ext ρ H ρ' H') (h : RI G F I J ρ H) : RI G F I J ρ' H' := fun F' ρ2 H2 S ls σ k y => h F' ρ2 H2 S ls σ k (x.trans y)
abbrev IM := Lo → Sto → Out IT
def PostI (G : Gd) (F : Fm) (ρ : List Addr) (ls : Lo) (σ : L2.St) (H : Hp) (R : It → Hp → Prop) : IT → Sto → Prop := fun I S' => ∀ ρ' H' J, Ext ρ H ρ' H' → Stt G F ρ' S' ls σ H' → RI G F I J ρ' H' → R J H'
def tI (G : Gd) (F : Fm) (W : WX) (m : IM) : TI := fun σ H R => ∃ ρ S ls, Stt G F ρ S ls σ H ∧ (m ls S).Sat (PostI G F ρ ls σ H R) (PostX G F W ρ H)
theorem PI_imp {wi wi' : TI} (h : PI X tg iter wi) (i : ∀ σ H R, wi' σ H R → wi σ H R) : PI X tg iter wi' := ⟨fun pins s σ H R I q => h.run pins s σ H R I (i σ H R q)⟩
/-- over a list, a tuple, a text -/
def iAny (K : PySem.W.Frag) (tl : TE) : TI := fun σ H R => tl σ H fun x H1 => (∃ a, x = .ref a ∧ (∃ xs, SqL K H1 a xs) ∧ R (Itl K a) H1) ∨ (∃ a, x = .ref a ∧ (∃ xs, SqT K H1 a xs) ∧ R (Itt K a) H1) ∨ (∃ z, x = .str z ∧ R (Its z) H1)
theorem pi_any {l : Expr} {tl : TE} (hl : PE X l tl) : PI X tg l (iAny X.K tl) := by
  have hf : PE X l tl := hl
  refine ⟨fun pins s σ H R I h =>
      ?_⟩
  refine thn (hl.run pins s σ H _ I h) fun v s1 ⟨x, H1, I1, r1, got⟩ => ?_
  have he : ∀ (E : Value → Shared → Prop), wpAny (model X.prog X.w) X.A (pure v : Sem Value) (EP X pins σ fun y H => y = x ∧ H = H1) E s1 := fun E => wpAny_pure ⟨x, H1, I1, r1, rfl, rfl⟩
  rcases got with ⟨a, rfl, ⟨xs, hq⟩, q⟩ | ⟨a, rfl, ⟨xs, hq⟩, q⟩ | ⟨z, rfl, q⟩
  · cases r1
    obtain ⟨elA, rvA, isS, atZ⟩ := I1.list hq
    refine wpAny_pyIter_list isS.isList ?_
    refine pi_one (tk := s1.toks) I1 _ (turn_list a _) ⟨_, Heap.get?_push_size _ rfl, rfl, rfl⟩ q
  · cases r1
    obtain ⟨elA, rvA, isS, atZ⟩ := I1.tuple hq
    refine wpAny_pyIter_tuple (show s1.heap.IsTuple a elA.toArray from isS) ?_
    refine pi_one (tk := s1.toks) I1 _ (turn_tuple a _) ⟨_, Heap.get?_push_size _ rfl, rfl, rfl⟩ q
  · obtain ⟨t, rfl⟩ := r1
    cases ha : z.cps.all (· < 128)
    · exact wpAny_pyIter_wide ha (pi_one (tk := s1.toks) I1 _ (turn_str _ z t "str_iterator" (.inr rfl)) ⟨_, Heap.get?_push_size _ rfl, rfl, rfl⟩ q)
    · exact wpAny_pyIter_ascii ha (pi_one (tk := s1.toks) I1 _ (turn_str _ z t "str_ascii_iterator" (.inl rfl)) ⟨_, Heap.get?_push_size _ rfl, rfl, rfl⟩ q)
def itOf (S : Sto) : AV → Option IT
  | .tup xs => some (.t xs)
  | .str s => some (.s s)
  | .ref i => match lstAt S i with
    | some _ => some (.l i)
    | none => none
  | _ => none
theorem lstAt_eq {S : Sto} {i : Nat} {xs : List AV} (h : lstAt S i = some xs) : S.get i = some (.lst xs) := by
  unfold lstAt at h
  split at h
  · rename_i e; cases h; exact e
  · cases h
theorem lst_of {ρ : List Addr} {S : Sto} {ls : Lo} {σ : L2.St} {H : Hp} {i : Nat} {isS : Addr} {xs : List AV} (T : Stt G F ρ S ls σ H) (hp : ρ[i]? = some isS) (h : lstAt S i = some xs) : ∃ vs, H isS = some (.lst vs) ∧ RVs G ρ H xs vs := T.rel.obj i isS _ hp (lstAt_eq h)
theorem ri_l {ρ : List Addr} {H : Hp} {i : Nat} {isS : Addr} (hp : ρ[i]? = some isS) : RI G F (.l i) (Itl G.K isS) ρ H := fun _ ρ' H' S ls σ k x T => by
  have hp' := x.at hp
  cases q : lstAt S i with
  | none => exact ⟨fun z => (by simp only [nxt, q] at z; cases z), fun v z => (by simp only [nxt, q] at z; cases z)⟩
  | some xs =>
    obtain ⟨vs, e, rs⟩ := lst_of T hp' q
    refine ⟨fun z => ?_, fun v z => ?_⟩
    · simp only [nxt, q, at?_eq] at z
      refine ⟨vs, SqL.of e, ?_⟩
      rw [RVs_len rs]
      exact List.getElem?_eq_none_iff.mp (Option.some.inj z)
    · simp only [nxt, q, at?_eq] at z
      obtain ⟨y, hy, ry⟩ := RVs_get rs (Option.some.inj z)
      refine ⟨⟨vs, y, SqL.of e, hy⟩, fun y' H2 ⟨e2, h2⟩ => ?_⟩
      subst e2
      have := h2 vs (SqL.of e)
      rw [hy] at this
      cases this
      exact ⟨ρ', Ext.refl _ _, T, ry⟩
theorem ri_t {ρ : List Addr} {H : Hp} {xs : List AV} {isS : Addr} {vs : List V} (s : SqT G.K H isS vs) (rs : RVs G ρ H xs vs) : RI G F (.t xs) (Itt G.K isS) ρ H := fun _ ρ' H' S ls σ k x T => by
  have s' := x.sqT s
  have rs' := rs.mono x xs
  refine ⟨fun z => ?_, fun v z => ?_⟩
  · simp only [nxt, at?_eq] at z
    refine ⟨vs, s', ?_⟩
    rw [RVs_len rs]
    exact List.getElem?_eq_none_iff.mp (Option.some.inj z)
  · simp only [nxt, at?_eq] at z
    obtain ⟨y, hy, ry⟩ := RVs_get rs' (Option.some.inj z)
    refine ⟨⟨vs, y, s', hy⟩, fun y' H2 ⟨e2, h2⟩ => ?_⟩
    subst e2
    have := h2 vs s'
    rw [hy] at this
    cases this
    exact ⟨ρ', Ext.refl _ _, T, ry⟩
theorem ri_s {ρ : List Addr} {H : Hp} {xs : List Nat} : RI G F (.s xs) (Its (toS xs)) ρ H := fun _ ρ' H' S ls σ k x T => by
  have e : ∀ k : Nat, (toS xs).cps[k]? = xs[k]? := fun k => by simp [toS]
  have e2 : (toS xs).cps.size = xs.length := by simp [toS]
  refine ⟨fun z => ?_, fun v z => ?_⟩
  · simp only [nxt, at?_eq] at z
    cases q : xs[k]? with
    | none => show (toS xs).cps.size ≤ k; rw [e2]; exact List.getElem?_eq_none_iff.mp q
    | some c => simp only [q] at z; cases z
  · simp only [nxt, at?_eq] at z
    cases q : xs[k]? with
    | none => simp only [q] at z; cases z
    | some c =>
      simp only [q] at z
      cases z
      refine ⟨by show k < (toS xs).cps.size; rw [e2]; exact (List.getElem?_eq_some_iff.mp q).1, fun y H2 ⟨h1, c', h2, h3⟩ => ?_⟩
      subst h1
      rw [e, q] at h2
      cases h2
      exact ⟨ρ', Ext.refl _ _, T, by unfold RV; exact h3⟩
def mIt (m : EM) : IM := fun ls S => (m ls S).bind fun v S1 => match itOf S1 v with
  | some I => .ok I S1
  | none => .bad
theorem mi_any (hk : X.K = G.K) (ha : PE X a (tE G F W ma)) : PI X tg a (tI G F W (mIt ma)) := by
  refine PI_imp (pi_any ha) fun σ H R ⟨ρ, S, ls, T, h⟩ => ?_
  refine tE_bind T h fun v S1 ρ1 H1 x h1 x1 T1 r1 => ?_
  rw [hk]
  cases v with
  | tup xs =>
    unfold RV at r1
    obtain ⟨isS, ws, rfl, s, rs, _⟩ := r1
    exact .inr (.inl ⟨isS, rfl, ⟨ws, s⟩, h1 ρ1 H1 _ x1 T1 (ri_t s rs)⟩)
  | str s =>
    unfold RV at r1
    subst r1
    exact .inr (.inr ⟨_, rfl, h1 ρ1 H1 _ x1 T1 ri_s⟩)
  | ref i =>
    unfold RV at r1
    obtain ⟨isS, hp, rfl⟩ := r1
    unfold itOf at h1
    cases q : lstAt S1 i with
    | none => simp only [q] at h1; exact h1.elim
    | some xs =>
      simp only [q] at h1
      obtain ⟨vs, e, _⟩ := lst_of T1 hp q
      exact .inl ⟨isS, rfl, ⟨vs, SqL.of e⟩, h1 ρ1 H1 _ x1 T1 (ri_l hp)⟩
  | _ => exact h1.elim
/-! ### for -/
def loopF (g : GM) (body : SM) (I : IT) : Nat → Nat → Lo → Sto → Out (Fl × Lo)
  | 0, _, _, _ => .bad
  | f + 1, k, ls, S => match nxt I k S with
    | none => .bad
    | some none => .ok (.nx, ls) S
    | some (some v) => match g v ls S with
      | .ok l1 S1 => (body l1 S1).bind fun r S2 => match r.1 with
        | .nx => loopF g body I f (k + 1) r.2 S2
        | .ct => loopF g body I f (k + 1) r.2 S2
        | .br => .ok (.nx, r.2) S2
        | .rt v => .ok (.rt v, r.2) S2
      | _ => .bad
def fuel : Nat := 100000
def mFor (i : IM) (g : GM) (body : SM) : SM := fun ls S => (i ls S).bind fun I S1 => loopF g body I fuel 0 ls S1
theorem for_ok {g : GM} {mb : SM} {I : IT} {J : It} {D : Ends} {ρ0 : List Addr} {H0 : Hp} (ri : RI G F I J ρ0 H0) {ρ : List Addr} {S : Sto} {ls : Lo} {σ : L2.St} {H : Hp} {n : Nat} (x : Ext ρ0 H0 ρ H) (T : Stt G F ρ S ls σ H) (h : (loopF g mb I n 0 ls S).Sat (PostS G F ρ0 H0 D) (PostX G F W ρ0 H0)) :
    ∃ Wm : Nat → Nat → L2.St → Hp → Prop, (∃ m, Wm 0 m σ H) ∧ ∀ i m σ H, Wm i m σ H →
  (J.stop i H ∧ D.nx σ H) ∨ (J.go i H ∧ ∃ N : L2.St → Hp → Prop, (∀ σ' H', N σ' H' → ∃ m', m' < m ∧ Wm (i + 1) m' σ' H') ∧ ∀ x H', J.yld i H x H' → tGm G F g x σ H' fun σ2 H2 => tS G F W mb { D with nx := N, ct := N, bk := D.nx } σ2 H2) := by
  refine ⟨fun i m σ H => ∃ ρ S ls, Ext ρ0 H0 ρ H ∧ Stt G F ρ S ls σ H ∧ (loopF g mb I m i ls S).Sat (PostS G F ρ0 H0 D) (PostX G F W ρ0 H0), ⟨n, ρ, S, ls, x, T, h⟩, ?_⟩
  rintro i m σ1 H1 ⟨ρ1, S1, l1, x1, T1, h1⟩
  cases m with
  | zero => exact h1.elim
  | succ m =>
    obtain ⟨r1, r2⟩ := ri _ ρ1 H1 S1 l1 σ1 i x1 T1
    unfold loopF at h1
    cases q : nxt I i S1 with
    | none => rw [q] at h1; exact h1.elim
    | some o =>
      cases o with
      | none =>
        rw [q] at h1
        exact .inl ⟨r1 q, h1 ρ1 H1 σ1 x1 T1⟩
      | some v =>
        rw [q] at h1
        obtain ⟨go, yl⟩ := r2 v q
        refine .inr ⟨go, fun σ' H' => ∃ ρ S ls, Ext ρ0 H0 ρ H' ∧ Stt G F ρ S ls σ' H' ∧ (loopF g mb I m (i + 1) ls S).Sat (PostS G F ρ0 H0 D) (PostX G F W ρ0 H0), fun σ' H' n => ⟨m, Nat.lt_succ_self _, n⟩, fun y H2 hy => ?_⟩
        obtain ⟨ρ2, x2, T2, rvA⟩ := yl y H2 hy
        refine ⟨ρ2, S1, l1, v, T2, rvA, ?_⟩
        dsimp only at h1
        cases qg : g v l1 S1 with
        | ok l2 S2 =>
          rw [qg] at h1
          intro ρ3 H3 σ3 x3 T3
          refine ⟨ρ3, S2, l2, T3, Out.sat_mono (fun r S4 z ρ4 H4 σ4 x4 T4 => ?_) (fun _ _ _ z => z.ext (x1.trans (x2.trans x3))) (Out.sat_bind.mp h1)⟩
          have xx := x1.trans (x2.trans (x3.trans x4))
          obtain ⟨f, l4⟩ := r
          cases f with
          | nx => exact ⟨ρ4, S4, l4, xx, T4, z⟩
          | ct => exact ⟨ρ4, S4, l4, xx, T4, z⟩
          | br => exact z ρ4 H4 σ4 xx T4
          | rt w => exact z ρ4 H4 σ4 xx T4
        | _ => rw [qg] at h1; exact h1.elim
theorem ms_for {i : IM} {g : GM} {mb : SM} (hp : PassesOwn (model X.prog X.w) X.A X.env X.xe) (hc : X.calm = true) (hi : PI X tg iter (tI G F W i)) (hg : PG X tg (tGm G F g)) (hb : PSs X body (tS G F W mb))
    (hs : ∀ x, foldedSetIterable iter X.env x = pure x := by intro _; rfl) : PS X (.For tg iter body [] pos) (tS G F W (mFor i g mb)) := by
  refine PS_imp (ps_for hp hc hi hg hb hs) fun D σ H ⟨ρ, S, ls, T, h⟩ => ?_
  refine ⟨ρ, S, ls, T, Out.sat_mono (fun I S1 q ρ1 H1 J x1 T1 ri => ?_) (fun _ _ _ q => q) (Out.sat_bind.mp h)⟩
  exact for_ok ri (Ext.refl _ _) T1 (Out.sat_mono (fun _ _ z => z.ext x1) (fun _ _ _ z => z.ext x1) q)
/-! ### while -/
def loopW (t : TM) (body : SM) : Nat → Lo → Sto → Out (Fl × Lo)
  | 0, _, _ => .bad
  | f + 1, ls, S => (t ls S).bind fun k S1 => match k with
    | true => (body ls S1).bind fun r S2 => match r.1 with
      | .nx => loopW t body f r.2 S2
      | .ct => loopW t body f r.2 S2
      | .br => .ok (.nx, r.2) S2
      | .rt v => .ok (.rt v, r.2) S2
    | false => .ok (.nx, ls) S1
def mWhile (t : TM) (body : SM) : SM := fun ls S => loopW t body fuel ls S
theorem ms_while {c : Expr} {t : TM} {mb : SM} (hp : PassesOwn (model X.prog X.w) X.A X.env X.xe) (hc : PT X c (tT G F W t)) (hb : PSs X body (tS G F W mb)) : PS X (.While c body [] pos) (tS G F W (mWhile t mb)) := by
  refine PS_imp (ps_while hp hc hb) fun D σ0 H0 ⟨ρ0, S0, l0, T0, h0⟩ => ?_
  refine ⟨fun m σ H => ∃ ρ S ls, Ext ρ0 H0 ρ H ∧ Stt G F ρ S ls σ H ∧ (loopW t mb m ls S).Sat (PostS G F ρ0 H0 D) (PostX G F W ρ0 H0), ⟨fuel, ρ0, S0, l0, Ext.refl _ _, T0, h0⟩, ?_⟩
  rintro m σ H ⟨ρ, S, ls, x, T, h⟩
  cases m with
  | zero => exact h.elim
  | succ m =>
    unfold loopW at h
    refine ⟨ρ, S, ls, T, Out.sat_mono (fun v S1 h1 ρ1 H1 x1 T1 => ?_) (fun _ _ _ z => z.ext x) (Out.sat_bind.mp h)⟩
    cases v with
    | true =>
      refine iteT ⟨fun σ' H' => ∃ ρ S ls, Ext ρ0 H0 ρ H' ∧ Stt G F ρ S ls σ' H' ∧ (loopW t mb m ls S).Sat (PostS G F ρ0 H0 D) (PostX G F W ρ0 H0), fun σ' H' n => ⟨m, Nat.lt_succ_self _, n⟩, ?_⟩
      refine ⟨ρ1, S1, ls, T1, Out.sat_mono (fun r S4 z ρ4 H4 σ4 x4 T4 => ?_) (fun _ _ _ z => z.ext (x.trans x1)) (Out.sat_bind.mp h1)⟩
      have xx := x.trans (x1.trans x4)
      obtain ⟨f, l4⟩ := r
      cases f with
      | nx => exact ⟨ρ4, S4, l4, xx, T4, z⟩
      | ct => exact ⟨ρ4, S4, l4, xx, T4, z⟩
      | br => exact z ρ4 H4 σ4 xx T4
      | rt w => exact z ρ4 H4 σ4 xx T4
    | false => exact iteF (h1 ρ1 H1 σ (x.trans x1) T1)
end
end Sh

end

noncomputable section
namespace Sh
open PySem PySem.Spec PyProof.Rows L2
/-! a comprehension's block: the frame's told cells, which it does not capture, are known in it -/
/-- a frame's cells are no frames, and not of the base -/
def CBx (X : Cx) : Prop := ∀ (pn : List (Addr × Obj)) (xe : Value → Shared → Prop) (calm : Bool) (A : Around) (pins : List (Addr × Obj)) (σ : L2.St) (H : Hp) (s : Shared), Inv { X with pn := pn, xe := xe, calm := calm, A := A } pins σ H s → ∀ y c, X.env.cells.lookup y = some c → X.base.get? c = none ∧ c ∉ frs X.stack
theorem CBx.at {X : Cx} {pins : List (Addr × Obj)} {σ : L2.St} {H : Hp} {s : Shared} (h : CBx X) (I : Inv X pins σ H s) : ∀ y c, X.env.cells.lookup y = some c → X.base.get? c = none ∧ c ∉ frs X.stack := h X.pn X.xe X.calm X.A pins σ H s I
section
variable {X : Cx} {pins : List (Addr × Obj)} {σ : L2.St} {H : Hp} {s : Shared} {C : Cs}
/-- the objects of told cells -/
theorem cfr_mk (hN : X.N.Nodup) {ls : Lo} (I : Inv X pins σ H s) (h : ∀ i k a, nth ls i = .c k a → ∃ n b x, X.N[i]? = some n ∧ X.env.cells.lookup n = some b ∧ CK X.env.scope n ∧ σ[i]? = some (some x)) :
    ∃ C : Cs, CFr (fm X) ls σ C ∧ (∀ b o, C.lookup b = some o → s.heap.get? b = some o ∧ ∃ i k a n, nth ls i = .c k a ∧ X.N[i]? = some n ∧ X.env.cells.lookup n = some b) := by
  have one : ∀ {i k : Nat} {a : AV} {n : Str} {b : Addr}, nth ls i = .c k a → X.N[i]? = some n → X.env.cells.lookup n = some b → ∃ o x u, s.heap.get? b = some o ∧ σ[i]? = some (some x) ∧ o.data = .cell (some u) ∧ RelV x u := fun {i k a n b} e e1 e2 => by
    obtain ⟨n', b', x, h1, h2, h3, h4⟩ := h i k a e
    rw [e1] at h1; cases h1
    obtain ⟨m, hn, hl⟩ := I.loc
    obtain ⟨u, r, l⟩ := hl i n x e1 h4 (h3.elim (fun z => .inr (.inl z)) fun z => .inr (.inr z))
    rcases l with ⟨z, _⟩ | ⟨_, c, ec, o, ho, hd⟩
    · have z : X.env.scope.names.lookup n = some .local := z
      rcases h3 with q | q <;> rw [z] at q <;> cases q
    · rw [e2] at ec; cases ec
      exact ⟨o, x, u, ho, h4, hd, r⟩
  have all : ∀ m, ∃ C : Cs, (∀ b o, C.lookup b = some o → s.heap.get? b = some o ∧ ∃ i k a n, i < m ∧ nth ls i = .c k a ∧ X.N[i]? = some n ∧ X.env.cells.lookup n = some b) ∧
      ∀ i k a n b, i < m → nth ls i = .c k a → X.N[i]? = some n → X.env.cells.lookup n = some b → ∃ o, C.lookup b = some o := by
    intro m
    induction m with
    | zero => exact ⟨[], fun b o z => (by cases z), fun i _ _ _ _ z => (by omega)⟩
    | succ m ih =>
      obtain ⟨C, h1, h2⟩ := ih
      by_cases e : ∃ k a, nth ls m = .c k a
      · obtain ⟨k, a, e⟩ := e
        obtain ⟨n, b, x, n1, n2, n3, n4⟩ := h m k a e
        obtain ⟨o, _, u, ho, _⟩ := one e n1 n2
        refine ⟨(b, o) :: C, fun b' o' z => ?_, fun i k' a' n' b' hi e' q1 q2 => ?_⟩
        · rw [List.lookup_cons] at z
          split at z
          · rename_i q
            cases z
            have q := eq_of_beq q
            subst q
            exact ⟨ho, m, k, a, n, by omega, e, n1, n2⟩
          · obtain ⟨g, i, k', a', n', hi, r⟩ := h1 b' o' z
            exact ⟨g, i, k', a', n', by omega, r⟩
        · rw [List.lookup_cons]
          split
          · exact ⟨_, rfl⟩
          · rename_i q
            refine h2 i k' a' n' b' ?_ e' q1 q2
            by_cases z : i = m
            · subst z
              rw [n1] at q1; cases q1
              rw [n2] at q2; cases q2
              simp at q
            · omega
      · refine ⟨C, fun b o z => ?_, fun i k a n b hi e' => h2 i k a n b ?_ e'⟩
        · obtain ⟨g, i, k, a, n, hi, r⟩ := h1 b o z
          exact ⟨g, i, k, a, n, by omega, r⟩
        · by_cases z : i = m
          · exact absurd ⟨k, a, by rw [← z]; exact e'⟩ e
          · omega
  obtain ⟨C, h1, h2⟩ := all ls.length
  have hlt : ∀ {i k : Nat} {a : AV}, nth ls i = .c k a → i < ls.length := fun {i k a} e => nth_lt (by rw [e]; exact fun z => by cases z)
  refine ⟨C, ⟨fun b o z => ?_, fun i k a n b e e1 e2 => ?_, fun i j n m b e1 e2 e3 e4 => ?_⟩, fun b o z => ?_⟩
  · obtain ⟨_, i, k, a, n, _, r⟩ := h1 b o z
    exact ⟨i, k, a, n, r⟩
  · obtain ⟨o, ho⟩ := h2 i k a n b (hlt e) e e1 e2
    obtain ⟨o', x, u, g1, g2⟩ := one e e1 e2
    rw [(h1 b o ho).1] at g1
    cases g1
    exact ⟨o, x, u, ho, g2⟩
  · have := I.ok.inj n m b e3 e4
    subst this
    exact nodup_ix hN e1 e2
  · obtain ⟨g, i, k, a, n, _, r⟩ := h1 b o z
    exact ⟨g, i, k, a, n, r⟩
theorem free_of (I : Inv X pins σ H s) (h : ∀ b o, C.lookup b = some o → ∃ n, X.env.cells.lookup n = some b) : Free H C := fun b o e => by
  obtain ⟨n, hn⟩ := h b o e
  exact I.freeC n b hn
end
section
variable {X : Cx}
/-- a comprehension's reading; C the objects of told cells; el: what a turn puts into the new object u -/
def tCz (X : Cx) (scope : Scope) (wi : TI) (g : TG) (tt : TT) (u : HO) (el : Addr → L2.St → Hp → (Hp → Prop) → Prop) (vs : List Nat) : TE := fun σ H Q => wi σ H fun J H1 => ∃ OC : Cs → Prop,
  (∀ pins s, Inv X pins σ H1 s → ∃ C, OC C ∧ ∀ b o, C.lookup b = some o → s.heap.get? b = some o ∧ ∃ n, X.env.cells.lookup n = some b ∧ scope.names.lookup n ≠ some .free) ∧
  ∀ C, OC C → Free H1 C → ∀ D, fz H1 C D = none → ∃ Wl : Nat → Nat → Hp → Prop, (∃ m, Wl 0 m (upd (fz H1 C) D u)) ∧ ∀ i m H, Wl i m H →
    (J.stop i H ∧ (Held H C → Q (.ref D) (uz H C))) ∨ (J.go i H ∧ ∃ Nx : Hp → Prop, (∀ H', Nx H' → ∃ m', m' < m ∧ Wl (i + 1) m' H') ∧ ∀ x H', J.yld i H x H' → g x (wipe σ vs) H' fun σ2 H2 => wipe σ2 vs = wipe σ vs ∧ tt σ2 H2 fun b H3 =>
      if b = true then el D σ2 H3 Nx else Nx H3)
def elL (te : TE) (D : Addr) (σ : L2.St) (H : Hp) (Nx : Hp → Prop) : Prop := te σ H fun y H4 => ∃ acc, H4 D = some (.lst acc) ∧ acc.length < sizeLine ∧ Nx (upd H4 D (.lst (acc ++ [y])))
abbrev tLcZ (X : Cx) (scope : Scope) (wi : TI) (g : TG) (tt : TT) (te : TE) (vs : List Nat) : TE := tCz X scope wi g tt (.lst []) (elL te) vs
/-- the turns of a comprehension's block, by what the element's part (E) has to say -/
def CzLoop (P : Program) (w : World) (A : Around) (xc tg : Expr) (ifs : List Expr) (E : Addr → Env → (Shared → Prop) → (Value → Shared → Prop) → Shared → Prop) : Prop :=
  ∀ (R : Result → Shared → Prop) (s : Shared) (it : Value) (D : Addr) (env : Env) (I : Nat → Shared → Prop),
    (∀ n s, I n s → wpAny (model P w) A (pyNext it) (fun r s1 => match r with
      | none => R (.ok .next) s1
      | some v => wpAny (model P w) A (letOwnedTupleGo tg it v) (fun _ s2 => wpAny (model P w) A (assign tg env v) (fun _ s3 =>
          wpAny (model P w) A (forIn ifs true fun c r => if r = true then do let ok ← isTrue c env (eval c env); pure (ForInStep.yield ok) else pure (ForInStep.yield r)) (fun ok s4 =>
            if ok = true then E D env (fun s5 => ∃ m, m < n ∧ I m s5) (notedBy (model P w) A env fun e s' => R (.error e) s') s4 else ∃ m, m < n ∧ I m s4)
            (notedBy (model P w) A env fun e s' => R (.error e) s') s3) (notedBy (model P w) A env fun e s' => R (.error e) s') s2) (notedBy (model P w) A env fun e s' => R (.error e) s') s1) (notedBy (model P w) A env fun e s' => R (.error e) s') s) →
    ∀ n, I n s → codeAny (model P w) A (.compLoop xc 0 it (.ref D) env) R s
/-- what a kind of comprehension is: its new object, its turns -/
structure CzKind (X : Cx) (xc tg iter : Expr) (ifs : List Expr) (newN : Sem Value) (oN : Obj) (uN : HO) (E : Addr → Env → (Shared → Prop) → (Value → Shared → Prop) → Shared → Prop) : Prop where
  cls : ∃ r, clausesOf xc = ⟨tg, iter, ifs, 0⟩ :: r
  loop : CzLoop X.prog X.w X.A xc tg ifs E
  start : ∀ {R : Result → Shared → Prop} {s : Shared} {it acc : Value} {env : Env}, codeAny (model X.prog X.w) X.A (.compLoop xc 0 it acc env) R s → wpAny (model X.prog X.w) X.A (pyIter it) (fun it' s' => codeAny (model X.prog X.w) X.A (.compLoop xc 0 it' acc env) R s') (notedBy (model X.prog X.w) X.A env fun x s' => R (.error x) s') s → codeAny (model X.prog X.w) X.A (.compStart xc 0 it acc env) R s
  new : ∀ {Q : Value → Shared → Prop} {E : Value → Shared → Prop} {s : Shared}, Q (.ref s.heap.objs.size) { s with heap := s.heap.push oN } → wpAny (model X.prog X.w) X.A newN Q E s
  obj : ∀ (h : Heap) (H : Hp), sysModules < h.objs.size → ObjOk X.prog X.w H (h.push oN) h.objs.size uN
/-- what a turn's element does in the block -/
def CzEl (X : Cx) (el : Addr → L2.St → Hp → (Hp → Prop) → Prop) (E : Addr → Env → (Shared → Prop) → (Value → Shared → Prop) → Shared → Prop) (vs : List Nat) (s : Shared) (H : Hp) (scope : Scope) (ce : Env) (fp : List Addr) : Prop :=
  ∀ (pins : List (Addr × Obj)) (s2 : Shared) (σ2 : L2.St) (H2 : Hp) (D : Addr) (Nx : Hp → Prop) (P : Shared → Prop) (Ex : Value → Shared → Prop), Inv (X.blk s H scope ce fp) pins σ2 H2 s2 → el D σ2 H2 Nx → (∀ s3 σ3 H3, wipe σ3 vs = wipe σ2 vs → Inv (X.blk s H scope ce fp) pins σ3 H3 s3 → Nx H3 → P s3) → (∀ e s', (X.blk s H scope ce fp).xe e s' → Ex e s') → E D ce P Ex s2
abbrev CellsOut (X : Cx) (cl : List (Str × Addr)) : Prop := ∀ y c, cl.lookup y = some c → X.base.get? c = none ∧ c ∉ frs X.stack
theorem cz_core {xc : Expr} {newN : Sem Value} {oN : Obj} {uN : HO} {el : Addr → L2.St → Hp → (Hp → Prop) → Prop} {EW : Addr → Env → (Shared → Prop) → (Value → Shared → Prop) → Shared → Prop} {pins : List (Addr × Obj)} {s : Shared} {σ : L2.St} {H : Hp} {Q : VK} {tg iter : Expr} {ifs : List Expr} {scope : Scope} {own : List (Str × Nat)} {pos' : Pos} {wi : TI} {g : TG} {tt : TT} {use : Option (Value → Sem Unit)} {Qf : Value → Shared → Prop} (hcb : CBx X) (hc : X.calm = true) (hN : X.N.Nodup) (I : Inv X pins σ H s) (hi : PI X tg iter wi) (ok : BlkOk X.N X.env.scope scope own)
    (hg : ∀ (s : Shared) (H : Hp) (L : Addr) (cl : List (Str × Addr)) (fp : List Addr), CellsOut X cl → PG (X.blk s H scope (compEnvC scope cl L X.env) fp) tg g)
    (ht : ∀ (s : Shared) (H : Hp) (L : Addr) (cl : List (Str × Addr)) (fp : List Addr), CellsOut X cl → PTs (X.blk s H scope (compEnvC scope cl L X.env) fp) ifs tt)
    (ck : CzKind X xc tg iter ifs newN oN uN EW) (he : ∀ (s : Shared) (H : Hp) (L : Addr) (cl : List (Str × Addr)) (fp : List Addr), CellsOut X cl → CzEl X el EW (own.map (·.2)) s H scope (compEnvC scope cl L X.env) fp) (hs : ∀ x, foldedSetIterable iter X.env x = pure x)
    (h : tCz X scope wi g tt uN el (own.map (·.2)) σ H Q)
    (hRR : ∀ D L s' m H', Inv X pins σ H' s' → Q (.ref D) H' → s'.heap.Ns L m → FpOk X pins H' L → compPost (model X.prog X.w) X.A X.xe use Qf (.ref D) L (.ok .next) s') :
    wpAny (model X.prog X.w) X.A (comprehension xc scope X.env pos' newN false (eval iter X.env) use) Qf X.xe s := by
  have hfree : ∀ y ∈ scope.names, y.2 = .free → ∃ c, X.env.cells.lookup y.1 = some c := fun y hy e => (ok.free y hy e).elim (fun k => I.ok.has _ (.inl k)) fun k => I.ok.has _ (.inr k)
  refine wpAny_comprehension_free (use := use) ck.cls.choose_spec hs (closure_ok hfree) ok.kind (fun y hy e => by rw [ok.uniq y hy, e])
    (thn (hi.run pins s σ H _ I h) fun xv sA hx => thn hx fun itv sB h2 => ?_)
  obtain ⟨it, fp, tn, J, HB, e, IB, T, stB, fB, OC, mk, q⟩ := h2
  subst e
  obtain ⟨C, hOC, hC⟩ := mk pins sB IB
  have fC : Free HB C := free_of IB fun b o e => let ⟨n, h, _⟩ := (hC b o e).2; ⟨n, h⟩
  refine ck.new (newEnv_comp ?_)
  generalize hD : sB.heap.objs.size = D
  have hDn : HB D = none := IB.hok.fresh (Nat.le_of_eq hD)
  have hDC : C.lookup D = none := by
    cases z : C.lookup D with
    | none => rfl
    | some o => exact absurd (Heap.lt_size (hC D o z).1) (Nat.not_lt.mpr (Nat.le_of_eq hD))
  obtain ⟨Wl, ⟨m0, w0⟩, turn⟩ := q C hOC fC D (by rw [fz_ne hDC]; exact hDn)
  generalize hsD : ({ sB with heap := sB.heap.push oN } : Shared) = sD
  have hpD : sD.heap = sB.heap.push oN := by rw [← hsD]
  have ID : Inv X pins σ (upd HB D uN) sD := by
    rw [← hsD]
    refine IB.laid (t' := sB.toks) (fun b o e => Heap.get?_push_of_some _ e) (Nat.le_of_eq hD) ?_
    rw [← hD]
    exact ck.obj _ _ IB.big
  have hCD : ∀ b o, C.lookup b = some o → sD.heap.get? b = some o ∧ ∃ n, X.env.cells.lookup n = some b ∧ scope.names.lookup n ≠ some .free := fun b o e => ⟨by rw [hpD]; exact Heap.get?_push_of_some _ (hC b o e).1, (hC b o e).2⟩
  have szf : ∀ b ∈ fp, b < sB.heap.objs.size := fun b hb => let ⟨_, e, _⟩ := T.obj _ _ stB b hb; Heap.lt_size e
  have fD : ∀ b ∈ fp, FpOk X pins (upd HB D uN) b ∧ b < sD.heap.objs.size := fun b hb => by
    have hlt := szf b hb
    refine ⟨⟨?_, (fB b hb).2⟩, by rw [hpD, Heap.size_push]; exact Nat.lt_succ_of_lt hlt⟩
    rw [upd_ne
          (by rw [← hD]; exact Nat.ne_of_lt hlt)]
    exact (fB b hb).1
  have stD : tn 0 sD.heap := T.keep _ _ _ stB fun b _ o e => by rw [hpD]; exact Heap.get?_push_of_some _ e
  have IE := block_start ID ok hN fD
  have fz_upd : upd (fz HB C) D uN = fz (upd HB D uN) C := by
    funext b
    by_cases e : b = D
    · subst e; rw [upd_same, fz_ne hDC, upd_same]
    · rw [upd_ne e]
      cases z : C.lookup b with
      | none => rw [fz_ne z, fz_ne z, upd_ne e]
      | some o => rw [fz_at z, fz_at z]
  rw [fz_upd] at w0
  have pg := fun HH => hg sD HH sD.heap.objs.size (cellsFrom (sD.heap.objs.size + 1) scope.names (cloFrom X.env.cells scope.names [])) fp
  have pt := fun HH => ht sD HH sD.heap.objs.size (cellsFrom (sD.heap.objs.size + 1) scope.names (cloFrom X.env.cells scope.names [])) fp
  have pe := fun HH => he sD HH sD.heap.objs.size (cellsFrom (sD.heap.objs.size + 1) scope.names (cloFrom X.env.cells scope.names [])) fp
  show codeAny _ _ (.compStart xc 0 (.ref it) (.ref D) (compEnvC scope (cellsFrom (sD.heap.objs.size + 1) scope.names (cloFrom X.env.cells scope.names [])) sD.heap.objs.size X.env)) (compPost (model X.prog X.w) X.A X.xe use Qf (.ref D) sD.heap.objs.size) { sD with heap := pushCells (sD.heap.push { cls := .type "dict", data := .dict #[] }) scope.names }
  -- the block's cells: captured, or new
  have cm : ∀ {y c}, (y, c) ∈ cloFrom X.env.cells scope.names [] → X.env.cells.lookup y = some c ∧ scope.names.lookup y = some .free := fun {y c} hm => by
    rcases cloFrom_mem hm with hm | ⟨h1,
          rfl⟩
    · cases hm
    · obtain ⟨c, hc⟩ :=
          hfree _ h1 rfl
      rw [hc]
      exact ⟨rfl, ok.uniq _ h1⟩
  have memC : ∀ {y c}, (cellsFrom (sD.heap.objs.size + 1) scope.names (cloFrom X.env.cells scope.names [])).lookup y = some c → (X.env.cells.lookup y = some c ∧ scope.names.lookup y = some .free) ∨ sD.heap.objs.size < c := fun {y c} e => by
    rw [← Heap.size_push sD.heap { cls := .type "dict", data := .dict #[] }] at e
    rcases cells_mem (PySem.mem_of_lookup e) with hm | ⟨_,
          h2, _⟩
    · exact .inl (cm hm)
    · rw [Heap.size_push] at h2; exact .inr h2
  have out : CellsOut X (cellsFrom (sD.heap.objs.size + 1) scope.names (cloFrom X.env.cells scope.names [])) := fun y c e => by
    rcases memC e with ⟨h1, _⟩ | h1
    · exact hcb.at ID y c h1
    · refine ⟨Heap.get?_none_of_le (Nat.le_trans (Nat.le_trans ID.ok.bsz ID.sz) (Nat.le_of_lt h1)), fun z => ?_⟩
      rcases List.mem_cons.mp (ID.stkSub c z) with e | e
      · have := ID.lt; rw [← e] at this; exact absurd this (Nat.not_lt.mpr (Nat.le_of_lt h1))
      · exact ID.nofs (Nat.le_of_lt h1) e
  generalize hce : compEnvC scope (cellsFrom (sD.heap.objs.size + 1) scope.names (cloFrom X.env.cells scope.names [])) sD.heap.objs.size X.env = ce at IE pg pt pe ⊢
  have cL : ce.locals = sD.heap.objs.size := by subst hce; rfl
  have cC : ce.cells = cellsFrom (sD.heap.objs.size + 1) scope.names (cloFrom X.env.cells scope.names []) := by subst hce; rfl
  generalize hHD : upd HB D uN = HD at ID IE w0 fD
  have fCD : Free HD C := free_of ID fun b o e => let ⟨n, h, _⟩ := (hCD b o e).2; ⟨n, h⟩
  have baseC : ∀ b o, C.lookup b = some o → X.base.get? b = none ∧ b ∉ frs X.stack := fun b o e => let ⟨n, h, _⟩ := (hCD b o e).2; hcb.at ID n b h
  have kpE : ∀ b u, sD.heap.get? b = some u → (pushCells (sD.heap.push { cls := .type "dict", data := .dict #[] }) scope.names).get? b = some u := fun b o e => pushCells_keeps _ _ _ _ (Heap.get?_push_of_some _ e)
  generalize hsE : ({ sD with heap := pushCells (sD.heap.push { cls := .type "dict", data := .dict #[] }) scope.names } : Shared) = sE at IE ⊢
  have hpE : sE.heap = pushCells (sD.heap.push { cls := .type "dict", data := .dict #[] }) scope.names := by rw [← hsE]
  have nfp : ∀ b ∈ fp, fz HD C b = none := fun b hb => by
    rw [fz_ne]
    · exact (fD b hb).1.1
    · cases z : C.lookup b with
      | none => rfl
      | some o =>
        obtain ⟨n, hn, _⟩ := (hCD b o z).2
        exact absurd rfl ((fD b hb).1.2.2.2.2.1 n b hn)
  -- the block's state, the told cells known
  have IZ : Inv (X.blk sD (fz HD C) scope ce fp) [] (wipe σ (own.map (·.2))) (fz HD C) sE := by
    have k := IE.ok
    refine ⟨⟨k.mod, k.kind, k.glob, k.blt, k.above, k.inj, k.has, k.cab, k.hd, k.frames, k.stk, k.exf, fun b o e => ⟨(k.bs b o e).1, ?_⟩, k.bsz, k.noex, k.exfs, k.funs, fun b hb => ?_⟩, IE.os, IE.bare, ?_, IE.loc, IE.cell, ?_, fun y c e => ?_, fun p hp => absurd (show p ∈ ([] : List (Addr × Obj)) ++ [] from hp) (by simp), hok_fz fCD IE.hok fun b o e => by rw [hpE]; exact kpE b o (hCD b o e).1, IE.len⟩
    · show fz HD C b = none
      rw [fz_ne]
      · exact (k.bs b o e).2
      · cases z : C.lookup b with
        | none => rfl
        | some o' => have e : X.base.get? b = some o := e; rw [(baseC b o' z).1] at e; cases e
    · show fz HD C b = none
      rw [fz_ne]
      · exact k.frf b hb
      · cases z : C.lookup b with
        | none => rfl
        | some o' => exact absurd (show b ∈ frs X.stack from hb) (baseC b o' z).2
    · show Un (frs X.stack) fp (fz HD C) (fz HD C) sD.heap sE.heap
      rw [hpE]
      exact Un.kept kpE
    · show fz HD C ce.locals = none
      rw [fz_ne]
      · exact IE.free
      · cases z : C.lookup ce.locals with
        | none => rfl
        | some o' => rw [cL] at z; exact absurd (Heap.lt_size (hCD _ o' z).1) (Nat.lt_irrefl _)
    · have e : ce.cells.lookup y = some c := e
      show fz HD C c = none
      rw [fz_ne]
      · exact IE.freeC y c e
      · cases z : C.lookup c with
        | none => rfl
        | some o' =>
          obtain ⟨g1, n, hn, hf⟩ := hCD c o' z
          rw [cC] at e
          rcases memC e with ⟨h1, h2⟩ | h1
          · exact absurd h2 (by rw [ID.ok.inj y n c h1 hn]; exact hf)
          · exact absurd (Heap.lt_size g1) (Nat.not_lt.mpr (Nat.le_of_lt h1))
  have out' : CellsOut X ce.cells := by rw [cC]; exact out
  have stE : tn 0 sE.heap := T.keep _ _ _ stD fun b _ o e => by rw [hpE]; exact kpE b o e
  have stat : ∀ {σ' : L2.St} {H' : Hp} {s' : Shared}, Inv (X.blk sD (fz HD C) scope ce fp) [] σ' H' s' → (∀ b ∈ fp, H' b = none) → ∀ b ∈ fp, FpOk (X.blk sD (fz HD C) scope ce fp) [] H' b := fun {σ' H' s'} I' hn b hb =>
    ⟨hn b hb, (I'.ok.exf b hb).1, I'.ok.exfs b hb, .inl hb, fun x c e =>
          (I'.ok.exf b hb).2 x c e, fun p hp => absurd (show p ∈ ([] : List (Addr × Obj)) ++ [] from hp) (by simp)⟩
  have loop : codeAny (model X.prog X.w) X.A (.compLoop xc 0 (.ref it) (.ref D) ce) (compPost (model X.prog X.w) X.A X.xe use Qf (.ref D) sD.heap.objs.size) sE := by
    refine ck.loop _ _ _ _ _ (fun n s' => ∃ i H', Inv (X.blk sD (fz HD C) scope ce fp) [] (wipe σ (own.map (·.2))) H' s' ∧ tn i s'.heap ∧ (∀ b ∈ fp, H' b = none) ∧ Wl i n H') ?_ m0 ⟨0, fz HD C, IZ, stE, nfp, w0⟩
    rintro n sF ⟨i, HF, IF, stF, nF, wF⟩
    rcases turn i n HF wF with ⟨stop, qq⟩ | ⟨go, Nx, hNx, step⟩
    · refine thnF (T.done (X.blk sD (fz HD C) scope ce fp) rfl rfl rfl hc i [] sF _ HF (fun _ _ => False) IF (stat IF nF) stF stop) fun r sG ⟨hr, IG⟩ => ?_
      subst hr
      have hfF : Held HF C := fun b o e => IG.base.frzs b o Fzo (fz_at e)
      have un : Un (frs X.stack) fp HD (uz HF C) sD.heap sG.heap := un_fz fCD (fun b o e => (hCD b o e).1) IG.hok hfF IG.base
      have IH : Inv X pins σ (uz HF C) sG := ID.call' (ch := fp) IG.os un (hok_uz hfF IG.hok) IG.bare fun b hb => ⟨(fD b hb).1.2.2.2.1, (fD b hb).1.2.1, (fD b hb).1.2.2.2.2.1, (fD b hb).1.2.2.2.2.2⟩
      have nL : uz HF C sD.heap.objs.size = none := by
        refine uz_none ?_
        have z : HF ce.locals = none := IG.free
        rw [cL] at z
        exact z
      obtain ⟨m, hn, _⟩ := IG.loc
      have hn : sG.heap.Ns ce.locals m := hn
      rw [cL] at hn
      exact hRR D _ sG m _ IH (qq hfF) hn (ID.fpOk (Nat.le_refl _) nL)
    · refine thnF (T.item (X.blk sD (fz HD C) scope ce fp) rfl rfl rfl hc i [] sF _ HF (fun _ _ => False) IF (stat IF nF) stF go) fun r sG ⟨u, hr, hG⟩ => ?_
      subst hr
      refine thnF hG fun _ sI ⟨x, HI, II, rI, yI, stI, nI⟩ => ?_
      refine thnF ((pg _ out).run _ sI _ HI x u _ (II.pinned (stat II nI) (T.obj _ _ stI)) rI (step x HI yI)) fun _ sJ ⟨σJ, HJ, IJ, hwJ, qJ⟩ => ?_
      refine thnF ((pt _ out).run _ sJ σJ HJ _ IJ qJ) fun b sK ⟨HK, IK, qK⟩ => ?_
      have fin : ∀ {s' : Shared} {σ9 : L2.St} {H' : Hp}, wipe σ9 (own.map (·.2)) = wipe σ (own.map (·.2)) → Inv (X.blk sD (fz HD C) scope ce fp) ([] ++ pinsAt fp sI.heap) σ9 H' s' → Nx H' → ∃ m, m < n ∧ ∃ i H', Inv (X.blk sD (fz HD C) scope ce fp) [] (wipe σ (own.map (·.2))) H' s' ∧ tn i s'.heap ∧ (∀ b ∈ fp, H' b = none) ∧ Wl i m H' := fun {s' σ9 H'} hw9 I' nx => by
        obtain ⟨m', hm, w'⟩ :=
              hNx H' nx
        have pin' : ∀ b ∈ fp, ∀ o, sI.heap.get? b = some o → s'.heap.get? b = some o ∧ H' b = none := fun b hb o e =>
          let z :=
                I'.pin (b, o) (List.mem_append_right _ (List.mem_append_right _ (mem_pinsAt hb e)))
          ⟨z.1, z.2.1⟩
        refine ⟨m', hm, i + 1, H', (I'.unpinned (pins := [])).weak (by rw [← hw9, wipe_length]) (fun j v e => ?_), T.keep _ _ _ stI fun b hb o e => (pin' b hb o e).1, fun b hb => ?_, w'⟩
        · rw [← hw9] at e
          exact (wipe_some e).1
        · obtain ⟨o, e, _⟩ := T.obj _ _ stI b hb
          exact (pin' b hb o e).2
      cases b with
      | false =>
        simp only [Bool.false_eq_true, if_false] at qK ⊢
        exact fin hwJ IK qK
      | true =>
        simp only [if_true] at qK ⊢
        exact pe _ out _ sK σJ HK D Nx _ _ IK qK (fun sM σM HM wM IM nx => fin (wM.trans hwJ) IM nx) fun e s' z => z.elim
  exact ck.start loop (T.self X.A 0 _ _ _ stE loop)
theorem lc_kind {elt tg iter : Expr} {ifs : List Expr} {scope : Scope} {pos : Pos} : CzKind X (.ListComp elt [⟨tg, iter, ifs, 0⟩] scope pos) tg iter ifs (newList []) { cls := .type "list", data := .seq ([] : List Value).toArray } (.lst [])
    (fun D env P Ex s => wpAny (model X.prog X.w) X.A (eval elt env) (fun x s4 => wpAny (model X.prog X.w) X.A (call (.builtin "list.append") [.ref D, x]) (fun _ s5 => P s5) Ex s4) Ex s) where
  cls := ⟨_, rfl⟩
  loop := fun R s it D env I turn n h => compLoop_any I turn n h
  start := fun h0 h => codeAny_compStart_list h0 h
  new := fun h => wpAny_newObj_type h (by show 0 ≤ sizeLine; decide)
  obj := fun h H hb => ⟨Nat.zero_le _, [], 0, .nil, Heap.get?_push_size _ rfl⟩
theorem lc_el {elt : Expr} {te : TE} {vs : List Nat} {s : Shared} {H : Hp} {scope : Scope} {ce : Env} {fp : List Addr} (he : PE (X.blk s H scope ce fp) elt te) : CzEl X (elL te) (fun D env P Ex s => wpAny (model X.prog X.w) X.A (eval elt env) (fun x s4 => wpAny (model X.prog X.w) X.A (call (.builtin "list.append") [.ref D, x]) (fun _ s5 => P s5) Ex s4) Ex s) vs s H scope ce fp :=
  fun pins s2 σ2 H2 D Nx P Ex I h hP hE => wpAny_mono (he.run pins s2 σ2 H2 _ I h) (fun z sL ⟨yv, HL, IL, rL, acc, hDL, hz, nx⟩ => app_ok (X := X.blk s H scope ce fp) IL hDL hz rL fun sM IM => hP sM _ _ rfl IM nx) hE
theorem pe_lcZ {elt tg iter : Expr} {ifs : List Expr} {scope : Scope} {own : List (Str × Nat)} {pos : Pos} {wi : TI} {g : TG} {tt : TT} {te : TE} (hcb : CBx X) (hc : X.calm = true) (hN : X.N.Nodup) (hi : PI X tg iter wi) (ok : BlkOk X.N X.env.scope scope own)
    (hg : ∀ (s : Shared) (H : Hp) (L : Addr) (cl : List (Str × Addr)) (fp : List Addr), CellsOut X cl → PG (X.blk s H scope (compEnvC scope cl L X.env) fp) tg g)
    (ht : ∀ (s : Shared) (H : Hp) (L : Addr) (cl : List (Str × Addr)) (fp : List Addr), CellsOut X cl → PTs (X.blk s H scope (compEnvC scope cl L X.env) fp) ifs tt)
    (he : ∀ (s : Shared) (H : Hp) (L : Addr) (cl : List (Str × Addr)) (fp : List Addr), CellsOut X cl → PE (X.blk s H scope (compEnvC scope cl L X.env) fp) elt te) (hs : ∀ x, foldedSetIterable iter X.env x = pure x) :
    PE X (.ListComp elt [⟨tg, iter, ifs, 0⟩] scope pos) (tLcZ X scope wi g tt te (own.map (·.2))) := by
  refine ⟨fun pins s σ H Q I h =>
        ?_⟩
  rw [eval_ListComp]
  refine cz_core hcb hc hN I hi ok hg ht lc_kind (fun s H L cl fp out => lc_el (he s H L cl fp out)) hs h fun D L s' m H' I' q hn f => ⟨m, hn, fun h'' sb => ?_⟩
  obtain ⟨f0, f1, f2, f3, f4, f5⟩ :=
        f
  exact ⟨.ref D, H', I'.turned (t' :=
        s'.toks) (fun b o hb e => (sb.2 b hb).trans e) f0 f1 f3 f4 f5, rfl, q⟩
/-- name = [..] on one line, the name a local: stored ahead of the block's end -/
theorem ps_setLcZ {i : Nat} {y : Str} {py : Pos} {elt tg iter : Expr} {ifs : List Expr} {scope : Scope} {own : List (Str × Nat)} {pos spos : Pos} {wi : TI} {g : TG} {tt : TT} {te : TE} (hcb : CBx X) (hc : X.calm = true) (hN : X.N.Nodup) (hy : X.N[i]? = some y) (hyl : X.env.scope.names.lookup y = some .local)
    (hsw : swapsWith (.ListComp elt [⟨tg,
          iter, ifs, 0⟩] scope pos) (some (.Name y py)) spos.line X.env = pure true) (hi : PI X tg iter wi) (ok : BlkOk X.N X.env.scope scope own)
    (hg : ∀ (s : Shared) (H : Hp) (L : Addr) (cl : List (Str × Addr)) (fp : List Addr), CellsOut X cl → PG (X.blk s H scope (compEnvC scope cl L X.env) fp) tg g)
    (ht : ∀ (s : Shared) (H : Hp) (L : Addr) (cl : List (Str × Addr)) (fp : List Addr), CellsOut X cl → PTs (X.blk s H scope (compEnvC scope cl L X.env) fp) ifs tt)
    (he : ∀ (s : Shared) (H : Hp) (L : Addr) (cl : List (Str × Addr)) (fp : List Addr), CellsOut X cl → PE (X.blk s H scope (compEnvC scope cl L X.env) fp) elt te) (hs : ∀ x, foldedSetIterable iter X.env x = pure x) :
    PS X (.Assign [.Name y py] (.ListComp elt [⟨tg, iter, ifs, 0⟩] scope pos) spos) (tAsg (tLcZ X scope wi g tt te (own.map (·.2))) (gName i)) := by
  refine ⟨fun pins s σ H D I h =>
        ?_⟩
  rw
        [exec_Assign_Name_used _ _ _ _ hsw]
  refine wpAny_bind
        (wpAny_standAt (wpAny_bind ?_))
  show wpAny _ X.A (do let _ ← comprehension (.ListComp elt [⟨tg,
        iter, ifs, 0⟩] scope pos) scope X.env (firstIterPos [⟨tg, iter, ifs, 0⟩] pos) (newList []) false (eval iter X.env) (some (assign (.Name y py) X.env))) _ _ s
  have h : tLcZ X scope wi g tt te (own.map (·.2)) σ H (fun x H1 => gName i x σ H1 D.nx) := h
  refine wpAny_bind (thn (cz_core (Qf := fun _ s' => SP X pins D .next s') hcb hc hN I hi ok hg ht lc_kind (fun s H L cl fp out => lc_el (he s H L cl fp out)) hs h fun DL L s' m H' I' q hn f => ?_) fun _ s' hq => wpAny_pure (wpAny_pure hq))
  show wpAny _ _ (assign (.Name y py) X.env (.ref DL)) _ _ _
  refine wpAny_assign_Name (store_ok2 (v := V.ref DL) I' hN hy (.inl hyl) rfl (fun sT IT ⟨a, sb, ha⟩ => ?_) (.inr hyl))
  obtain ⟨f0, f1, f2, f3, f4, f5⟩ :=
        f
  have apart : L ≠ a := ha.elim (fun z => by rw [z]; exact f1) fun z e => f4 y a z e.symm
  exact ⟨m, hn.sameBut sb apart, fun hh sb3 => ⟨_, H', IT.turned (t' := sT.toks) (fun b o hb e => (sb3.2 b hb).trans e) f0 f1 f3 f4 f5, q⟩⟩
end
end Sh

end

noncomputable section
namespace Sh
open PySem PySem.Spec PyProof.Rows L2
section
variable {X : Cx} {G : Gd} {W : WX} {F : Fm} {ma mb : EM} {a b e iter tg : Expr} {es : List Expr} {pos : Pos}
/-! ### targets that store own names only -/
def PostGv (G : Gd) (F : Fm) (vs : List Nat) (ρ : List Addr) (σ : L2.St) (H : Hp) (Q : L2.St → Hp → Prop) : Lo → Sto → Prop := fun L S' => ∀ ρ' H' σ', Ext ρ H ρ' H' → Stt G F ρ' S' L σ' H' → wipe σ' vs = wipe σ vs → Q σ' H'
def tGv (G : Gd) (F : Fm) (vs : List Nat) (g : GM) : TG := fun v σ H Q => ∃ ρ S ls a, Stt G F ρ S ls σ H ∧ RV G ρ H a v ∧ (g a ls S).Sat (PostGv G F vs ρ σ H Q) (fun _ _ _ => False)
def tGsv (G : Gd) (F : Fm) (vs : List Nat) (g : GsM) : TGs := fun us σ H Q => ∃ ρ S ls as, Stt G F ρ S ls σ H ∧ RVs G ρ H as us ∧ (g as ls S).Sat (PostGv G F vs ρ σ H Q) (fun _ _ _ => False)
theorem wipe_set {i : Nat} {x : V} : ∀ {vs : List Nat} {σ : L2.St}, i ∈ vs → wipe (σ.set i (some x)) vs = wipe σ vs
  | [], _, h => by cases h
  | v :: vs, σ, h => by
    unfold wipe
    by_cases hi : i ∈ vs
    · rw [wipe_set hi]
    · have e : v = i := by
        rcases List.mem_cons.mp
            h with q | q
        · exact q.symm
        · exact absurd q hi
      subst e
      have comm : ∀ (vs : List Nat) (σ : L2.St), v ∉ vs → wipe (σ.set v (some x)) vs = (wipe σ vs).set v (some x) := by
        intro vs
        induction vs with
        | nil => intro σ _; rfl
        | cons w ws ih =>
          intro σ hn
          unfold wipe
          rw [ih σ (fun z => hn (List.mem_cons_of_mem _ z))]
          exact List.set_comm _ _ (fun z => hn (by rw [z]; exact List.mem_cons_self))
      rw [comm vs σ hi, List.set_set]
theorem mgv_name {vs : List Nat} (i : Nat) {x : Str} (hN : X.N.Nodup) (hi : X.N[i]? = some x) (hx : Loc X.env.scope x) (hv : i ∈ vs) (hf : X.fn x = true ∨ X.env.scope.names.lookup x = some .local := by first | exact .inl rfl | exact .inr rfl | assumption) : PG X (.Name x pos) (tGv G F vs (gSet i)) := by
  refine PG_imp (pg_name hN hi hx hf) fun v σ H Q ⟨ρ, S, ls, a, T, r, h⟩ => ?_
  unfold gSet at h
  cases q : Nat.blt i ls.length with
  | false => rw [q] at h; exact h.elim
  | true =>
    rw [q] at h
    exact h ρ H _ (Ext.refl _ _) (T.set (Nat.le_of_ble_eq_true q) r) (wipe_set hv)
theorem mgvs_nil {vs : List Nat} : PGs X [] (tGsv G F vs gsNil) := PGs_imp pgs_nil fun us σ H Q ⟨ρ, S, ls, as, T, r, h⟩ => by
  unfold gsNil at h
  split at h
  · exact ⟨rvs0 r, h ρ H σ (Ext.refl _ _) T rfl⟩
  · exact h.elim
theorem mgvs_cons {vs : List Nat} {g : GM} {gr : GsM} (h1 : PG X e (tGv G F vs g)) (h2 : PGs X es (tGsv G F vs gr)) (hs : (assignEach (e :: es) X.env).map (·.2) = assign e X.env :: (assignEach es X.env).map (·.2) := by rfl) : PGs X (e :: es) (tGsv G F vs (gsCons g gr)) := by
  refine PGs_imp (pgs_cons h1 h2 hs) fun us σ H Q ⟨ρ, S, ls, as, T, r, h⟩ => ?_
  unfold gsCons at h
  split at h
  · rename_i a q
    unfold RVs at r
    obtain ⟨v, ws, rfl, rv, rs⟩ := r
    refine ⟨v, ws, rfl, ρ, S, ls, a, T, rv, Out.sat_mono (fun l S1 z ρ1 H1 σ1 x1 T1 w1 => ?_) (fun _ _ _ z => z) (Out.sat_bind.mp h)⟩
    exact ⟨ρ1, S1, l, q, T1, rs.mono x1 q, Out.sat_mono (fun _ _ y ρ2 H2 σ2 x2 T2 w2 => y ρ2 H2 σ2 (x1.trans x2) T2 (w2.trans w1)) (fun _ _ _ z => z) z⟩
  · exact h.elim
theorem mgs_cons' {g : GM} {gr : GsM} (h1 : PG X e (tGm G F g)) (h2 : PGs X es (tGs G F gr)) (hs : (assignEach (e :: es) X.env).map (·.2) = assign e X.env :: (assignEach es X.env).map (·.2) := by rfl) : PGs X (e :: es) (tGs G F (gsCons g gr)) := mgs_cons h1 h2 fun a b => pgs_cons a b hs
theorem mgv_tup {vs : List Nat} {g : GsM} {k : Nat} (n : Nat) (hk : X.K = G.K) (hc : X.calm = true) (h : PGs X es (tGsv G F vs g)) (hn : (assignEach es X.env).length = n := by rfl) (hst : (assignEach es X.env).findIdx? (·.1) = none := by rfl) :
    PG X (.Tuple es k pos) (tGv G F vs (gTupM n g)) := by
  refine PG_imp (pg_tup hc h hn hst) fun v σ H Q ⟨ρ, S, ls, a, T, r, h⟩ => ?_
  unfold gTupM at h
  split at h
  · rename_i xs
    unfold RV at r
    obtain ⟨p, ws, rfl, s, rs, _⟩ := r
    cases q : Nat.beq xs.length n with
    | false => rw [q] at h; exact h.elim
    | true =>
      rw [q] at h
      exact ⟨p, ws, rfl, by rw [hk]; exact s, (RVs_len rs).trans (Nat.eq_of_beq_eq_true q), ρ, S, ls, xs, T, rs, h⟩
  · exact h.elim
theorem wipe_wipe (σ : L2.St) (vs : List Nat) : wipe (wipe σ vs) vs = wipe σ vs := by
  have sn : ∀ (vs : List Nat) (σ : L2.St) (v : Nat), v ∈ vs → (wipe σ vs).set v none = wipe σ vs := by
    intro vs
    induction vs with
    | nil => intro σ v h; cases h
    | cons w ws ih =>
      intro σ v h
      unfold wipe
      by_cases e : v = w
      · subst e; rw [List.set_set]
      · rcases List.mem_cons.mp h with q | q
        · exact absurd q e
        · rw [List.set_comm _ _ (Ne.symm e), ih σ v q]
  have mid : ∀ (ws : List Nat) (σ : L2.St), (∀ v ∈ ws, σ.set v none = σ) → wipe σ ws = σ := by
    intro ws
    induction ws with
    | nil => intro σ _; rfl
    | cons w ws ih =>
      intro σ h
      unfold wipe
      rw [ih σ fun v hv => h v (List.mem_cons_of_mem _ hv)]
      exact h w List.mem_cons_self
  exact mid vs _ fun v hv => sn vs σ v hv
def wipeL (ls : Lo) : List Nat → Lo
  | [] => ls
  | v :: vs => setL (wipeL ls vs) v .u
theorem wipeL_len (ls : Lo) : ∀ vs : List Nat, (wipeL ls vs).length = ls.length
  | [] => rfl
  | v :: vs => by unfold wipeL; rw [setL_len, wipeL_len ls vs]
def wipeC : Lo → Lo
  | [] => []
  | .c _ _ :: r => .u :: wipeC r
  | x :: r => x :: wipeC r
theorem wipeC_len : ∀ ls : Lo, (wipeC ls).length = ls.length
  | [] => rfl
  | .c _ _ :: r => by simp [wipeC, wipeC_len r]
  | .u :: r => by simp [wipeC, wipeC_len r]
  | .v _ :: r => by simp [wipeC, wipeC_len r]
theorem nth_wipeC : ∀ (ls : Lo) (i : Nat), nth (wipeC ls) i = match nth ls i with
    | .c _ _ => .u
    | l => l
  | [], i => by cases i <;> rfl
  | .c _ _ :: r, 0 => rfl
  | .u :: r, 0 => rfl
  | .v _ :: r, 0 => rfl
  | .c _ _ :: r, i + 1 => nth_wipeC r i
  | .u :: r, i + 1 => nth_wipeC r i
  | .v _ :: r, i + 1 => nth_wipeC r i
theorem nth_wipeL : ∀ (ls : Lo) (vs : List Nat) (i : Nat), nth (wipeL ls vs) i = if i ∈ vs ∧ i < ls.length then .u else nth ls i
  | ls, [], i => by simp [wipeL]
  | ls, v :: vs, i => by
    unfold wipeL
    rw [nth_setL, nth_wipeL ls vs i, wipeL_len]
    by_cases e : i = v
    · subst e
      by_cases h : i < ls.length <;> simp [h]
    · by_cases h : i ∈ vs ∧ i < ls.length
      · simp [e, h]
      · simp [e, h]
/-- the locals as a block sees them -/
theorem blk_stt {F F' : Fm} {ρ ρ' : List Addr} {S S' : Sto} {ls : Lo} {σ : L2.St} {H H' : Hp} (vs : List Nat) (T : Stt G F ρ S ls σ H) (x : Ext ρ H ρ' H') (R : Rel G ρ' S' H') (K : AllKnown G ρ' S' H') : Stt G F' ρ' S' (wipeC (wipeL ls vs)) (L2.wipe σ vs) H' := by
  have none_ : ∀ {i k : Nat} {a : AV}, nth (wipeC (wipeL ls vs)) i ≠ .c k a := fun {i k a} e => by
    rw [nth_wipeC] at e
    split at e
    · cases e
    · rename_i l h
      rw [e] at h
      exact h k a rfl
  have keep : ∀ {i : Nat}, i ∉ vs → (L2.wipe σ vs)[i]? = σ[i]? := fun {i} h => by
    clear none_
    induction vs with
    | nil => rfl
    | cons v r ih =>
      unfold L2.wipe
      rw [List.getElem?_set_ne (fun z => h (by rw [z]; exact List.mem_cons_self))]
      exact ih fun z => h (List.mem_cons_of_mem _ z)
  refine ⟨R, by rw [wipe_length, wipeC_len, wipeL_len]; exact T.len, fun i => ?_, K, fun i j k a b e => absurd e none_⟩
  rw [nth_wipeC, nth_wipeL]
  by_cases h : i ∈ vs ∧ i < ls.length
  · rw [if_pos h]; trivial
  · rw [if_neg h]
    have z := T.loc i
    cases e : nth ls i with
    | u => trivial
    | c k a => trivial
    | v a =>
      rw [e] at z
      obtain ⟨y, h1, h2⟩ := z
      have hi : i ∉ vs := fun m => h ⟨m, nth_lt (by rw [e]; exact fun z => by cases z)⟩
      exact ⟨y, by rw [keep hi]; exact h1, h2.mono x a⟩
/-! ### comprehensions -/
abbrev W0 : WX := fun _ _ _ _ => False
/-- what an element puts into the new object r -/
abbrev EF := Nat → Lo → Sto → Out Unit
def loopC (g : GM) (t : Option TM) (m : EF) (I : IT) (r : Nat) (l0 : Lo) : Nat → Nat → Sto → Out AV
  | 0, _, _ => .bad
  | f + 1, k, S => match nxt I k S with
    | none => .bad
    | some none => .ok (.ref r) S
    | some (some v) => match g v l0 S with
      | .ok l1 S1 => (match t with
        | none => Out.ok true S1
        | some t => t l1 S1).bind fun b S2 => match b with
          | true => (m r l1 S2).bind fun _ S3 => loopC g t m I r l0 f (k + 1) S3
          | false => loopC g t m I r l0 f (k + 1) S2
      | _ => .bad
def efL (m : EM) : EF := fun r l S => (m l S).bind fun y S3 => match lstAt S3 r with
  | some acc => match lenOk (y :: acc) with
    | true => .ok () (S3.put r (.lst (acc ++ [y])))
    | false => .bad
  | none => .bad
def xBad {α : Type} : Out α → Out α
  | .ok a S => .ok a S
  | .ex _ _ _ => .bad
  | .bad => .bad
  | .dr n k => .dr n fun i => xBad (k i)
theorem xBad_sat {α : Type} {P : α → Sto → Prop} {E E' : AE → Lo → Sto → Prop} : ∀ {m : Out α}, (xBad m).Sat P E → m.Sat P E'
  | .ok _ _, h => h
  | .ex _ _ _, h => h.elim
  | .bad, h => h
  | .dr n k, h => fun i h0 h1 => xBad_sat (h i h0 h1)
/-- no captured name's cell has a number -/
def capFree (ls : Lo) : List Nat → Bool
  | [] => true
  | j :: r => match nth ls j with
    | .c _ _ => false
    | _ => capFree ls r
theorem capFree_at {ls : Lo} : ∀ {cap : List Nat} {j k : Nat} {a : AV}, capFree ls cap = true → j ∈ cap → nth ls j ≠ .c k a
  | q :: r, j, k, a, h, m, e => by
    unfold capFree at h
    rcases List.mem_cons.mp m with z | z
    · subst z; rw [e] at h; cases h
    · split at h
      · cases h
      · exact capFree_at h z e
/-- the own cells let go behind a call or a block -/
def offR (ls : Lo) : Out AV → Out AV
  | .ok a S => match offL ls S with
    | some S2 => .ok a S2
    | none => .bad
  | .ex e _ S => match offL ls S with
    | some S2 => .ex e ls S2
    | none => .bad
  | .bad => .bad
  | .dr n k => .dr n fun i => offR ls (k i)
theorem offR_sat {ls : Lo} {P : AV → Sto → Prop} {E : AE → Lo → Sto → Prop} : ∀ {m : Out AV}, (offR ls m).Sat P E → m.Sat (fun a S => ∃ S2, offL ls S = some S2 ∧ P a S2) (fun e _ S => ∃ S2, offL ls S = some S2 ∧ E e ls S2)
  | .ok a S, h => by
    unfold offR at h
    cases q : offL ls S with
    | none => rw [q] at h; exact h.elim
    | some S2 => rw [q] at h; exact ⟨S2, q, h⟩
  | .ex e _ S, h => by
    unfold offR at h
    cases q : offL ls S with
    | none => rw [q] at h; exact h.elim
    | some S2 => rw [q] at h; exact ⟨S2, q, h⟩
  | .bad, h => h
  | .dr n k, h => fun i h0 h1 => offR_sat (h i h0 h1)
def mCz (nw : Sto → Out AV) (i : IM) (vs cap : List Nat) (g : GM) (t : Option TM) (m : EF) : EM := fun ls S => (i ls S).bind fun I S1 => match capFree ls cap with
  | false => .bad
  | true => offR ls ((nw (onL ls S1)).bind fun _ S2 => xBad (loopC g t m I (onL ls S1).n (wipeC (wipeL ls vs)) fuel 0 S2))
abbrev mLc (i : IM) (vs cap : List Nat) (g : GM) (t : Option TM) (m : EM) : EM := mCz (newL []) i vs cap g t (efL m)
/-- the new object, told of -/
def NewR (G : Gd) (u : HO) (nw : Sto → Out AV) : Prop := ∀ {ρ : List Addr} {S : Sto} {H : Hp} {P : AV → Sto → Prop} {E : AE → Lo → Sto → Prop}, Rel G ρ S H → AllKnown G ρ S H → (nw S).Sat P E → ∀ {D : Addr}, H D = none →
  ∃ ρ' S', Rel G ρ' S' (upd H D u) ∧ AllKnown G ρ' S' (upd H D u) ∧ Ext ρ H ρ' (upd H D u) ∧ P (.ref S.n) S' ∧ ρ'[S.n]? = some D
/-- a turn's element, told of -/
def ElR (G : Gd) (el : Addr → L2.St → Hp → (Hp → Prop) → Prop) (m : EF) : Prop := ∀ {r : Nat} {D : Addr} {σ : L2.St} {H : Hp} {Nx : Hp → Prop} {ρ : List Addr} {S : Sto} {l : Lo}, Stt G F0 ρ S l σ H → ρ[r]? = some D →
  (m r l S).Sat (fun _ S' => ∀ ρ' H', Ext ρ H ρ' H' → Rel G ρ' S' H' → AllKnown G ρ' S' H' → Nx H') (fun _ _ _ => False) → el D σ H Nx
def tYesM (t : Option TM) : Lo → Sto → Out Bool := fun ls S => match t with
  | none => .ok true S
  | some t => t ls S
theorem pts_none : PTs X [] (tT G F W (tYesM none)) := ⟨fun pins s σ H Q I ⟨ρ, S, ls, T, h⟩ => (pts_nil (X := X)).run pins s σ H Q I (h ρ H (Ext.refl _ _) T)⟩
theorem pts_some {c : Expr} {t : TM} (h : PT X c (tT G F W t)) : PTs X [c] (tT G F W (tYesM (some t))) := pts_one h
theorem newL_rel {ρ : List Addr} {S : Sto} {H : Hp} {P : AV → Sto → Prop} {E : AE → Lo → Sto → Prop} (R : Rel G ρ S H) (K : AllKnown G ρ S H) (h : (newL [] S).Sat P E) {D : Addr} (hD : H D = none) :
    ∃ ρ' S', Rel G ρ' S' (upd H D (.lst [])) ∧ AllKnown G ρ' S' (upd H D (.lst [])) ∧ Ext ρ H ρ' (upd H D (.lst [])) ∧ P (.ref S.n) S' ∧ ρ'[S.n]? = some D := by
  have T : Stt G F0 ρ S [] [] H := ⟨R, rfl, fun i => trivial, K, fun i j k a b e => (by cases e)⟩
  obtain ⟨_, kk⟩ := newL_ok (vs := []) (Q := fun _ _ => True) T (by unfold RVs; rfl) h
  obtain ⟨ρ', S', T', x, p, r⟩ := kk D hD
  unfold RV at r
  obtain ⟨D', hD', e⟩ := r
  injection e with e
  subst e
  exact ⟨ρ', S', T'.rel, T'.known, x, p, hD'⟩
theorem el_list {te : TE} {m : EM} (he : te = tE G F0 W0 m) : ElR G (elL te) (efL m) := fun {r D σ H Nx ρ S l} T hD h => by
  subst he
  refine ⟨ρ, S, l, T, Out.sat_mono (fun w S7 z7 ρ7 H7 x7 T7 u ru => ?_) (fun _ _ _ z => z.elim) (Out.sat_bind.mp h)⟩
  have hDp := x7.at hD
  cases ql : lstAt S7 r with
  | none => rw [ql] at z7; exact z7.elim
  | some acc =>
    rw [ql] at z7
    cases qo : lenOk (w :: acc) with
    | false => simp only [qo] at z7; exact z7.elim
    | true =>
      simp only [qo] at z7
      obtain ⟨vacc, eD, racc⟩ := lst_of T7 hDp ql
      obtain ⟨T8, x8⟩ := putL T7 hDp (lstAt_eq ql) eD (RVs_app racc (RVs_one ru))
      refine ⟨vacc, eD, ?_, z7 ρ7 _ (x7.trans x8) T8.rel T8.known⟩
      have hl : vacc.length + 1 ≤ sizeLine := by
        have := lenOk_le (vs := u :: vacc) qo (by unfold RVs; exact ⟨u, vacc, rfl, ru, racc⟩)
        simpa using this
      omega
theorem cz_read {uN : HO} {nw : Sto → Out AV} {el : Addr → L2.St → Hp → (Hp → Prop) → Prop} (hnw : NewR G uN nw) {i : IM} {g : GM} {t : Option TM} {m : EF} (hel : ElR G el m) {scope : Scope} (own : List (Str × Nat)) (cap : List Nat) (hN : X.N.Nodup)
    (hcap : ∀ (j : Nat) (n : Str), X.N[j]? = some n → scope.names.lookup n = some .free → j ∈ cap) {σ : L2.St} {H : Hp} {Q : VK} (hh : tE G (fm X) W (mCz nw i (own.map (·.2)) cap g t m) σ H Q) :
    tCz X scope (tI G (fm X) W i) (tGv G F0 (own.map (·.2)) g) (tT G F0 W0 (tYesM t)) uN el (own.map (·.2)) σ H Q := by
  obtain ⟨ρ, S, ls, T, h⟩ := hh
  unfold mCz at h
  refine ⟨ρ, S, ls, T, Out.sat_mono (fun I S1 q ρ1 H1 J x1 T1 ri => ?_) (fun _ _ _ z => z) (Out.sat_bind.mp h)⟩
  cases hcf : capFree ls cap with
  | false => rw [hcf] at q; exact q.elim
  | true =>
  rw [hcf] at q
  refine ⟨fun C => CFr (fm X) ls σ C, fun pins s Inv1 => ?_, fun C cf fC D hD => ?_⟩
  · obtain ⟨C, cf, hC⟩ := cfr_mk hN Inv1 (ls := ls) fun i k a e => by
      obtain ⟨⟨y, h1, _⟩, _, n, b, _, h3, h4, h5⟩ := T1.c_at e
      exact ⟨n, b, y, h3, h4, h5, h1⟩
    refine ⟨C, cf, fun b o e => ?_⟩
    obtain ⟨g1, i, k, a, n, e1, e2, e3⟩ := hC b o e
    exact ⟨g1, n, e3, fun z => capFree_at hcf (hcap i n e2 z) e1⟩
  · obtain ⟨Ro, Ko⟩ := T1.on fC cf
    obtain ⟨ρ2, S2, R2, K2, x2, q2, hD'⟩ := hnw Ro Ko (Out.sat_bind.mp (offR_sat q)) hD
    have q3 := xBad_sat (E' := fun _ _ _ => False) q2
    have xz : Ext ρ1 H1 ρ1 (fz H1 C) := ext_fz fC
    refine ⟨fun k m' H' => ∃ ρ0 S0, Ext ρ2 (upd (fz H1 C) D uN) ρ0 H' ∧ Rel G ρ0 S0 H' ∧ AllKnown G ρ0 S0 H' ∧ (loopC g t m I (onL ls S1).n (wipeC (wipeL ls (own.map (·.2)))) m' k S0).Sat (fun a S' => ∃ S2', offL ls S' = some S2' ∧ PostV G (fm X) ρ ls σ H Q a S2') (fun _ _ _ => False),
      ⟨fuel, ρ2, S2, Ext.refl _ _, R2, K2, q3⟩, ?_⟩
    rintro k m' H' ⟨ρ3, S3, x3, R3, K3, h3⟩
    have xA : Ext ρ1 (fz H1 C) ρ3 H' := x2.trans x3
    have xB : Ext ρ1 H1 ρ3 H' := xz.trans xA
    have blk : ∀ {F' : Fm} {ρ' : List Addr} {S' : Sto} {H'' : Hp}, Ext ρ3 H' ρ' H'' → Rel G ρ' S' H'' → AllKnown G ρ' S' H'' → Stt G F' ρ' S' (wipeC (wipeL ls (own.map (·.2)))) (wipe σ (own.map (·.2))) H'' := fun {F' ρ' S' H''} y R K => blk_stt _ T1 (xB.trans y) R K
    cases m' with
    | zero => exact h3.elim
    | succ m' =>
      obtain ⟨ra, rb⟩ := ri _ ρ3 H' S3 _ _ k xB (blk (F' := fm X) (Ext.refl _ _) R3 K3)
      unfold loopC at h3
      cases qn : nxt I k S3 with
      | none => rw [qn] at h3; exact h3.elim
      | some o =>
        cases o with
        | none =>
          rw [qn] at h3
          obtain ⟨S4, e4, z⟩ := h3
          refine .inl ⟨ra qn, fun hf => ?_⟩
          obtain ⟨T5, x5⟩ := T1.off fC cf xA hf R3 K3 e4
          exact z ρ3 _ (x1.trans x5) T5 _ (by unfold RV; exact ⟨D, x3.at hD', rfl⟩)
        | some v =>
          rw [qn] at h3
          obtain ⟨go, yl⟩ := rb v qn
          refine .inr ⟨go, fun H'' => ∃ ρ0 S0, Ext ρ2 (upd (fz H1 C) D uN) ρ0 H'' ∧ Rel G ρ0 S0 H'' ∧ AllKnown G ρ0 S0 H'' ∧ (loopC g t m I (onL ls S1).n (wipeC (wipeL ls (own.map (·.2)))) m' (k + 1) S0).Sat (fun a S' => ∃ S2', offL ls S' = some S2' ∧ PostV G (fm X) ρ ls σ H Q a S2') (fun _ _ _ => False), fun H'' n => ⟨m', Nat.lt_succ_self _, n⟩, fun y H4 hy => ?_⟩
          obtain ⟨ρ4, x4, T4, rv⟩ := yl y H4 hy
          dsimp only at h3
          cases qg : g v (wipeC (wipeL ls (own.map (·.2)))) S3 with
          | ok l2 S5 =>
            rw [qg] at h3
            refine ⟨ρ4, S3, _, v, blk x4 T4.rel T4.known, rv, ?_⟩
            rw [qg]
            intro ρ5 H5 σ5 x5 T5 w5
            refine ⟨w5.trans (wipe_wipe _ _), ?_⟩
            refine ⟨ρ5, S5, l2, T5, Out.sat_mono (fun b S6 z ρ6 H6 x6 T6 => ?_) (fun _ _ _ z => z.elim) (Out.sat_bind.mp h3)⟩
            cases b with
            | false => exact iteF ⟨ρ6, _, x3.trans (x4.trans (x5.trans x6)), T6.rel, T6.known, z⟩
            | true =>
              refine iteT (hel T6 ((x3.trans (x4.trans (x5.trans x6))).at hD') (Out.sat_mono (fun _ S7 z7 ρ7 H7 x7 R7 K7 => ?_) (fun _ _ _ z => z.elim) (Out.sat_bind.mp z)))
              exact ⟨ρ7, S7, x3.trans (x4.trans (x5.trans (x6.trans x7))), R7, K7, z7⟩
          | _ => rw [qg] at h3; exact h3.elim
theorem me_lc {i : IM} {g : GM} {t : Option TM} {m : EM} {elt : Expr} {ifs : List Expr} {scope : Scope} (own : List (Str × Nat)) (cap : List Nat) (hcb : CBx X) (hc : X.calm = true) (hN : X.N.Nodup) (hi : PI X tg iter (tI G (fm X) W i)) (ok : BlkOk X.N X.env.scope scope own)
    (hcap : ∀ (j : Nat) (n : Str), X.N[j]? = some n → scope.names.lookup n = some .free → j ∈ cap)
    (hg : ∀ (s : Shared) (H : Hp) (L : Addr) (cl : List (Str × Addr)) (fp : List Addr), CellsOut X cl → PG (X.blk s H scope (compEnvC scope cl L X.env) fp) tg (tGv G F0 (own.map (·.2)) g))
    (ht : ∀ (s : Shared) (H : Hp) (L : Addr) (cl : List (Str × Addr)) (fp : List Addr), CellsOut X cl → PTs (X.blk s H scope (compEnvC scope cl L X.env) fp) ifs (tT G F0 W0 (tYesM t)))
    (he : ∀ (s : Shared) (H : Hp) (L : Addr) (cl : List (Str × Addr)) (fp : List Addr), CellsOut X cl → PE (X.blk s H scope (compEnvC scope cl L X.env) fp) elt (tE G F0 W0 m)) (hs : ∀ x, foldedSetIterable iter X.env x = pure x) :
    PE X (.ListComp elt [⟨tg, iter, ifs, 0⟩] scope pos) (tE G (fm X) W (mLc i (own.map (·.2)) cap g t m)) :=
  PE_imp (pe_lcZ hcb hc hN hi ok hg ht he hs) fun _ _ _ h => cz_read newL_rel (el_list rfl) own cap hN hcap h
theorem ms_setLc (j : Nat) {y : Str} {py : Pos} {i : IM} {g : GM} {t : Option TM} {m : EM} {elt : Expr} {ifs : List Expr} {scope : Scope} {spos : Pos} (own : List (Str × Nat)) (cap : List Nat) (hcb : CBx X) (hc : X.calm = true) (hN : X.N.Nodup) (hy : X.N[j]? = some y) (hyl : X.env.scope.names.lookup y = some .local)
    (hsw : swapsWith (.ListComp elt [⟨tg, iter, ifs, 0⟩] scope pos) (some (.Name y py)) spos.line X.env = pure true) (hi : PI X tg iter (tI G (fm X) W i)) (ok : BlkOk X.N X.env.scope scope own)
    (hcap : ∀ (j : Nat) (n : Str), X.N[j]? = some n → scope.names.lookup n = some .free → j ∈ cap)
    (hg : ∀ (s : Shared) (H : Hp) (L : Addr) (cl : List (Str × Addr)) (fp : List Addr), CellsOut X cl → PG (X.blk s H scope (compEnvC scope cl L X.env) fp) tg (tGv G F0 (own.map (·.2)) g))
    (ht : ∀ (s : Shared) (H : Hp) (L : Addr) (cl : List (Str × Addr)) (fp : List Addr), CellsOut X cl → PTs (X.blk s H scope (compEnvC scope cl L X.env) fp) ifs (tT G F0 W0 (tYesM t)))
    (he : ∀ (s : Shared) (H : Hp) (L : Addr) (cl : List (Str × Addr)) (fp : List Addr), CellsOut X cl → PE (X.blk s H scope (compEnvC scope cl L X.env) fp) elt (tE G F0 W0 m)) (hs : ∀ x, foldedSetIterable iter X.env x = pure x) :
    PS X (.Assign [.Name y py] (.ListComp elt [⟨tg, iter, ifs, 0⟩] scope pos) spos) (tS G (fm X) W (mAsg (mLc i (own.map (·.2)) cap g t m) (gSet j))) := by
  refine PS_imp (ps_setLcZ hcb hc hN hy hyl hsw hi ok hg ht he hs) fun D σ H ⟨ρ, S, ls, T, h⟩ => ?_
  show tLcZ X scope (tI G (fm X) W i) (tGv G F0 (own.map (·.2)) g) (tT G F0 W0 (tYesM t)) (tE G F0 W0 m) (own.map (·.2)) σ H (fun x H1 => gName j x σ H1 D.nx)
  refine cz_read newL_rel (el_list rfl) own cap hN hcap (tE_bind T h fun v S1 ρ1 H1 x h1 x1 T1 r1 => ?_)
  unfold gSet at h1
  cases q : Nat.blt j ls.length with
  | false => rw [q] at h1; exact h1.elim
  | true =>
    rw [q] at h1
    exact h1 ρ1 H1 _ x1 (T1.set (Nat.le_of_ble_eq_true q) r1)
end
end Sh

end

noncomputable section
set_option maxHeartbeats 1000000
namespace Sh
open PySem PySem.Spec PyProof.Rows L2 RZ
/-! ### zip(a text, a tuple) -/
abbrev zsH1 (h : Heap) (x : Str) (t : Tok) : Heap := h.push { cls := .type "str_ascii_iterator", data := .fields #[.str x t, .int 0 0] }
abbrev zsH2 (h : Heap) (x : Str) (t : Tok) (l : Addr) : Heap := (zsH1 h x t).push { cls := .type "tuple_iterator", data := .fields #[.ref l, .int 0 0] }
abbrev zsH3 (h : Heap) (x : Str) (t : Tok) (l : Addr) : Heap := (zsH2 h x t l).push { cls := .type "tuple", data := .seq #[.ref h.objs.size, .ref (zsH1 h x t).objs.size] }
abbrev zsH4 (h : Heap) (x : Str) (t : Tok) (l : Addr) : Heap := (zsH3 h x t l).push { cls := .type "tuple", data := .seq #[.none, .none] }
abbrev zsH5 (h : Heap) (x : Str) (t : Tok) (l : Addr) : Heap := (zsH4 h x t l).push { cls := .type "zip", data := .fields #[.none, .bool false, .bool false, .ref (zsH2 h x t l).objs.size, .ref (zsH3 h x t l).objs.size] }
open PySem.Sem (wp) in
theorem meets_zs_new (x : Str) (t : Tok) (l : Addr) (ys : Array Value) (ha : x.cps.all (· < 128) = true) :
    Meets (Builtin.«zip.__new__» ⟨[.type "zip", .str x t, .ref l], []⟩) (fun _ R s => s.heap.IsTuple l ys ∧
      R (.ok (.ret (.ref (zsH4 s.heap x t l).objs.size))) { s with heap := zsH5 s.heap x t l }) :=
  .of_wp fun prog
      w A R s h => by
    obtain ⟨hp, g, d, tk, os⟩ := s; obtain ⟨hl2, h⟩ := h
    have hsub := sub_zip
    have hL2 : Heap.IsTuple (Shared.heap ⟨hp.push { cls := .type "str_ascii_iterator", data := .fields #[.str x t, .int 0 0] }, g, d, tk, os⟩) l ys := Heap.IsTuple.push hl2 _
    wp_walk using wpAny_pyIter_ascii ha, wpAny_pyIter_tuple hL2
    exact ⟨_, rfl, h⟩
section
variable
      {prog : Program} {w : World} {A : Around} {E : Value → Shared → Prop} {s : Shared}
theorem call_zs {x : Str} {t : Tok} {l2 : Addr} {ys : Array Value} {Q : Value → Shared → Prop} (ha : x.cps.all (· < 128) = true) (hl2 : s.heap.IsTuple l2 ys)
    (h : ∀ h', IsZip h' (s.heap.objs.size + 4) (s.heap.objs.size + 2) (s.heap.objs.size + 3) .none → IsPair h'
        (s.heap.objs.size + 2) (.ref s.heap.objs.size) (.ref (s.heap.objs.size + 1)) →
      IsPair h' (s.heap.objs.size + 3) .none .none → h'.IsStrIter s.heap.objs.size "str_ascii_iterator" x t 0 → h'.IsTupleIter (s.heap.objs.size + 1) l2 0 → h'.objs.size = s.heap.objs.size + 5 →
      (∀ c o, s.heap.get? c = some o → h'.get? c = some o) → Q (.ref (s.heap.objs.size + 4)) { s with heap :=
          h' }) :
    wpAny (model prog w) A (call (.type "zip") [.str x t, .ref l2]) Q E s := by
  refine callType_new F.called_zip (by decide) (F.typeCall_zip_2 _ _) (F.newCall_zip_2 _ _) (fun obj =>
      F.args_object_init_3 obj _ _) F.entry_zip_new
    (meets_zs_new x t l2 ys ha) ⟨hl2, ?_⟩
  have z1 : (zsH1 s.heap x t).objs.size = s.heap.objs.size + 1 := Heap.size_push ..
  have z2 : (zsH2 s.heap x t l2).objs.size = s.heap.objs.size + 2 := by rw [Heap.size_push, z1]
  have z3 : (zsH3 s.heap x t l2).objs.size = s.heap.objs.size + 3 := by rw [Heap.size_push, z2]
  have z4 : (zsH4 s.heap x t l2).objs.size = s.heap.objs.size + 4 := by rw [Heap.size_push, z3]
  have five : (zsH5 s.heap x t l2).objs.size = s.heap.objs.size + 5 := by rw [Heap.size_push, z4]
  have gE : (zsH5 s.heap x t l2).get? (zsH4 s.heap x t l2).objs.size = some _ := Heap.get?_push_size _ rfl
  have gD : (zsH5 s.heap x t l2).get? (zsH3 s.heap x t l2).objs.size = some _ := Heap.get?_push_of_some _ (Heap.get?_push_size _ rfl)
  have gC : (zsH5 s.heap x t l2).get? (zsH2 s.heap x t l2).objs.size = some _ := Heap.get?_push_of_some _ (Heap.get?_push_of_some _ (Heap.get?_push_size _ rfl))
  have g2 : (zsH5 s.heap x t l2).get? (zsH1 s.heap x t).objs.size = some _ := Heap.get?_push_of_some _ (Heap.get?_push_of_some _ (Heap.get?_push_of_some _ (Heap.get?_push_size _ rfl)))
  have gA : (zsH5 s.heap x t l2).get? s.heap.objs.size = some _ := Heap.get?_push_of_some _ (Heap.get?_push_of_some _ (Heap.get?_push_of_some _ (Heap.get?_push_of_some _ (Heap.get?_push_size _ rfl))))
  show _ ∧ _
  rw [z2, z3, z4] at gE
  rw [z1, z2] at gC
  rw [z3] at gD
  rw [z1] at g2
  rw [z4]
  exact ⟨⟨_, gE, rfl⟩, h _ gE gC gD ⟨_, gA, rfl, rfl⟩ ⟨_, g2, rfl, rfl⟩ five fun c o x =>
    Heap.get?_push_of_some _ (Heap.get?_push_of_some _ (Heap.get?_push_of_some _
        (Heap.get?_push_of_some _ (Heap.get?_push_of_some _ x))))⟩
end
def ItzS (K : PySem.W.Frag) (x : Str) (b : Addr) : It :=
  ⟨fun i H => ∃ (ys : List V) (c : Nat) (y : V), SqT K H b ys ∧ x.cps[i]? = some c ∧ ys[i]? = some y,
    fun i H v H' => ∃ T c y, v = .ref T ∧ H T = none ∧ H' = upd H T (.tup [.str ⟨#[c]⟩, y]) ∧ x.cps[i]? = some c ∧ ∀ ys, SqT K H b ys → ys[i]? = some y,
    fun i H => ∃ ys : List V, SqT K H b ys ∧ (x.cps.size ≤ i ∨ ys.length ≤ i) ∧ i ≤ x.cps.size ∧ i ≤ ys.length⟩
theorem turn_zs {P : Program} {w : World} {K : PySem.W.Frag} {elts : List Expr} {kk : Nat} {tpos : Pos} {b z TI TO i1 i2 : Addr} {x : Str} {t : Tok} (D : ZipApart z TI TO i1 i2 b b) :
    Turn P w K (.Tuple elts kk tpos) (ItzS K x b) [z, TI, TO, i1, i2] z (fun i h => IsZip h z TI TO .none ∧ IsPair h TI (.ref i1) (.ref i2) ∧ (∃ x y, IsPair h TO x y) ∧ h.IsStrIter i1 "str_ascii_iterator" x t i ∧ h.IsTupleIter i2 b i) where
  mem := by simp
  obj := fun i h st c hc => by
    obtain ⟨atZ, atI, ⟨x, y, atO⟩, ⟨o1, e1, _, d1⟩, ⟨o2, e2, _, d2⟩⟩ := st
    have which : c = z ∨ c = TI ∨ c = TO ∨ c = i1 ∨ c = i2 := by simpa using hc
    rcases which with q | q | q | q | q
    · rw [q]; exact ⟨_, atZ, fun v q => nomatch q⟩
    · rw [q]; exact ⟨_, atI, fun v q => nomatch q⟩
    · rw [q]; exact ⟨_, atO, fun v q => nomatch q⟩
    · rw [q]; exact ⟨o1, e1, fun v q =>
          by rw [d1] at q; cases q⟩
    · rw [q]; exact ⟨o2, e2, fun v q =>
          by rw [d2] at q; cases q⟩
  keep := fun i h h' st k => by
    obtain ⟨atZ, atI, ⟨x, y, atO⟩, ⟨o1, e1, r1⟩, h2⟩ := st
    exact ⟨k z (by simp) _ atZ, k TI (by simp) _ atI, ⟨x, y, k TO (by simp) _ atO⟩, ⟨o1, k i1 (by simp) _ e1, r1⟩, h2.at fun o q => k i2 (by simp) o q⟩
  item := by
    intro X hP hw hK hc i
        pins s σ H E I hf st hg
    subst hP hw hK
    obtain ⟨atZ, atI, ⟨xOld, yOld, atO⟩, h1, h2⟩ := st
    obtain ⟨ys, c, y, eqY, hx, hy⟩ := hg
    obtain ⟨elB, rvB, isB, _⟩ := I.tuple eqY
    obtain ⟨uB, gB, vB⟩ := rvB.get hy
    have zIn : z < s.heap.objs.size := Heap.lt_size atZ
    have hlt1 : i < x.cps.size := (Array.getElem?_eq_some_iff.mp hx).1
    have hlt2 : i < elB.toArray.size := by have := (List.getElem?_eq_some_iff.mp gB).1; simpa using this
    have hh : X.A.in1.handled = none := I.ok.hd hc
    have SP : ZipSep2 z TI TO i1 i2 [i1] [i2, b] := ⟨D.TIz, D.TOz, D.TITO, D.TIi1, by simp, by simpa using D.i1z.symm, by simpa using D.TOi1, D.TIi2, by simp, by simpa using ⟨D.i2z.symm, D.l2z.symm⟩, by simpa using ⟨D.TOi2, D.l2TO.symm⟩, by simpa using ⟨D.i12, D.l2i1.symm⟩, by simpa using D.i12.symm⟩
    refine wpAny_pyNext_zipD2_item SP (Draws.strAscii hh i1 x t) (Draws.tuple hh i2 b D.l2i2 elB.toArray) atZ atI atO h1 ⟨h2, isB⟩ hlt1 hlt2 fun v1 v2 h' tk y1 y2 z' TO' h1' h2' hT fits hk => ?_
    obtain ⟨c', t', hc', rfl⟩ := y1
    have ec : c' = c := by rw [hc'] at hx; exact Option.some.inj hx
    subst ec
    have ev : v2 = uB := by
      have e1 : elB.toArray[i]? = some uB := by simpa using gB
      have e2 : elB.toArray[i]? = some v2 := y2
      rw [e1] at e2
      exact (Option.some.inj e2).symm
    subst ev
    refine ⟨_, rfl, wpAny_letOwnedTupleGo_zip (s := { s with heap := h', toks := tk }) z' fun h'' z'' sb => ?_⟩
    have hT2 : h''.get? s.heap.objs.size = some { cls := .type "tuple", data := .seq #[.str ⟨#[c']⟩ t', v2] } := (sb.2 _ (Nat.ne_of_gt zIn)).trans hT
    have new : ObjOk X.prog X.w (upd H s.heap.objs.size (.tup [.str ⟨#[c']⟩, y])) h'' s.heap.objs.size (.tup [.str ⟨#[c']⟩, y]) :=
      ⟨by show 2 ≤ sizeLine; decide, [.str ⟨#[c']⟩ t', v2], .cons ⟨t', rfl⟩ (.cons vB .nil), ⟨_, hT2, rfl, _, rfl⟩⟩
    have I1 : Inv X pins σ (upd H s.heap.objs.size (.tup [.str ⟨#[c']⟩, y])) { s with heap := h'', toks := tk } :=
      I.turnedNew (t' := tk) (ch := [z, TI, TO, i1, i2]) (fun c o hb q => (sb.2 c (fun q' => hb (by simp [q']))).trans (hk c o (fun q' => hb (by simp [q'])) (fun q' => hb (by simp [q'])) (fun q' => hb (by simp [q'])) (fun q' => hb (by simp [q'])) q)) hf (Nat.le_refl _) new
    refine ⟨.ref s.heap.objs.size, _, I1, rfl, ⟨_, c', y, rfl, I.hok.fresh (Nat.le_refl _), rfl, hc', fun l hl => by rw [I.tuple_inj hl eqY]; exact hy⟩, ⟨z'', ?_, ⟨.str ⟨#[c']⟩ t', v2, ?_⟩, ?_, ?_⟩, fun c inC => ?_⟩
    · exact (sb.2 _ D.TIz).trans (hk _ _ D.TIz D.TITO D.TIi1 D.TIi2 atI)
    · exact (sb.2 _
          D.TOz).trans TO'
    · obtain ⟨o1, e1, r1⟩ := h1'
      exact ⟨o1, (sb.2 _ D.i1z).trans e1, r1⟩
    · exact h2'.1.at fun o q => (sb.2 _ D.i2z).trans q
    · have isLt : c < s.heap.objs.size := by
        have which : c = z ∨ c = TI ∨ c = TO ∨ c = i1 ∨ c = i2 := by simpa using inC
        rcases which with q | q | q | q | q
        · rw [q]; exact zIn
        · rw [q]; exact Heap.lt_size atI
        · rw [q]; exact Heap.lt_size atO
        · rw [q]; obtain ⟨_, e1, _⟩ :=
              h1; exact Heap.lt_size e1
        · rw [q]; obtain ⟨_, e2, _⟩ :=
              h2; exact Heap.lt_size e2
      rw [upd_ne (Nat.ne_of_lt isLt)]
      exact (hf c inC).1
  done := by
    intro X hP hw hK hc i
        pins s σ H E I hf st hg
    subst hP hw hK
    obtain ⟨atZ, atI, ⟨xOld, yOld, atO⟩, h1, h2⟩ := st
    obtain ⟨ys, eqY, hend, hle1, hle2⟩ := hg
    obtain ⟨elB, rvB, isB, _⟩ := I.tuple eqY
    have l2 := rvB.length
    have hh : X.A.in1.handled = none := I.ok.hd hc
    have SP : ZipSep2 z TI TO i1 i2 [i1] [i2, b] := ⟨D.TIz, D.TOz, D.TITO, D.TIi1, by simp, by simpa using D.i1z.symm, by simpa using D.TOi1, D.TIi2, by simp, by simpa using ⟨D.i2z.symm, D.l2z.symm⟩, by simpa using ⟨D.TOi2, D.l2TO.symm⟩, by simpa using ⟨D.i12, D.l2i1.symm⟩, by simpa using D.i12.symm⟩
    have fits : elB.toArray.size = ys.length := by simp; omega
    exact wpAny_pyNext_zipD2_end SP (Draws.strAscii hh i1 x t) (Draws.tuple hh i2 b D.l2i2 elB.toArray) atZ atI atO h1 ⟨h2, isB⟩ hle1 (by omega) (by omega) fun h' tk hk => ⟨rfl, I.turnedL (t' := tk) (ch := [z, TI, TO, i1, i2]) (fun c o hb q =>
      hk c o (fun q' => hb (by simp [q'])) (fun q' => hb (by simp [q'])) (fun q' =>
          hb (by simp [q'])) (fun q' => hb (by simp [q'])) q) hf⟩
  self := fun A i s Q E st h =>
      wpAny_pyIter_zip st.1 h
end Sh

end

noncomputable section
set_option maxHeartbeats 1000000
namespace Sh
open PySem PySem.Spec PyProof.Rows L2 RZ
def iZipB (K : PySem.W.Frag) (ta : TA) : TI := fun σ H R => ta σ H fun vs H1 => (∃ a b xs ys, vs = [.ref a, .ref b] ∧ ((SqL K H1 a xs ∧ SqL K H1 b ys ∧ R (Itz K a b) H1) ∨ (SqT K H1 a xs ∧ SqT K H1 b ys ∧ R (ItzT K a b) H1))) ∨
  ∃ x b ys, vs = [.str x, .ref b] ∧ x.cps.all (· < 128) = true ∧ SqT K H1 b ys ∧ R (ItzS K x b) H1
theorem pi_zipB {X : Cx} {e e2 : Expr} {ta : TA} {isS pos tpos : Pos} {elts : List Expr} {kk : Nat} (hg : Gl X "zip") (hm : X.mg "zip" = none) (ha : PA X [e, e2] ta)
    (hs : starEach [e, e2] X.env = (false, eval e X.env) :: starEach [e2] X.env :=
        by rfl) (hpl : (backTo pos (starEach [e2] X.env)).any (·.1) = false := by rfl) :
    PI X (.Tuple elts kk tpos) (.Call (.Name "zip" isS) [e, e2] [] pos) (iZipB X.K ta) := by
  refine ⟨fun pins s σ H R I h =>
      ?_⟩
  refine Call_ (ld_blt I hg hm PyProof.Rows.boot_zip (PyProof.Rows.callWith_type1 (thn (ha.run pos pins s σ H _ I h) fun us s1 ⟨vs, H1, I1, r1, got⟩ => ?_) hs hpl))
  have allNew : ∀ c, c ∈ [s1.heap.objs.size + 4, s1.heap.objs.size + 2, s1.heap.objs.size + 3, s1.heap.objs.size, s1.heap.objs.size + 1] → FpOk X pins H1 c := fun c inC => by
    have which : c = s1.heap.objs.size + 4 ∨ c = s1.heap.objs.size + 2 ∨ c = s1.heap.objs.size + 3 ∨ c = s1.heap.objs.size ∨ c = s1.heap.objs.size + 1 := by simpa using inC
    have above : s1.heap.objs.size ≤ c := by
      rcases which with z | z | z | z | z
      · rw [z];
            exact Nat.le_add_right _ _
      · rw [z];
            exact Nat.le_add_right _ _
      · rw [z];
            exact Nat.le_add_right _ _
      · rw [z]; exact Nat.le_refl _
      · rw [z];
            exact Nat.le_add_right _ _
    exact I1.fpOk above (I1.hok.fresh above)
  rcases got with ⟨a, b, xs, ys, ex, got⟩ | ⟨x, b, ys, ex, hasc, eqY, q⟩
  · subst ex
    cases r1 with
    | cons r rr =>
      cases rr with
      | cons r' rr =>
        cases rr
        cases r
        cases r'
        rcases got with ⟨eqX, eqY, q⟩ | ⟨eqX, eqY, q⟩
        · obtain ⟨elA, rvA, isA, _⟩ := I1.list eqX
          obtain ⟨elB, rvB, isB, _⟩ := I1.list eqY
          refine call_zip_2 isA.isList isB.isList fun h' atZ atI atO h1 h2 fits hk => wpAny_pyIter_zip atZ ?_
          have I2 : Inv X pins σ H1 { s1 with heap :=
              h' } := I1.kept (t' := s1.toks) hk
          exact ⟨s1.heap.objs.size + 4, [s1.heap.objs.size + 4, s1.heap.objs.size + 2, s1.heap.objs.size + 3, s1.heap.objs.size, s1.heap.objs.size + 1], _, _, H1, rfl, I2, turn_zip (PySem.W.ktu_apart s1.heap.objs.size a b isA.lt isB.lt), ⟨atZ, atI, ⟨_, _, atO⟩, h1, h2⟩, allNew, q⟩
        · obtain ⟨elA, rvA, isA, _⟩ := I1.tuple eqX
          obtain ⟨elB, rvB, isB, _⟩ := I1.tuple eqY
          obtain ⟨o1, ho1, _⟩ := id isA
          obtain ⟨o2, ho2, _⟩ := id isB
          refine call_zipT (show s1.heap.IsTuple a elA.toArray from isA) (show s1.heap.IsTuple b elB.toArray from isB) fun h' atZ atI atO h1 h2 fits hk => wpAny_pyIter_zip atZ ?_
          have I2 : Inv X pins σ H1 { s1 with heap :=
              h' } := I1.kept (t' := s1.toks) hk
          exact ⟨s1.heap.objs.size + 4, [s1.heap.objs.size + 4, s1.heap.objs.size + 2, s1.heap.objs.size + 3, s1.heap.objs.size, s1.heap.objs.size + 1], _, _, H1, rfl, I2, turn_zipT (PySem.W.ktu_apart s1.heap.objs.size a b (Heap.lt_size ho1) (Heap.lt_size ho2)), ⟨atZ, atI, ⟨_, _, atO⟩, h1, h2⟩, allNew, q⟩
  · subst ex
    cases r1 with
    | cons r rr =>
      cases rr with
      | cons r' rr =>
        cases rr
        obtain ⟨t, rfl⟩ := r
        cases r'
        obtain ⟨elB, rvB, isB, _⟩ := I1.tuple eqY
        obtain ⟨o2, ho2, _⟩ := id isB
        refine call_zs hasc (show s1.heap.IsTuple b elB.toArray from isB) fun h' atZ atI atO h1 h2 fits hk => wpAny_pyIter_zip atZ ?_
        have I2 : Inv X pins σ H1 { s1 with heap :=
            h' } := I1.kept (t' := s1.toks) hk
        exact ⟨s1.heap.objs.size + 4, [s1.heap.objs.size + 4, s1.heap.objs.size + 2, s1.heap.objs.size + 3, s1.heap.objs.size, s1.heap.objs.size + 1], _, _, H1, rfl, I2, turn_zs (PySem.W.ktu_apart s1.heap.objs.size b b (Heap.lt_size ho2) (Heap.lt_size ho2)), ⟨atZ, atI, ⟨_, _, atO⟩, h1, h2⟩, allNew, q⟩
section
variable {X : Cx} {G : Gd} {W : WX} {F : Fm} {ma mb : EM} {a b e : Expr} {es : List Expr} {pos : Pos}
theorem zip2_none {α β : Type} {f : α → β → AV} {x : Option α} {y : Option β} (h : zip2 f x y = none) : x = none ∨ y = none := by
  cases x with
  | none => exact .inl rfl
  | some a => cases y with
    | none => exact .inr rfl
    | some b => cases h
theorem zip2_some {α β : Type} {f : α → β → AV} {x : Option α} {y : Option β} {v : AV} (h : zip2 f x y = some v) : ∃ a b, x = some a ∧ y = some b ∧ v = f a b := by
  cases x with
  | none => cases h
  | some a => cases y with
    | none => cases h
    | some b => cases h; exact ⟨a, b, rfl, rfl, rfl⟩
theorem pairRV {ρ : List Addr} {H : Hp} {isS : Addr} {a b : AV} {v w : V} (hp : H isS = some (.tup [v, w])) (ra : RV G ρ H a v) (rb : RV G ρ H b w) : RV G ρ H (.tup [a, b]) (.ref isS) := by
  unfold RV
  refine ⟨isS, [v, w], rfl, SqT.of hp, ?_, .inl hp⟩
  unfold RVs
  exact ⟨v, [w], rfl, ra, RVs_one rb⟩
theorem ri_zl {ρ : List Addr} {H : Hp} {i j : Nat} {isS q : Addr} (hp : ρ[i]? = some isS) (hq : ρ[j]? = some q) : RI G F (.zl i j) (Itz G.K isS q) ρ H := fun _ ρ' H' S ls σ k x T => by
  have hp' := x.at hp
  have hq' := x.at hq
  cases got : lstAt S i with
  | none => exact ⟨fun z => (by simp only [nxt, got] at z; cases z), fun v z => (by simp only [nxt, got] at z; cases z)⟩
  | some xs =>
    cases q2 : lstAt S j with
    | none => exact ⟨fun z => (by simp only [nxt, got, q2] at z; cases z), fun v z => (by simp only [nxt, got, q2] at z; cases z)⟩
    | some ys =>
      obtain ⟨vs, e1, r1⟩ := lst_of T hp' got
      obtain ⟨ws, e2, r2⟩ := lst_of T hq' q2
      refine ⟨fun z => ?_, fun v z => ?_⟩
      · simp only [nxt, got, q2, at?_eq] at z
        refine ⟨vs, ws, SqL.of e1, SqL.of e2, ?_⟩
        rw [RVs_len r1, RVs_len r2]
        rcases zip2_none (Option.some.inj z) with h | h
        · exact .inl (List.getElem?_eq_none_iff.mp h)
        · exact .inr (List.getElem?_eq_none_iff.mp h)
      · simp only [nxt, got, q2, at?_eq] at z
        obtain ⟨a, b, ea, eb, rfl⟩ := zip2_some (Option.some.inj z)
        obtain ⟨u, hu, ru⟩ := RVs_get r1 ea
        obtain ⟨w, hw, rw_⟩ := RVs_get r2 eb
        refine ⟨⟨vs, ws, u, w, SqL.of e1, SqL.of e2, hu, hw⟩, fun y' H2 ⟨t, x', y, ev, hT, eH, h1, h2⟩ => ?_⟩
        subst ev eH
        have := h1 vs (SqL.of e1); rw [hu] at this; cases this
        have := h2 ws (SqL.of e2); rw [hw] at this; cases this
        obtain ⟨T2, x2⟩ := T.side (o := .tup [u, w]) hT
        exact ⟨ρ', x2, T2, pairRV upd_same (ru.mono x2 a) (rw_.mono x2 b)⟩
theorem ri_zt {ρ : List Addr} {H : Hp} {xs ys : List AV} {isS q : Addr} {vs ws : List V} (s1 : SqT G.K H isS vs) (r1 : RVs G ρ H xs vs) (s2 : SqT G.K H q ws) (r2 : RVs G ρ H ys ws) : RI G F (.zt xs ys) (ItzT G.K isS q) ρ H := fun _ ρ' H' S ls σ k x T => by
  have s1 := x.sqT s1
  have s2 := x.sqT s2
  have r1 := r1.mono x xs
  have r2 := r2.mono x ys
  refine ⟨fun z => ?_, fun v z => ?_⟩
  · simp only [nxt, at?_eq] at z
    refine ⟨vs, ws, s1, s2, ?_⟩
    rw [RVs_len r1, RVs_len r2]
    rcases zip2_none (Option.some.inj z) with h | h
    · exact .inl (List.getElem?_eq_none_iff.mp h)
    · exact .inr (List.getElem?_eq_none_iff.mp h)
  · simp only [nxt, at?_eq] at z
    obtain ⟨a, b, ea, eb, rfl⟩ := zip2_some (Option.some.inj z)
    obtain ⟨u, hu, ru⟩ := RVs_get r1 ea
    obtain ⟨w, hw, rw_⟩ := RVs_get r2 eb
    refine ⟨⟨vs, ws, u, w, s1, s2, hu, hw⟩, fun y' H2 ⟨t, x', y, ev, hT, eH, h1, h2⟩ => ?_⟩
    subst ev eH
    have := h1 vs s1; rw [hu] at this; cases this
    have := h2 ws s2; rw [hw] at this; cases this
    obtain ⟨T2, x2⟩ := T.side (o := .tup [u, w]) hT
    exact ⟨ρ', x2, T2, pairRV upd_same (ru.mono x2 a) (rw_.mono x2 b)⟩
theorem ri_zs {ρ : List Addr} {H : Hp} {xs : List Nat} {ys : List AV} {q : Addr} {ws : List V} (s2 : SqT G.K H q ws) (r2 : RVs G ρ H ys ws) : RI G F (.zs xs ys) (ItzS G.K (toS xs) q) ρ H := fun _ ρ' H' S ls σ k x T => by
  have s2 := x.sqT s2
  have r2 := r2.mono x ys
  have e : ∀ k : Nat, (toS xs).cps[k]? = xs[k]? := fun k => by simp [toS]
  have e2 : (toS xs).cps.size = xs.length := by simp [toS]
  cases got : Nat.ble k xs.length with
  | false => exact ⟨fun z => (by simp only [nxt, got] at z; cases z), fun v z => (by simp only [nxt, got] at z; cases z)⟩
  | true =>
    cases q2 : Nat.ble k ys.length with
    | false => exact ⟨fun z => (by simp only [nxt, got, q2] at z; cases z), fun v z => (by simp only [nxt, got, q2] at z; cases z)⟩
    | true =>
      refine ⟨fun z => ?_, fun v z => ?_⟩
      · simp only [nxt, got, q2, at?_eq] at z
        refine ⟨ws, s2, ?_, by rw [e2]; exact Nat.le_of_ble_eq_true got, by rw [RVs_len r2]; exact Nat.le_of_ble_eq_true q2⟩
        rw [RVs_len r2, e2]
        rcases zip2_none (Option.some.inj z) with h | h
        · exact .inl (List.getElem?_eq_none_iff.mp h)
        · exact .inr (List.getElem?_eq_none_iff.mp h)
      · simp only [nxt, got, q2, at?_eq] at z
        obtain ⟨a, b, ea, eb, rfl⟩ := zip2_some (Option.some.inj z)
        obtain ⟨w, hw, rw_⟩ := RVs_get r2 eb
        refine ⟨⟨ws, a, w, s2, by rw [e]; exact ea, hw⟩, fun y' H2 ⟨t, c, y, ev, hT, eH, h1, h2⟩ => ?_⟩
        subst ev eH
        rw [e, ea] at h1; cases h1
        have := h2 ws s2; rw [hw] at this; cases this
        obtain ⟨T2, x2⟩ := T.side (o := .tup [.str ⟨#[a]⟩, w]) hT
        exact ⟨ρ', x2, T2, pairRV upd_same (by unfold RV; rfl) (rw_.mono x2 b)⟩
def ascii : List Nat → Bool
  | [] => true
  | c :: r => match Nat.blt c 128 with
    | true => ascii r
    | false => false
theorem ascii_ok : ∀ {s : List Nat}, ascii s = true → ∀ c ∈ s, c < 128
  | [], _, c, h => by cases h
  | a :: r, h, c, hc => by
    unfold ascii at h
    cases q : Nat.blt a 128 with
    | false => rw [q] at h; cases h
    | true =>
      rw [q] at h
      rcases List.mem_cons.mp hc with e | e
      · rw [e]; exact Nat.le_of_ble_eq_true q
      · exact ascii_ok h c e
def mZip (m : AM) : IM := fun ls S => (m ls S).bind fun xs S1 => match xs with
  | [.ref i, .ref j] => match lstAt S1 i, lstAt S1 j with
    | some _, some _ => .ok (.zl i j) S1
    | _, _ => .bad
  | [.tup xs, .tup ys] => .ok (.zt xs ys) S1
  | [.str s, .tup ys] => match ascii s with
    | true => .ok (.zs s ys) S1
    | false => .bad
  | _ => .bad
theorem mi_zip {m : AM} {isS tpos : Pos} {elts : List Expr} {kk : Nat} (hk : X.K = G.K) (hm : X.mg "zip" = none) (ha : PA X [a, b] (tA G F W m)) (hg : Gl X "zip" := by rfl)
    (hs : starEach [a, b] X.env = (false, eval a X.env) :: starEach [b] X.env := by rfl) (hpl : (backTo pos (starEach [b] X.env)).any (·.1) = false := by rfl) :
    PI X (.Tuple elts kk tpos) (.Call (.Name "zip" isS) [a, b] [] pos) (tI G F W (mZip m)) := by
  refine PI_imp (pi_zipB hg hm ha hs hpl) fun σ H R ⟨ρ, S, ls, T, h⟩ => ?_
  refine tA_bind T h fun vs S1 ρ1 H1 xs h1 x1 T1 r1 => ?_
  rw [hk]
  split at h1
  · rename_i i j
    obtain ⟨v, w, rfl, rvA, rw_⟩ := rvs2 r1
    unfold RV at rvA rw_
    obtain ⟨isS, hp, rfl⟩ := rvA
    obtain ⟨q, hq, rfl⟩ := rw_
    cases got : lstAt S1 i with
    | none => simp only [got] at h1; exact h1.elim
    | some xs =>
      cases q2 : lstAt S1 j with
      | none => simp only [got, q2] at h1; exact h1.elim
      | some ys =>
        simp only [got, q2] at h1
        obtain ⟨us, e1, _⟩ := lst_of T1 hp got
        obtain ⟨ws, e2, _⟩ := lst_of T1 hq q2
        exact .inl ⟨isS, q, us, ws, rfl, .inl ⟨SqL.of e1, SqL.of e2, h1 ρ1 H1 _ x1 T1 (ri_zl hp hq)⟩⟩
  · obtain ⟨v, w, rfl, rvA, rw_⟩ := rvs2 r1
    unfold RV at rvA rw_
    obtain ⟨isS, us, rfl, s1, rs1, _⟩ := rvA
    obtain ⟨q, ws, rfl, s2, rs2, _⟩ := rw_
    exact .inl ⟨isS, q, us, ws, rfl, .inr ⟨s1, s2, h1 ρ1 H1 _ x1 T1 (ri_zt s1 rs1 s2 rs2)⟩⟩
  · rename_i s ys
    obtain ⟨v, w, rfl, rvA, rw_⟩ := rvs2 r1
    unfold RV at rvA rw_
    obtain ⟨q, ws, rfl, s2, rs2, _⟩ := rw_
    subst rvA
    cases qa : ascii s with
    | false => simp only [qa] at h1; exact h1.elim
    | true =>
      simp only [qa] at h1
      refine .inr ⟨toS s, q, ws, rfl, ?_, s2, h1 ρ1 H1 _ x1 T1 (ri_zs s2 rs2)⟩
      show (s.toArray.all fun c => decide (c < 128)) = true
      simp only [List.all_toArray, List.all_eq_true, decide_eq_true_eq]
      exact ascii_ok qa
  · exact h1.elim
theorem ri_en {ρ : List Addr} {H : Hp} {i : Nat} {a : Addr} (hp : ρ[i]? = some a) : RI G F (.en i) (Ite G.K a) ρ H := fun _ ρ' H' S ls σ k x T => by
  have hp' := x.at hp
  cases got : lstAt S i with
  | none => exact ⟨fun z => (by simp only [nxt, got] at z; cases z), fun v z => (by simp only [nxt, got] at z; cases z)⟩
  | some xs =>
    obtain ⟨vs, e1, r1⟩ := lst_of T hp' got
    cases q : at? xs k with
    | none =>
      refine ⟨fun _ => ⟨vs, SqL.of e1, ?_⟩, fun v z => (by simp only [nxt, got, q] at z; cases z)⟩
      rw [RVs_len r1]
      rw [at?_eq] at q
      exact List.getElem?_eq_none_iff.mp q
    | some a0 =>
      refine ⟨fun z => (by simp only [nxt, got, q] at z; cases z), fun v z => ?_⟩
      simp only [nxt, got, q] at z
      cases z
      rw [at?_eq] at q
      obtain ⟨u, hu, ru⟩ := RVs_get r1 q
      refine ⟨⟨vs, u, SqL.of e1, hu⟩, fun y' H2 ⟨t, y, ev, hT, eH, h1⟩ => ?_⟩
      subst ev eH
      have := h1 vs (SqL.of e1); rw [hu] at this; cases this
      obtain ⟨T2, x2⟩ := T.side (o := .tup [.int (k : Nat), u]) hT
      exact ⟨ρ', x2, T2, pairRV upd_same rv_int (ru.mono x2 a0)⟩
def mEnum (m : AM) : IM := fun ls S => (m ls S).bind fun xs S1 => match xs with
  | [.ref i] => match lstAt S1 i with
    | some _ => .ok (.en i) S1
    | none => .bad
  | _ => .bad
theorem mi_enum {m : AM} {p tpos : Pos} {elts : List Expr} {kk : Nat} (hk : X.K = G.K) (hm : X.mg "enumerate" = none) (ha : PA X [e] (tA G F W m)) (hg : Gl X "enumerate") (hs : starEach [e] X.env = [(false, eval e X.env)]) : PI X (.Tuple elts kk tpos) (.Call (.Name "enumerate" p) [e] [] pos) (tI G F W (mEnum m)) := by
  refine PI_imp (pi_enum hg hm ha hs) fun σ H R ⟨ρ, S, ls, T, h⟩ => ?_
  refine tA_bind T h fun vs S1 ρ1 H1 xs h1 x1 T1 r1 => ?_
  rw [hk]
  split at h1
  · rename_i i
    obtain ⟨v, rfl, rv⟩ := rvs1 r1
    unfold RV at rv
    obtain ⟨a, hp, rfl⟩ := rv
    cases got : lstAt S1 i with
    | none => simp only [got] at h1; exact h1.elim
    | some xs =>
      simp only [got] at h1
      obtain ⟨us, e1, _⟩ := lst_of T1 hp got
      exact ⟨a, us, rfl, SqL.of e1, h1 ρ1 H1 _ x1 T1 (ri_en hp)⟩
  · exact h1.elim
/-! l.extend(a list or a tuple) -/
theorem meets_extT (l : Addr) (items : Array Value) (n : Nat) (b : Addr) (o : Obj) (items2 : Array Value) (n2 : Nat) (hc : o.cls = .type "tuple") (hd : o.data = .seq items2 n2) (hs0 : ¬(!items.isEmpty && Builtin.List.listTooLong (items.size + items2.size)) = true) (hs1 : items.size ≤ sizeLine) (hs2 : items.size + items2.size ≤ sizeLine + 1) :
    Meets (Builtin.«list.extend» ⟨[.ref l, .ref b], []⟩) (fun _ R s => s.heap.get? l = some { cls := .type "list", dict := none, data := .seq items n, slots := #[] } ∧ s.heap.get? b = some o ∧ R (.ok (.ret Value.none)) { s with heap := s.heap.update l (Obj.mapSeq fun x => x ++ items2), toks := s.toks }) :=
  .of_wp fun prog
      w A R s h => by
    obtain ⟨oc, od,
        odt, osl⟩ := o
    dsimp only at hc hd
    subst hc hd
    obtain ⟨hp, g, d, tk, os⟩ := s; obtain ⟨hl, hb, h⟩ := h; have f1 := AutoSeq1.idx_int; have f2 := AutoSeq1.sub_tuple_tuple; have f3 := AutoSeq1.sub_list_list; have f4 := AutoSeq1.sub_tuple_list; have f5 := AutoSeq1.sub_list_tuple;
    have szAll : (items ++ items2).size ≤ sizeLine + 1 :=
        by rw [Array.size_append]; exact hs2
    wp_walk using (wpAny_updateSeq hl rfl (hz := hs1) (_hz' := szAll)), wpAny_loadPart' hl, wpAny_loadPart' hb; exact ⟨_, rfl, h⟩
end
end Sh

end

noncomputable section
namespace Sh
open PySem PySem.Spec PyProof.Rows L2
section
variable {X : Cx} {G : Gd} {W : WX} {F : Fm} {ma mb : EM} {a b e : Expr} {es : List Expr} {pos : Pos}
/-! l.extend -/
def rExtT (K : PySem.W.Frag) : V → List V → Hp → VK → Prop := fun x vs H Q => ∃ l b xs zs, x = .ref l ∧ vs = [.ref b] ∧ H l = some (.lst xs) ∧ SqT K H b zs ∧ xs.length + zs.length ≤ sizeLine ∧ Q .non (upd H l (.lst (xs ++ zs)))
theorem mt_extT : MtM X "list.extend" (rExtT X.K) := by
  intro pins s σ H x vs v us Q I rx rvA h
  obtain ⟨l, b, xs, zs, rfl, rfl, seeL, seeB, atZ, q⟩ := h
  cases rx
  obtain ⟨u, rfl, ru⟩ := rvA.one
  cases ru
  obtain ⟨z, elA, n, r, hl, e⟩ := I.lstM seeL
  obtain ⟨elB, r2, ⟨o, e2, c2, n2, d2⟩, hl2⟩ := I.tuple seeB
  have hl2 := r2.length
  have fits : elA.toArray.size + elB.toArray.size ≤ sizeLine := by rw [List.size_toArray, List.size_toArray]; omega
  have short : ¬ (!elA.toArray.isEmpty && Builtin.List.listTooLong (elA.toArray.size + elB.toArray.size)) = true := by
    rw [notLongL fits, Bool.and_false]
    exact Bool.false_ne_true
  refine call_meets F.slot_list_extend ⟨_, e,
      rfl⟩ F.entry_list_extend (F.args_list_extend_2 _ _)
    (meets_extT l elA.toArray n b o elB.toArray n2 c2 d2 short (by rw [List.size_toArray]; omega) (by omega)) ⟨e, e2, ?_⟩
  refine ⟨.non, _, I.lset (its' := elA ++ elB) seeL e (by simp) (r.append r2) ?_, rfl, q⟩
  rw [List.length_append]
  omega
def rExtB (K : PySem.W.Frag) : V → List V → Hp → VK → Prop := fun x vs H Q => rExtend x vs H Q ∨ rExtT K x vs H Q
theorem mt_extB : MtM X "list.extend" (rExtB X.K) := by
  intro pins s σ H x vs v us Q I rx rvA h
  rcases h with h | h
  · exact mt_extend pins s σ H x vs v us Q I rx rvA h
  · exact mt_extT pins s σ H x vs v us Q I rx rvA h
def fExtend (x : AV) (as : List AV) (S : Sto) : Out AV := match x, as with
  | .ref i, [a] => match S.get i with
    | some (.lst xs) => match seqOf S a with
      | some ys => setLst i (xs ++ ys) .non S
      | none => .bad
    | _ => .bad
  | _, _ => .bad
theorem ms_extend (hk : X.K = G.K) : MethS G F W "list" (rExtB X.K) fExtend := fun ρ S ls σ H x xs v vs Q T r rs h => by
  unfold fExtend at h
  split at h
  · rename_i i a
    obtain ⟨w, rfl, rw_⟩ := rvs1 rs
    unfold RV at r
    obtain ⟨isS, hp, rfl⟩ := r
    cases q : S.get i with
    | none => simp only [q] at h; exact h.elim
    | some o =>
      have ob := T.rel.obj i isS o hp q
      cases o with
      | lst ys =>
        simp only [q] at h
        obtain ⟨ws, e, r2⟩ := ob
        cases q3 : seqOf S a with
        | none => simp only [q3] at h; exact h.elim
        | some zs =>
          simp only [q3, setLst] at h
          obtain ⟨isB, us, rfl, r3, k⟩ := seqOf_ok T rw_ q3
          cases q2 : lenOk (ys ++ zs) with
          | false => rw [q2] at h; exact h.elim
          | true =>
            rw [q2] at h
            have rr := RVs_app r2 r3
            have := lenOk_le q2 rr
            rw [List.length_append] at this
            obtain ⟨T2, x2⟩ := putL T hp q e rr
            have hq := h ρ _ x2 T2 _ rv_non
            rcases k with ⟨_, _, _, _, e3⟩ | ⟨_, e3⟩
            · exact .inl ⟨isS, isB, ws, us, rfl, rfl, e, e3, this, hq⟩
            · exact .inr ⟨isS, isB, ws, us, rfl, rfl, e, by rw [hk]; exact e3, this, hq⟩
      | _ => simp only [q] at h; exact h.elim
  · exact h.elim
theorem me_append {o : Expr} {apos : Pos} {mo : EM} {m : AM} (hk : X.K = G.K) (ho : PE X o (tE G F W mo)) (ha : PA X [e] (tA G F W m))
    (hbase : attributeBase o "append" X.env (eval o X.env) = eval o X.env := by rfl)
    (hfew : ((backTo pos (starEach (e :: []) X.env)).all (fun x => !x.1) && (backToKw pos (keywordEach [] X.env)).all (fun x => x.1.isSome)
      && decide ((e :: []).length + ([] : List Keyword).length + (if ([] : List Keyword).isEmpty then 0 else 1) < 30)) = true := by rfl)
    (hline : (apos.endLine == pos.line) = true := by rfl) (hs : starEach (e :: []) X.env = (false, eval e X.env) :: starEach [] X.env := by rfl) (hplain : (backTo pos (starEach [] X.env)).any (·.1) = false := by rfl) :
    PE X (.Call (.Attribute o "append" apos) [e] [] pos) (tE G F W (mMeth isL fAppend mo m)) :=
  me_bm (id := "list.append") hk (pe_bm PySem.F.plainAttrs_list PySem.F.slot_list_append PySem.F.type_list_append mt_append ho ha hbase hfew hline hs hplain) isL_ok (ms_append)
theorem me_extend {o : Expr} {apos : Pos} {mo : EM} {m : AM} (hk : X.K = G.K) (ho : PE X o (tE G F W mo)) (ha : PA X [e] (tA G F W m))
    (hbase : attributeBase o "extend" X.env (eval o X.env) = eval o X.env := by rfl)
    (hfew : ((backTo pos (starEach (e :: []) X.env)).all (fun x => !x.1) && (backToKw pos (keywordEach [] X.env)).all (fun x => x.1.isSome)
      && decide ((e :: []).length + ([] : List Keyword).length + (if ([] : List Keyword).isEmpty then 0 else 1) < 30)) = true := by rfl)
    (hline : (apos.endLine == pos.line) = true := by rfl) (hs : starEach (e :: []) X.env = (false, eval e X.env) :: starEach [] X.env := by rfl) (hplain : (backTo pos (starEach [] X.env)).any (·.1) = false := by rfl) :
    PE X (.Call (.Attribute o "extend" apos) [e] [] pos) (tE G F W (mMeth isL fExtend mo m)) :=
  me_bm (id := "list.extend") hk (pe_bm PySem.F.plainAttrs_list PySem.F.slot_list_extend PySem.F.type_list_extend mt_extB ho ha hbase hfew hline hs hplain) isL_ok (ms_extend hk)
theorem me_pop {o : Expr} {apos : Pos} {mo : EM} (hk : X.K = G.K) (ho : PE X o (tE G F W mo))
    (hbase : attributeBase o "pop" X.env (eval o X.env) = eval o X.env := by rfl) (hline : (apos.endLine == pos.line) = true := by rfl) :
    PE X (.Call (.Attribute o "pop" apos) [] [] pos) (tE G F W (mMeth isL fPop mo mNil)) :=
  me_bm0 (id := "list.pop") hk (pe_bm0 PySem.F.plainAttrs_list PySem.F.slot_list_pop PySem.F.type_list_pop mt_pop ho hbase hline) isL_ok ms_pop
/-! ### defs -/
def PostF (G : Gd) (ρ : List Addr) (H : Hp) (Q : VK) : AV → Sto → Prop := fun v S' => ∀ ρ' H', Ext ρ H ρ' H' → Rel G ρ' S' H' → AllKnown G ρ' S' H' → ∀ x, RV G ρ' H' v x → Q x H'
def PostFX (G : Gd) (ρ : List Addr) (H : Hp) (E : XK) : AE → Lo → Sto → Prop := fun e _ S' => ∀ ρ' H', Ext ρ H ρ' H' → Rel G ρ' S' H' → AllKnown G ρ' S' H' → ∀ cls d, RE G ρ' H' e cls d → E cls d H'
abbrev Fn := List AV → Sto → Out AV
def SPf (G : Gd) (n : Nat) (f : Fn) : Sp := fun vs H Q E => ∃ ρ S xs, Rel G ρ S H ∧ AllKnown G ρ S H ∧ RVs G ρ H xs vs ∧ xs.length = n ∧ (f xs S).Sat (PostF G ρ H Q) (PostFX G ρ H E)
theorem SPf.len {n : Nat} {f : Fn} {vs : List V} {H : Hp} {Q : VK} {E : XK} (h : SPf G n f vs H Q E) : vs.length = n := by
  obtain ⟨ρ, S, xs, _, _, r, e, _⟩ := h
  rw [RVs_len r, e]
def startL (N : Nat) (xs : List AV) : Lo := xs.map LV.v ++ List.replicate (N - xs.length) .u
def runF (N : Nat) (body : SM) : Fn := fun xs S => (body (startL N xs) S).bind fun r S1 => match r.1 with
  | .nx => .ok .non S1
  | .rt v => .ok v S1
  | _ => .bad
theorem nth_eq : ∀ (l : Lo) (i : Nat), nth l i = (l[i]?).getD .u
  | [], i => by simp [nth]
  | x :: r, 0 => by simp [nth]
  | x :: r, i + 1 => by simp [nth, nth_eq r i]
theorem startL_noC {N : Nat} {xs : List AV} : ∀ i k a, nth (startL N xs) i ≠ .c k a := by
  intro i k a e
  unfold startL at e
  rw [nth_eq] at e
  cases q : (xs.map LV.v ++ List.replicate (N - xs.length) LV.u)[i]? with
  | none =>
        rw [q] at e; cases e
  | some y =>
    rw [q] at e
    have e : y = .c k a := e
    rcases List.mem_append.mp (List.mem_of_getElem? q) with m | m
    · obtain ⟨z, _, rfl⟩ := List.mem_map.mp m
      cases e
    · rw [(List.mem_replicate.mp m).2] at e
      cases e
theorem start_stt {ρ : List Addr} {S : Sto} {H : Hp} {xs : List AV} {vs : List V} {N : List Str} {F : Fm} (R : Rel G ρ S H) (K : AllKnown G ρ S H) (r : RVs G ρ H xs vs) : Stt G F ρ S (startL N.length xs) (L2.start N vs) H := by
  have hl := RVs_len r
  refine ⟨R, ?_, fun i => ?_, K, fun i j k a b z => absurd z (startL_noC i k a)⟩
  · unfold L2.start startL
    simp [hl]
  · unfold startL
    rw [nth_eq]
    by_cases h : i < xs.length
    · obtain ⟨v, hv, rvA⟩ := RVs_get r (List.getElem?_eq_getElem h)
      have e1 : (xs.map LV.v ++ List.replicate (N.length - xs.length) LV.u)[i]? = some (.v xs[i]) := by
        rw [List.getElem?_append_left (by simpa using h)]
        simp [h]
      rw [e1]
      refine ⟨v, ?_, rvA⟩
      unfold L2.start
      rw [List.getElem?_append_left (by simpa [hl] using h)]
      simp [hv]
    · have e1 : ((xs.map LV.v ++ List.replicate (N.length - xs.length) LV.u)[i]?).getD .u = .u := by
        rw [List.getElem?_append_right (by simpa using h)]
        cases q : (List.replicate (N.length - xs.length) LV.u)[i - (xs.map LV.v).length]? with
        | none => rfl
        | some y =>
          have := List.mem_of_getElem? q
          rw [List.mem_replicate] at this
          rw [this.2]
          rfl
      rw [e1]
      trivial
abbrev WF (E : XK) : WX := fun cls d _ H => E cls d H
/-- a def keeps to its plain function -/
theorem fn_ok {P : Program} {w : World} {K : PySem.W.Frag} {mg : Str → Option Value} {base : Heap} {N ps : List Str} {k n : Nat} {x qual : Str} {params : Arguments} {body : List Stmt} {scope : Scope} {dvs : List V} {kws : List (Str × V)} {f : Addr} {fd : FuncData} {m : SM} {Fs : Shared → Fm}
    (Fd : FunD K x qual params body scope dvs kws f fd) (Sc : FnScope N ps scope) (hn : ps.length = n)
    (hbody : ∀ (cdv : Value) (A : Around) (outer : List Env) (s : Shared) (H : Hp) (E : XK), fd.code = cdv → Room k (A.deeper (envOfC qual scope s.heap.objs.size f cdv)) →
      PSs (cxOf (L2.CX P w) P w K mg base N qual scope f cdv A outer s H E) body (tS G (Fs s) (WF E) m)) : FnOk P w K mg base (L2.CX P w) (k + 1) f fd ps (SPf G n (runF N.length m)) := by
  obtain ⟨oc, od, dV, kV, doc, pm, an, cdv, ct, osl, rfl, lk, hcd, _, _⟩ := Fd.ex
  refine fn_of lk hcd Sc (fun vs H Q E h => by rw [h.len, hn]) fun A outer s H vs Q E hr hsp => ?_
  refine ⟨_, hbody cdv A outer s H E rfl hr, ?_⟩
  obtain ⟨ρ, S, xs, R, K, r, e, h⟩ := hsp
  refine ⟨ρ, S, _, start_stt R K r, Out.sat_mono (fun q S1 z ρ1 H1 σ1 x1 T1 => ?_) (fun e L S1 z ρ1 H1 σ1 x1 T1 cls d re => z ρ1 H1 x1 T1.rel T1.known cls d re) (Out.sat_bind.mp h)⟩
  obtain ⟨fl, L⟩ := q
  cases fl with
  | nx => exact z ρ1 H1 x1 T1.rel T1.known _ rv_non
  | rt v => exact fun y ry => z ρ1 H1 x1 T1.rel T1.known y ry
  | br => exact z.elim
  | ct => exact z.elim
def callF (n : Nat) (f : Fn) (xs : List AV) (ls : Lo) (S : Sto) : Out AV := match Nat.beq xs.length n with
  | true => offR ls (f xs (onL ls S))
  | false => .bad
def mCallF (n : Nat) (f : Fn) (m : AM) : EM := fun ls S => (m ls S).bind fun xs S1 => callF n f xs ls S1
/-- a call, the own cells told of: run down to the callee's promise -/
theorem run_callZ {pins : List (Addr × Obj)} {σ : L2.St} {H : Hp} {s : Shared} {Q : VK} {ρ : List Addr} {S : Sto} {ls : Lo} {fn : Out AV} {fv : Value} {a : Args} (hN : X.N.Nodup) (hcb : CBx X) (tk : Takes X W)
    (I : Inv X pins σ H s) (T : Stt G (fm X) ρ S ls σ H) (h : (offR ls fn).Sat (PostV G (fm X) ρ ls σ H Q) (PostX G (fm X) W ρ H))
    (run : ∀ (C : Cs) (Q' : VK) (E' : XK), Env0 X.prog X.w X.K X.mg X.base X.A X.stack s (fz H C) → Ext ρ H ρ (fz H C) → Rel G ρ (onL ls S) (fz H C) → AllKnown G ρ (onL ls S) (fz H C) → fn.Sat (PostF G ρ (fz H C) Q') (PostFX G ρ (fz H C) E') →
      codeAny (model X.prog X.w) X.A (.call fv a) (CR (L2.CX X.prog X.w) X.stack X.prog X.w (fz H C) s Q' E') s) : codeAny (model X.prog X.w) X.A (.call fv a) (fun r s' => match r with
      | .ok (.ret u) => EP X pins σ Q u s'
      | .ok _ => False
      | .error e => X.xe e s') s := by
  obtain ⟨C, cf, hC⟩ := cfr_mk hN I (ls := ls) fun i k a e => by
    obtain ⟨⟨y, h1, _⟩, _, n, b, _, h3, h4, h5⟩ := T.c_at e
    exact ⟨n, b, y, h3, h4, h5, h1⟩
  have own : ∀ b o, C.lookup b = some o → ∃ n, X.env.cells.lookup n = some b := fun b o e => let ⟨_, _, _, _, n, _, _, z⟩ := hC b o e; ⟨n, z⟩
  have fC : Free H C := free_of I own
  have hc : ∀ b o, C.lookup b = some o → s.heap.get? b = some o := fun b o e => (hC b o e).1
  have hB : ∀ b o, C.lookup b = some o → X.base.get? b = none ∧ b ∉ frs X.stack := fun b o e => let ⟨n, z⟩ := own b o e; hcb.at I n b z
  obtain ⟨Ro, Ko⟩ := T.on fC cf
  have go := run C (fun v H' => Held H' C → Q v (uz H' C)) (fun cls d H' => Held H' C → W cls d σ (uz H' C)) (env0_fz fC hc hB I.env0) (ext_fz fC) Ro Ko
    (Out.sat_mono (fun v S' ⟨S2, e, z⟩ ρ' H' x R K y ry hf => by
      obtain ⟨T2, x2⟩ := T.off fC cf x hf R K e
      exact z ρ' _ x2 T2 y (RV.monoT (extT_uz hf) v ry)) (fun ex L S' ⟨S2, e, z⟩ ρ' H' x R K cls d re hf => by
      obtain ⟨T2, x2⟩ := T.off fC cf x hf R K e
      refine z ρ' _ σ x2 T2 cls d ⟨re.1, ?_⟩
      have r2 := re.2
      cases q : ex.fs with
      | nil => rw [q] at r2; exact r2
      | cons p ps =>
        rw [q] at r2
        obtain ⟨b, gs, e1, e2, e3⟩ := r2
        exact ⟨b, gs, e1, by rw [uz_ne (hf.ne e2 fun _ z => by cases z)]; exact e2, e3.monoT (extT_uz hf)⟩) (offR_sat h))
  refine codeAny_mono go fun r s' hq => ?_
  cases r with
  | error e => exact tk e s' (XE.of_call I (fun _ _ _ h => h) (cx_fz (E := fun cls d H' => W cls d σ H') fC hc (fun b o e => (hB b o e).2) hq))
  | ok fl =>
    cases fl with
    | ret u => exact I.after (ce_fz' fC hc hq)
    | next => exact False.elim hq
    | brk => exact False.elim hq
    | cont => exact False.elim hq
/-- a def is called -/
theorem run_fnZ {pins : List (Addr × Obj)} {σ : L2.St} {H : Hp} {s : Shared} {Q : VK} {us : List Value} {vs : List V} {ρ : List Addr} {S : Sto} {ls : Lo} {xs : List AV} {n k : Nat} {fn : Fn} {f : Addr} {fd : FuncData} {ps : List Str} (hN : X.N.Nodup) (hcb : CBx X) (tk : Takes X W)
    (Fk : FnOk X.prog X.w X.K X.mg X.base (L2.CX X.prog X.w) k f fd ps (SPf G n fn)) (hr : Room k X.A) (hb : Binds X.K fd ps []) (I : Inv X pins σ H s) (T : Stt G (fm X) ρ S ls σ H) (r : Vals vs us) (rv : RVs G ρ H xs vs)
    (h : (callF n fn xs ls S).Sat (PostV G (fm X) ρ ls σ H Q) (PostX G (fm X) W ρ H)) : wpAny (model X.prog X.w) X.A (call (.ref f) us) (EP X pins σ Q) X.xe s := by
  unfold callF at h
  cases q : Nat.beq xs.length n with
  | false => rw [q] at h; exact h.elim
  | true =>
    rw [q] at h
    refine wpAny_call (codeAny_mono (run_callZ hN hcb tk I T h fun C Q' E' e0 x R K z => ?_) fun r s' hq => by
      cases r with
      | error e => exact hq
      | ok fl => cases fl <;> exact hq)
    have sp : SPf G n fn vs (fz H C) Q' E' := ⟨ρ, _, xs, R, K, rv.mono x xs, Nat.eq_of_beq_eq_true q, z⟩
    have hl : us.length = ps.length := by rw [← r.length]; exact Fk.len _ _ _ _ sp
    have b :=
          hb s us I.kIn (by rw [List.append_nil]; exact hl)
    rw [List.append_nil] at b
    exact Fk.run X.A X.stack s (fz H C) ⟨us, []⟩ us vs Q' E' hr e0 b r sp
/-! plain arguments -/
def notStar : Expr → Bool
  | .Starred _ _ => false
  | _ => true
def noStars : List Expr → Bool
  | [] => true
  | e :: r => notStar e && noStars r
theorem star_cons {e : Expr} {es : List Expr} {env : Env} (h : notStar e = true) : starEach (e :: es) env = (false, eval e env) :: starEach es env := by
  cases e <;> first
    | rfl
    | cases h
theorem star_plain {env : Env} {pos : Pos} : ∀ {es : List Expr}, noStars es = true → (backTo pos (starEach es env)).any (·.1) = false
  | [], _ => rfl
  | e :: r, h => by
    unfold noStars at h
    rw [Bool.and_eq_true] at h
    rw [star_cons h.1]
    show (false || (backTo pos (starEach r env)).any (·.1)) = false
    rw [star_plain h.2]
    rfl
/-- a value is called, its arguments plain -/
theorem run_args {pins : List (Addr × Obj)} {σ : L2.St} {H : Hp} {s : Shared} {f : Value} {Q : Value → Shared → Prop} {m : AM} {ρ : List Addr} {S : Sto} {ls : Lo} {α : Type} {P : α → Sto → Prop} {g : List AV → Sto → Out α} (I : Inv X pins σ H s) (hk : PySem.W.keepIn X.K f = true) (ha : PA X es (tA G F W m)) (hst : noStars es = true)
    (T : Stt G F ρ S ls σ H) (h : ((m ls S).bind g).Sat P (PostX G F W ρ H)) (h0 : es = [] → m = mNil)
    (go : ∀ us s1 vs H1 ρ1 S1 xs, Inv X pins σ H1 s1 → Vals vs us → Stt G F ρ1 S1 ls σ H1 → Ext ρ H ρ1 H1 → RVs G ρ1 H1 xs vs → (g xs S1).Sat P (PostX G F W ρ H) → wpAny (model X.prog X.w) X.A (call f us) Q X.xe s1) :
    wpAny (model X.prog X.w) X.A (callWith pos f [] (backTo pos (starEach es X.env)) []) Q X.xe s := by
  cases es with
  | nil =>
    rw [h0 rfl] at h
    exact PySem.W.callWith_K0 I.kIn hk (go [] s [] H ρ S [] I .nil T (Ext.refl _ _) (by unfold RVs; rfl) h)
  | cons e r =>
    unfold noStars at hst
    rw [Bool.and_eq_true] at hst
    have ht : tA G F W m σ H (fun vs H1 => ∃ ρ1 S1 xs, Stt G F ρ1 S1 ls σ H1 ∧ Ext ρ H ρ1 H1 ∧ RVs G ρ1 H1 xs vs ∧ (g xs S1).Sat P (PostX G F W ρ H)) :=
      ⟨ρ, S, ls, T, Out.sat_mono (fun xs S1 z ρ1 H1 x1 T1 vs r1 => ⟨ρ1, S1, xs, T1, x1, r1, z⟩) (fun _ _ _ z => z) (Out.sat_bind.mp h)⟩
    refine PySem.W.callWith_K (h₀ := X.base) I.ok.mod.kin hk (thn (ha.run pos pins s σ H _ I ht) fun us s1 ⟨vs, H1, I1, rr, ρ1, S1, xs, T1, x1, rv, z⟩ => ⟨I1.kIn, ?_⟩) (star_cons hst.1) (star_plain hst.2)
    exact go us s1 vs H1 ρ1 S1 xs I1 rr T1 x1 rv z
theorem me_call {x : Str} {k n : Nat} {fd : FuncData} {ps : List Str} {f : Fn} {ad : Addr} {m : AM} {isS : Pos} (hN : X.N.Nodup) (hcb : CBx X) (tk : Takes X W) (Fk : FnOk X.prog X.w X.K X.mg X.base (L2.CX X.prog X.w) k ad fd ps (SPf G n f)) (hr : Room k X.A) (hm : X.mg x = some (.ref ad)) (hk : PySem.W.keepIn X.K (.ref ad) = true) (hb : Binds X.K fd ps [])
    (ha : PA X es (tA G (fm X) W m)) (h0 : es = [] → m = mNil) (hst : noStars es = true) (hg : Gl X x) (hdb : (x == ("__debug__" : Str)) = false) :
    PE X (.Call (.Name x isS) es [] pos) (tE G (fm X) W (mCallF n f m)) := by
  refine ⟨fun pins s σ H Q I ⟨ρ, S, ls, T, h⟩ => ?_⟩
  refine wpAny_Call_Name_kw
        (ld_glob I hg hm ?_ hdb)
  exact run_args I hk ha hst T h h0 fun us s1 vs H1 ρ1 S1 xs I1 r T1 x1 rv z => run_fnZ hN hcb tk Fk hr hb I1 T1 r rv (Out.sat_mono (fun _ _ z => z.ext x1) (fun _ _ _ z => z.ext x1) z)
end
end Sh

end

noncomputable section
namespace Sh
open PySem PySem.Spec PyProof.Rows L2 LamX
section
variable {G : Gd} {F : Fm}
theorem Imm.ntbl {o : HO} (h : Imm o) (ps : Array Value) : o ≠ .tbl ps := fun z => by rw [z] at h; exact h
theorem Stt.extN {ρ : List Addr} {S : Sto} {ls : Lo} {σ : L2.St} {H H1 : Hp} (T : Stt G F ρ S ls σ H) (e : ExtN H H1) (t : Tabs G.T H1) : Stt G F ρ S ls σ H1 ∧ Ext ρ H ρ H1 := by
  have x : Ext ρ H ρ H1 := ⟨⟨[], by simp⟩, fun a o h i => e a o h i.ntbl⟩
  refine ⟨T.with x ⟨T.rel.len, T.rel.lt, T.rel.nd, fun i a o hi hg => ?_, t, T.rel.one⟩ (fun k a v h g => (T.known k a v h g).mono x) fun _ _ _ g => g, x⟩
  have q := T.rel.obj i a o hi hg
  cases o with
  | lst xs => obtain ⟨vs, h1, h2⟩ := q; exact ⟨vs, e _ _ h1 (fun ps z => by cases z), h2.mono x xs⟩
  | dct kvs => obtain ⟨ps, h1, h2⟩ := q; exact ⟨ps, e _ _ h1 (fun ps z => by cases z), h2.mono x⟩
  | dtp kvs => obtain ⟨ps, h1, h2⟩ := q; exact ⟨ps, e _ _ h1 (fun ps z => by cases z), h2.mono x⟩
  | ldk kvs => obtain ⟨ob, ps, h1, h2⟩ := q; exact ⟨ob, ps, e _ _ h1 (fun ps z => by cases z), h2.mono x⟩
  | ins c fs => obtain ⟨dx, gs, h1, h2⟩ := q; exact ⟨dx, gs, e _ _ h1 (fun ps z => by cases z), h2.mono x⟩
  | cell ov => trivial
  | strm c =>
    obtain ⟨l, ⟨d, m, xs, h1, h2, h3⟩, h4⟩ := q
    exact ⟨l, ⟨d, m, xs, e _ _ h1 (fun ps z => by cases z), e _ _ h2 (fun ps z => by cases z), h3⟩, h4⟩
end
/-! a lambda that stands as a value -/
section
variable
      {X : Cx} {pins : List (Addr × Obj)} {σ : L2.St} {H : Hp} {s : Shared}
theorem inv_lam {D : LamD} {cl : List (Str × Addr)} {pm ctv : Value} {c' : Addr} {t' : Nat} (I : Inv X pins σ H s) :
    Inv X pins σ (upd H s.heap.objs.size (LamO s.heap.objs.size D cl c')) { s with heap := s.heap.push (PySem.W.kla_obj "<lambda>" D.q D.params D.body D.scope cl pm c' ctv), toks := t' } := by
  have here : (s.heap.push (PySem.W.kla_obj "<lambda>" D.q D.params D.body D.scope cl pm c' ctv)).get? s.heap.objs.size = some (PySem.W.kla_obj "<lambda>" D.q D.params D.body D.scope cl pm c' ctv) := Heap.get?_push_size _ rfl
  exact I.laid (a := s.heap.objs.size) (fun _ _ old => Heap.get?_push_of_some _ old) (Nat.le_refl _) ⟨⟨pm, ctv, here⟩, ⟨_, here⟩, fun _ _ ⟨p, c, z⟩ st => ⟨p, c, st _ z⟩⟩
/-- what is known behind the making -/
def MadeQ (T : List (Addr × Str)) (D : LamD) (cl : List (Str × Addr)) (H : Hp) (Q : V → Hp → Prop) : Prop :=
  ∀ (f c' : Addr) (H1 : Hp), ExtN H H1 → Tabs T H1 → H f = none → H1 f = some (LamO f D cl c') → H1 c' = some (CodeO c' D.q) → (∀ b, H1 b = none → H b = none) → Q (.ref f) H1
def tLamV (T : List (Addr × Str)) (D : LamD) (cl : List (Str × Addr)) : TE := fun σ H Q => Tabs T H ∧ MadeQ T D cl H Q
theorem upd_no {H : Hp} {a b : Addr} {o : HO} (e : upd H a o b = none) : H b = none := by
  unfold upd at e
  split at e
  · cases e
  · exact e
theorem pe_lamv {T : List (Addr × Str)} {c P : Addr} {D : LamD} {pos : Pos} (TB : TabB X.base X.mg c P) (hcode : X.env.code = .ref c) (hq : D.q = X.env.qual ++ "<lambda>") (hm : (P, D.q) ∈ T) (hu : ∀ p ∈ T, p.1 = P → p.2 = D.q)
    (hdef : defaultsOf D.params X.env = ([], [])) (hfree : ∀ y ∈ D.scope.names, y.2 = .free → X.env.scope.names.lookup y.1 = some .cell ∨ X.env.scope.names.lookup y.1 = some .free) :
    PE X (.Lambda D.params D.body D.scope pos) (tLamV T D (cloFrom X.env.cells D.scope.names [])) := by
  refine ⟨fun pins s σ H Q I h =>
        ?_⟩
  obtain ⟨hT, h⟩ := h
  have has : ∀ y ∈ D.scope.names, y.2 = .free → ∃ c, X.env.cells.lookup y.1 = some c := fun y hy e => (hfree y hy e).elim (fun z => I.ok.has _ (.inl z)) fun z => I.ok.has _ (.inr z)
  have same : TabS H P D.q := hT _ hm
  obtain ⟨ps, hP, ht, ha⟩ := same
  refine
        PySem.W.kla_eval hdef ?_
  rw [← hq]
  have there : s.heap.get? P = some { cls := .none, data := .fields ps } := I.hok P _ hP
  cases
        hc : codeAmong pos ps.toList with
  | some cv =>
    obtain ⟨c', rfl, hco⟩ := ha pos cv hc
    refine PySem.W.kla_makeFunctionHit (mg := X.mg) (c := c) (P := P) (ps := ps) (closure_ok has) I.ok.glob (I.mod.glob.keeps I.bk) hcode (TB.code.keeps I.bk) there ht hc (TB.bm.keeps I.bk) fun ctv h' tk hx hsz => ?_
    have I1 : Inv X pins σ H { s with heap := h', toks := tk } :=
          I.kept hx
    have no : H h'.objs.size = none := I1.hok.fresh (Nat.le_refl _)
    have stay : ∀ b o, H b = some o → upd H h'.objs.size (LamO h'.objs.size D (cloFrom X.env.cells D.scope.names []) c') b = some o := fun b o e => (upd_ne (ne_of_none e no)).trans e
    exact ⟨.ref h'.objs.size, _, inv_lam (t' := tk) I1, rfl, h h'.objs.size c' _ (fun b o e _ => stay b o e) (hT.ext stay) no upd_same (stay _ _ hco) fun b e => upd_no e⟩
  | none =>
    refine PySem.W.kla_makeFunction (mg := X.mg) (c := c) (P := P) (ps := ps) (closure_ok has) I.ok.glob (I.mod.glob.keeps I.bk) hcode (TB.code.keeps I.bk) there ht hc TB.gP (TB.bm.keeps I.bk) fun c' ctv h' tk hx hge hlt hrec htb => ?_
    obtain ⟨c2, oc, vs, t, e2, hoc, hd, hv⟩ :=
          hrec
    cases e2
    have noC : H c' = none := I.hok.fresh hge
    have I1 :=
          inv_table (t' := tk) (more := #[rawInt pos.line, rawInt pos.col, .ref c']) (h' := h') I hP (fun b o hb e => hx b o hb e) htb hge ⟨oc, vs, t, hoc, hd, hv⟩
    have no := I1.hok.fresh (Nat.le_refl h'.objs.size)
    have no0 : H h'.objs.size = none := I.hok.fresh (Nat.le_trans hge (Nat.le_of_lt hlt))
    have up1 : ExtN H (upd (upd H P (.tbl (ps ++ #[rawInt pos.line, rawInt pos.col, .ref c']))) c' (CodeO c' D.q)) := fun b o e n => by
      have n1 : b ≠ c' := ne_of_none e noC
      have n2 : b ≠ P := fun z => by rw [z, hP] at e; exact n ps (Option.some.inj e).symm
      rw [upd_ne n1, upd_ne n2]
      exact e
    have tab1 : Tabs T (upd (upd H P (.tbl (ps ++ #[rawInt pos.line, rawInt pos.col, .ref c']))) c' (CodeO c' D.q)) := fun p hp => by
      have flat : (ps ++ #[rawInt pos.line, rawInt pos.col, .ref c']).toList = ps.toList ++ [rawInt pos.line, rawInt pos.col, .ref c'] := by simp
      by_cases hb : p.1 = P
      · rw [hu p hp hb, hb]
        refine ⟨_, (upd_ne (ne_of_none hP noC)).trans upd_same, ?_, ?_⟩
        · rw [flat]
          exact PySem.TriplesOk_snoc _ _ _ _ ht
        · intro p' cv hcv
          rw [flat] at hcv
          rcases
                among_app _ ht hcv with z | z
          · obtain ⟨c0, e1, e2⟩ :=
                ha p' cv z
            exact ⟨c0, e1, up1 _ _ e2 codeO_ne⟩
          · exact ⟨c', z, upd_same⟩
      · obtain ⟨qs, a1, a2, a3⟩ := hT p hp
        refine ⟨qs, ?_, a2, fun p' cv hcv => ?_⟩
        · rw [upd_ne (ne_of_none a1 noC), upd_ne hb]
          exact a1
        · obtain ⟨c0, e1, e2⟩ := a3 p' cv hcv
          exact ⟨c0, e1, up1 _ _ e2 codeO_ne⟩
    have stay : ∀ b o, upd (upd H P (.tbl (ps ++ #[rawInt pos.line, rawInt pos.col, .ref c']))) c' (CodeO c' D.q) b = some o →
        upd (upd (upd H P (.tbl (ps ++ #[rawInt pos.line, rawInt pos.col, .ref c']))) c' (CodeO c' D.q)) h'.objs.size (LamO h'.objs.size D (cloFrom X.env.cells D.scope.names []) c') b = some o := fun b o e => (upd_ne (ne_of_none e no)).trans e
    exact ⟨.ref h'.objs.size, _, inv_lam (t' := tk) I1, rfl, h h'.objs.size c' _ (fun b o e n => stay _ _ (up1 b o e n)) (tab1.ext stay) no0 upd_same (stay _ _ upd_same) fun b e => upd_no (upd_no (upd_no e))⟩
end
end Sh

end

noncomputable section
namespace Sh
open PySem PySem.Spec PyProof.Rows L2 LamX
/-! a lambda made: a value with the numbers of its cells -/
def capK (ls : Lo) : List Nat → Option (List Nat)
  | [] => some []
  | j :: js => match nth ls j with
    | .c k _ => match capK ls js with
      | some ks => some (k :: ks)
      | none => none
    | _ => none
theorem capK_ok {ls : Lo} : ∀ {js ks : List Nat}, capK ls js = some ks → ks.length = js.length ∧ ∀ (i k : Nat), ks[i]? = some k → ∃ j, js[i]? = some j ∧ ∃ a, nth ls j = .c k a
  | [], ks, h => by
    unfold capK at h
    cases h
    exact ⟨rfl, fun i k z => by simp at z⟩
  | j :: js, ks, h => by
    unfold capK at h
    cases q : nth ls j with
    | c k a =>
      simp only [q] at h
      cases q2 : capK ls js with
      | none => simp only [q2] at h; cases h
      | some ks' =>
        simp only [q2] at h
        cases h
        obtain ⟨h1, h2⟩ := capK_ok q2
        refine ⟨by simp [h1], fun i k' z => ?_⟩
        cases i with
        | zero => simp at z; subst z; exact ⟨j, rfl, a, q⟩
        | succ i =>
          obtain ⟨j', e1, e2⟩ := h2 i k' (by simpa using z)
          exact ⟨j', by simpa using e1, e2⟩
    | u => simp only [q] at h; cases h
    | v a => simp only [q] at h; cases h
theorem nodup_of {α β : Type} {l : List α} {m : List β} (h : m.Nodup) (hl : l.length = m.length) (f : ∀ (i : Nat) (a : α), l[i]? = some a → ∀ (j : Nat), l[j]? = some a → i = j) : l.Nodup := by
  rw [List.nodup_iff_pairwise_ne, List.pairwise_iff_getElem]
  intro i j hi hj hij e
  have := f i l[i] (List.getElem?_eq_getElem hi) j (by rw [List.getElem?_eq_getElem hj, e])
  omega
def mLam (c : Nat) (js : List Nat) : EM := fun ls S => match capK ls js with
  | some ks => .ok (.clo c ks) S
  | none => .bad
section
variable {X : Cx} {G : Gd} {W : WX}
theorem me_lam (c : Nat) (js : List Nat) {cp P : Addr} {pos : Pos} (TB : TabB X.base X.mg cp P) (hcode : X.env.code = .ref cp) (hq : (G.lam c).q = X.env.qual ++ "<lambda>") (hm : (P, (G.lam c).q) ∈ G.T) (hu : ∀ p ∈ G.T, p.1 = P → p.2 = (G.lam c).q)
    (hdef : defaultsOf (G.lam c).params X.env = ([], [])) (hfree : ∀ y ∈ (G.lam c).scope.names, y.2 = .free → X.env.scope.names.lookup y.1 = some .cell ∨ X.env.scope.names.lookup y.1 = some .free)
    (hcl : ∀ cells, cloFrom cells (G.lam c).scope.names [] = (G.lam c).fr.map fun n => (n, (cells.lookup n).getD 0)) (hjs : js.map (fun j => X.N[j]?) = (G.lam c).fr.map some) (hnd : js.Nodup) :
    PE X (.Lambda (G.lam c).params (G.lam c).body (G.lam c).scope pos) (tE G (fm X) W (mLam c js)) := by
  refine PE_imp (pe_lamv (T := G.T) (D := G.lam c) TB hcode hq hm hu hdef hfree) fun σ H Q ⟨ρ, S, ls, T, h⟩ => ⟨T.rel.tabs, fun f c' H1 eN t1 f0 f1 c1 _ => ?_⟩
  obtain ⟨T1, x1⟩ := T.extN eN t1
  unfold mLam at h
  cases q : capK ls js with
  | none => rw [q] at h; exact h.elim
  | some ks =>
    rw [q] at h
    obtain ⟨hl, hk⟩ := capK_ok q
    have hlen : js.length = (G.lam c).fr.length := by
      have := congrArg List.length hjs
      simpa using this
    refine h ρ H1 x1 T1 _ ?_
    unfold RV
    refine ⟨f, c', _, rfl, f1, c1, ?_, ⟨?_, ?_⟩, fun i k e => ?_⟩
    · rw [hcl, List.length_map, ← hlen, hl]
    · rw [hcl, List.map_map]
      show (G.lam c).fr.map (fun n => n) = _
      simp
    · refine nodup_of hnd hl fun i k e j e' => ?_
      obtain ⟨a, h1, a1, h2⟩ := hk i k e
      obtain ⟨b, h3, b1, h4⟩ := hk j k e'
      have ab := T.one a b k a1 b1 h2 h4
      subst ab
      exact (List.getElem?_inj (List.getElem?_eq_some_iff.mp h1).1 hnd).mp (h1.trans h3.symm)
    · obtain ⟨j, h1, a1, h2⟩ := hk i k e
      obtain ⟨_, _, n, a, r1, r2, r3, _⟩ := T1.c_at h2
      have r2 : X.N[j]? = some n := r2
      have r3 : X.env.cells.lookup n = some a := r3
      have e1 : (js.map fun j => X.N[j]?)[i]? = some (some n) := by rw [List.getElem?_map, h1, ← r2]; rfl
      rw [hjs, List.getElem?_map] at e1
      have e2 : (G.lam c).fr[i]? = some n := by
        cases z : (G.lam c).fr[i]? with
        | none => rw [z] at e1; cases e1
        | some m => rw [z] at e1; cases e1; rfl
      exact ⟨n, a, by rw [hcl, List.getElem?_map, e2]; simp [r3], r1⟩
end
end Sh

end

noncomputable section
namespace Sh
open PySem PySem.Spec PyProof.Rows L2 LamX
/-! ### cells get numbers -/
def reg1 (j : Nat) (ls : Lo) (S : Sto) : Option (Lo × Sto) := match nth ls j with
  | .v a => match S.ok with
    | true => some (setL ls j (.c S.n a), S.new (.cell none))
    | false => none
  | .c _ _ => some (ls, S)
  | .u => some (ls, S)
def regL : List Nat → Lo → Sto → Option (Lo × Sto)
  | [], ls, S => some (ls, S)
  | j :: js, ls, S => match reg1 j ls S with
    | some (l, S1) => regL js l S1
    | none => none
/-- numbers forgotten -/
def Less (ls ls' : Lo) : Prop := ls.length = ls'.length ∧ ∀ i, nth ls i = nth ls' i ∨ ∃ k a, nth ls' i = .c k a ∧ nth ls i = .v a
theorem Less.refl (ls : Lo) : Less ls ls := ⟨rfl, fun _ => .inl rfl⟩
theorem Less.trans {a b c : Lo} (x : Less a b) (y : Less b c) : Less a c := ⟨x.1.trans y.1, fun i => by
  rcases x.2 i with e | ⟨k, v, e, e'⟩
  · rw [e]; exact y.2 i
  · rcases y.2 i with f | ⟨k', v', f, f'⟩
    · exact .inr ⟨k, v, by rw [← f]; exact e, e'⟩
    · rw [e] at f'; cases f'⟩
section
variable {G : Gd} {F : Fm} {ρ : List Addr} {S : Sto} {ls ls' : Lo} {σ : L2.St} {H : Hp}
theorem Stt.less (T : Stt G F ρ S ls' σ H) (l : Less ls ls') : Stt G F ρ S ls σ H := by
  refine ⟨T.rel, T.len.trans l.1.symm, fun i => ?_, T.known, fun i j k a b e1 e2 => ?_⟩
  · rcases l.2 i with e | ⟨k, a, e, e'⟩
    · rw [e]; exact T.loc i
    · rw [e']; exact (T.c_at e).1
  · rcases l.2 i with f | ⟨_, _, _, f⟩
    · rcases l.2 j with g | ⟨_, _, _, g⟩
      · exact T.one i j k a b (f ▸ e1) (g ▸ e2)
      · rw [g] at e2; cases e2
    · rw [f] at e1; cases e1
end
section
variable {X : Cx} {G : Gd} {W : WX} {pins : List (Addr × Obj)} {σ : L2.St} {H : Hp} {s : Shared}
theorem reg_ok (I : Inv X pins σ H s) : ∀ {js : List Nat} {ρ : List Addr} {S : Sto} {ls : Lo} {ls' : Lo} {S' : Sto}, Stt G (fm X) ρ S ls σ H → (∀ j ∈ js, ∃ n, X.N[j]? = some n ∧ CK X.env.scope n) → regL js ls S = some (ls', S') →
    ∃ ρ', Stt G (fm X) ρ' S' ls' σ H ∧ Ext ρ H ρ' H ∧ Less ls ls'
  | [], ρ, S, ls, ls', S', T, _, h => by
    unfold regL at h
    cases h
    exact ⟨ρ, T, Ext.refl _ _, Less.refl _⟩
  | j :: js, ρ, S, ls, ls', S', T, hj, h => by
    unfold regL at h
    cases q : reg1 j ls S with
    | none => rw [q] at h; cases h
    | some p =>
      obtain ⟨l1, S1⟩ := p
      rw [q] at h
      dsimp only at h
      have one : ∃ ρ1, Stt G (fm X) ρ1 S1 l1 σ H ∧ Ext ρ H ρ1 H ∧ Less ls l1 := by
        unfold reg1 at q
        cases e : nth ls j with
        | u => rw [e] at q; cases q; exact ⟨ρ, T, Ext.refl _ _, Less.refl _⟩
        | c k a => rw [e] at q; cases q; exact ⟨ρ, T, Ext.refl _ _, Less.refl _⟩
        | v a =>
          rw [e] at q
          cases hs : S.ok with
          | false => simp only [hs] at q; cases q
          | true =>
            simp only [hs] at q
            cases q
            obtain ⟨n, hn, ck⟩ := hj j List.mem_cons_self
            obtain ⟨b, hb⟩ := I.ok.has n ck
            obtain ⟨R, x⟩ := T.rel.cellNew hs (I.freeC n b hb)
            have T1 := T.grow (ao := .cell none) (fun v z => by cases z) x R
            have hjl : j < ls.length := nth_lt (by rw [e]; exact fun z => by cases z)
            have old : ∀ {i k : Nat} {a' : AV}, nth ls i = .c k a' → k ≠ S.n := fun {i k a'} e z => by
              obtain ⟨_, _, _, _, h, _⟩ := T.c_at e
              have := T.lt h
              omega
            have nw : (S.new (.cell none)).get S.n = some (.cell none) := by
              rw [Sto.get_new (small40 T.rel.lt) (small40 T.rel.lt), if_pos rfl]
            have hl := T.loc j
            rw [e] at hl
            obtain ⟨y, h1, h2⟩ := hl
            refine ⟨ρ ++ [b], ⟨T1.rel, T1.len.trans (setL_len _ _ _).symm, fun i => ?_, T1.known, fun i i' k a1 a2 e1 e2 => ?_⟩, x, ⟨(setL_len _ _ _).symm, fun i => ?_⟩⟩
            · rw [nth_setL]
              by_cases z : i = j
              · subst z
                rw [if_pos ⟨rfl, hjl⟩]
                exact ⟨⟨y, h1, h2.mono x a⟩, nw, n, b, by rw [← T.rel.len]; simp, hn, hb, ck⟩
              · rw [if_neg (fun q => z q.1)]
                exact T1.loc i
            · rw [nth_setL] at e1 e2
              by_cases z : i = j
              · rw [if_pos ⟨z, hjl⟩] at e1
                cases e1
                by_cases z' : i' = j
                · rw [z, z']
                · rw [if_neg (fun q => z' q.1)] at e2
                  exact absurd rfl (old e2)
              · rw [if_neg (fun q => z q.1)] at e1
                by_cases z' : i' = j
                · rw [if_pos ⟨z', hjl⟩] at e2
                  cases e2
                  exact absurd rfl (old e1)
                · rw [if_neg (fun q => z' q.1)] at e2
                  exact T.one i i' k a1 a2 e1 e2
            · rw [nth_setL]
              by_cases z : i = j
              · subst z
                rw [if_pos ⟨rfl, hjl⟩]
                exact .inr ⟨S.n, a, rfl, e⟩
              · rw [if_neg (fun q => z q.1)]
                exact .inl rfl
      obtain ⟨ρ1, T1, x1, l1'⟩ := one
      obtain ⟨ρ2, T2, x2, l2⟩ := reg_ok I T1 (fun j' hj' => hj j' (List.mem_cons_of_mem _ hj')) h
      exact ⟨ρ2, T2, x1.trans x2, l1'.trans l2⟩
def mRegS (js : List Nat) (m : SM) : SM := fun ls S => match regL js ls S with
  | some (l, S1) => m l S1
  | none => .bad
theorem ms_reg {js : List Nat} {m : SM} {st : Stmt} (hjs : ∀ j ∈ js, ∃ n, X.N[j]? = some n ∧ CK X.env.scope n) (h : PS X st (tS G (fm X) W m)) : PS X st (tS G (fm X) W (mRegS js m)) := by
  refine ⟨fun pins s σ H D I ⟨ρ, S, ls, T, z⟩ => ?_⟩
  unfold mRegS at z
  cases q : regL js ls S with
  | none => rw [q] at z; exact z.elim
  | some p =>
    obtain ⟨l, S1⟩ := p
    rw [q] at z
    obtain ⟨ρ', T1, x, _⟩ := reg_ok I T hjs q
    exact h.run pins s σ H D I ⟨ρ', S1, l, T1, Out.sat_mono (fun _ _ z => z.ext x) (fun _ _ _ z => z.ext x) z⟩
/-- within a block -/
def mBlk (js : List Nat) (m : EM) : EM := fun ls S => match noC ls, regL js ls S with
  | true, some (l, S1) => xBad (m l S1)
  | _, _ => .bad
theorem me_blk {js : List Nat} {m : EM} {e : Expr} (hjs : ∀ j ∈ js, ∃ n, X.N[j]? = some n ∧ CK X.env.scope n) (h : PE X e (tE G (fm X) W0 m)) {F : Fm} : PE X e (tE G F W0 (mBlk js m)) := by
  refine ⟨fun pins s σ H Q I ⟨ρ, S, ls, T, z⟩ => ?_⟩
  unfold mBlk at z
  cases hn : noC ls with
  | false => simp only [hn] at z; exact z.elim
  | true =>
    cases q : regL js ls S with
    | none => simp only [hn, q] at z; exact z.elim
    | some p =>
      obtain ⟨l, S1⟩ := p
      simp only [hn, q] at z
      obtain ⟨ρ', T1, x, le⟩ := reg_ok I (T.any (F' := fm X) hn) hjs q
      refine h.run pins s σ H Q I ⟨ρ', S1, l, T1, Out.sat_mono (fun v S2 z ρ2 H2 y T2 => ?_) (fun _ _ _ z => z) (xBad_sat z)⟩
      exact z ρ2 H2 (x.trans y) ((T2.less le).any hn)
def mBlkT (m : TM) : TM := fun ls S => match noC ls with
  | true => xBad (m ls S)
  | false => .bad
theorem mt_blk {m : TM} {e : Expr} (h : PT X e (tT G (fm X) W0 m)) {F : Fm} : PT X e (tT G F W0 (mBlkT m)) := by
  refine ⟨fun pins s σ H Q I ⟨ρ, S, ls, T, z⟩ => ?_⟩
  unfold mBlkT at z
  cases hn : noC ls with
  | false => simp only [hn] at z; exact z.elim
  | true =>
    simp only [hn] at z
    exact h.run pins s σ H Q I ⟨ρ, S, ls, T.any hn, Out.sat_mono (fun v S2 z ρ2 H2 y T2 => z ρ2 H2 y (T2.any hn)) (fun _ _ _ z => z) (xBad_sat z)⟩
end
/-! ### a lambda's call -/
def liveV (S : Sto) : List Nat → Option (List AV)
  | [] => some []
  | k :: ks => match S.get k with
    | some (.cell (some v)) => match liveV S ks with
      | some vs => some (v :: vs)
      | none => none
    | _ => none
def offK (ks : List Nat) (S : Sto) : Sto := putC (ks.map fun k => (k, none)) S
def zipK : List Nat → List AV → List (Nat × Option AV)
  | k :: ks, v :: vs => (k, some v) :: zipK ks vs
  | _, _ => []
def allCell (S : Sto) : List Nat → Bool
  | [] => true
  | k :: ks => match S.get k with
    | some (.cell _) => allCell S ks
    | _ => false
def onK (ks : List Nat) (vs : List AV) (S : Sto) : Option Sto := match allCell S ks with
  | true => some (putC (zipK ks vs) S)
  | false => none
def lamRun (mb : EM) (ks : List Nat) : Fn := fun xs S => match liveV S ks with
  | some vs => back ks vs (mb ((xs ++ vs).map LV.v) (offK ks S))
  | none => .bad
where back (ks : List Nat) (vs : List AV) : Out AV → Out AV
  | .ok v S => match onK ks vs S with
    | some S2 => .ok v S2
    | none => .bad
  | .ex e L S => match onK ks vs S with
    | some S2 => .ex e L S2
    | none => .bad
  | .bad => .bad
  | .dr n k => .dr n fun i => back ks vs (k i)
theorem back_sat {ks : List Nat} {vs : List AV} {P : AV → Sto → Prop} {E : AE → Lo → Sto → Prop} : ∀ {m : Out AV}, (lamRun.back ks vs m).Sat P E → m.Sat (fun a S => ∃ S2, onK ks vs S = some S2 ∧ P a S2) (fun e L S => ∃ S2, onK ks vs S = some S2 ∧ E e L S2)
  | .ok a S, h => by
    unfold lamRun.back at h
    cases q : onK ks vs S with
    | none => rw [q] at h; exact h.elim
    | some S2 => rw [q] at h; exact ⟨S2, q, h⟩
  | .ex e _ S, h => by
    unfold lamRun.back at h
    cases q : onK ks vs S with
    | none => rw [q] at h; exact h.elim
    | some S2 => rw [q] at h; exact ⟨S2, q, h⟩
  | .bad, h => h
  | .dr n k, h => fun i h0 h1 => back_sat (h i h0 h1)
theorem liveV_at {S : Sto} : ∀ {ks : List Nat} {vs : List AV}, liveV S ks = some vs → vs.length = ks.length ∧ ∀ (i k : Nat), ks[i]? = some k → ∃ v, vs[i]? = some v ∧ S.get k = some (.cell (some v))
  | [], vs, h => by
    unfold liveV at h
    cases h
    exact ⟨rfl, fun i k e => by simp at e⟩
  | k :: ks, vs, h => by
    unfold liveV at h
    split at h
    · rename_i v g
      cases q : liveV S ks with
      | none => rw [q] at h; cases h
      | some r =>
        rw [q] at h
        cases h
        obtain ⟨h1, h2⟩ := liveV_at q
        refine ⟨by simp [h1], fun i k' e => ?_⟩
        cases i with
        | zero => simp at e; subst e; exact ⟨v, rfl, g⟩
        | succ i =>
          obtain ⟨v', e1, e2⟩ := h2 i k' (by simpa using e)
          exact ⟨v', by simpa using e1, e2⟩
    · cases h
theorem allCell_at {S : Sto} : ∀ {ks : List Nat} {k : Nat}, allCell S ks = true → k ∈ ks → ∃ v, S.get k = some (.cell v)
  | k' :: ks, k, h, m => by
    unfold allCell at h
    split at h
    · rename_i v g
      rcases List.mem_cons.mp m with e | m
      · subst e; exact ⟨v, g⟩
      · exact allCell_at h m
    · cases h
theorem look_off {j : Nat} : ∀ {ks : List Nat}, (j ∈ ks → (ks.map fun k => (k, (none : Option AV))).lookup j = some none) ∧ (j ∉ ks → (ks.map fun k => (k, (none : Option AV))).lookup j = none)
  | [] => ⟨fun h => by simp at h, fun _ => rfl⟩
  | k :: ks => by
    obtain ⟨h1, h2⟩ := look_off (j := j) (ks := ks)
    by_cases e : j = k
    · subst e
      exact ⟨fun _ => by simp, fun h => absurd List.mem_cons_self h⟩
    · have e2 : (j == k) = false := by simpa using e
      refine ⟨fun h => ?_, fun h => ?_⟩
      · rw [List.map_cons, List.lookup_cons, e2]
        exact h1 ((List.mem_cons.mp h).resolve_left e)
      · rw [List.map_cons, List.lookup_cons, e2]
        exact h2 fun z => h (List.mem_cons_of_mem _ z)
theorem look_on {j : Nat} : ∀ {ks : List Nat} {vs : List AV}, vs.length = ks.length → ks.Nodup → (∀ i : Nat, ks[i]? = some j → ∃ v, vs[i]? = some v ∧ (zipK ks vs).lookup j = some (some v)) ∧ (j ∉ ks → (zipK ks vs).lookup j = none)
  | [], [], _, _ => ⟨fun i e => by simp at e, fun _ => rfl⟩
  | k :: ks, v :: vs, hl, nd => by
    rw [List.nodup_cons] at nd
    obtain ⟨h1, h2⟩ := look_on (j := j) (ks := ks) (vs := vs) (by simpa using hl) nd.2
    unfold zipK
    by_cases e : j = k
    · subst e
      refine ⟨fun i q => ?_, fun h => absurd List.mem_cons_self h⟩
      cases i with
      | zero => exact ⟨v, rfl, by simp⟩
      | succ i => exact absurd (List.mem_of_getElem? (by simpa using q)) nd.1
    · have e2 : (j == k) = false := by simpa using e
      rw [List.lookup_cons, e2]
      refine ⟨fun i q => ?_, fun h => h2 fun z => h (List.mem_cons_of_mem _ z)⟩
      cases i with
      | zero => simp at q; exact absurd q.symm e
      | succ i =>
        obtain ⟨v', a, b⟩ := h1 i (by simpa using q)
        exact ⟨v', by simpa using a, b⟩
section
variable {G : Gd} {ρ : List Addr} {S : Sto} {H : Hp}
theorem cells_at (KA : AllKnown G ρ S H) : ∀ (ks : List Nat) (cl : List (Str × Addr)), cl.length = ks.length → (∀ (i k : Nat), ks[i]? = some k → ∃ x a, cl[i]? = some (x, a) ∧ ρ[k]? = some a) → (∀ k ∈ ks, ∃ v, S.get k = some (.cell (some v))) →
    ∃ (C : Cs) (ws : List V), (∀ b o, C.lookup b = some o → ∃ i k : Nat, ks[i]? = some k ∧ ρ[k]? = some b) ∧ ws.length = ks.length ∧ Held H C ∧
      ∀ (i k : Nat) (a : Addr), ks[i]? = some k → ρ[k]? = some a → ∃ o x u v, C.lookup a = some o ∧ ws[i]? = some x ∧ o.data = .cell (some u) ∧ RelV x u ∧ S.get k = some (.cell (some v)) ∧ RV G ρ H v x
  | [], cl, hl, _, _ => ⟨[], [], (fun b o h => (by cases h)), rfl, (fun b o h => (by cases h)), fun i k a h => (by simp at h)⟩
  | k :: ks, cl, hl, hc, hv => by
    cases cl with
    | nil => simp at hl
    | cons p cl =>
      obtain ⟨x, a, e1, e2⟩ := hc 0 k rfl
      simp at e1
      subst e1
      obtain ⟨v, hg⟩ := hv k List.mem_cons_self
      obtain ⟨o, y, u, h1, h2, h3, h4⟩ := KA k a v e2 hg
      obtain ⟨C, ws, c1, c2, c3, c4⟩ := cells_at KA ks cl (by simpa using hl) (fun i k' h => hc (i + 1) k' h) fun k' h => hv k' (List.mem_cons_of_mem _ h)
      have top : List.lookup a ((a, o) :: C) = some o := by simp [List.lookup_cons]
      refine ⟨(a, o) :: C, y :: ws, fun b o' h => ?_, by simp [c2], fun b o' h => ?_, fun i k' a' hi ha => ?_⟩
      · rw [List.lookup_cons] at h
        split at h
        · rename_i q
          have q := eq_of_beq q
          subst q
          exact ⟨0, k, rfl, e2⟩
        · obtain ⟨i, k', q1, q2⟩ := c1 b o' h
          exact ⟨i + 1, k', by simpa using q1, q2⟩
      · rw [List.lookup_cons] at h
        split at h
        · rename_i q
          cases h
          rw [eq_of_beq q]
          exact h1
        · exact c3 b o' h
      · cases i with
        | zero =>
          simp at hi
          subst hi
          rw [e2] at ha
          cases ha
          exact ⟨o, y, u, v, top, rfl, h2, h3, hg, h4⟩
        | succ i =>
          obtain ⟨o', x', u', v', d1, d2⟩ := c4 i k' a' (by simpa using hi) ha
          refine ⟨o', x', u', v', ?_, by simpa using d2⟩
          by_cases e : a' = a
          · subst e
            have z := c3 a' o' d1
            rw [h1] at z
            injection z with z
            injection z with z
            rw [top, z]
          · rw [List.lookup_cons]
            have : (a' == a) = false := by simpa using e
            rw [this]
            exact d1
theorem lookup_at {cl : List (Str × Addr)} {y : Str} {a : Addr} (h : cl.lookup y = some a) : ∃ i : Nat, cl[i]? = some (y, a) := List.mem_iff_getElem?.mp (PySem.mem_of_lookup h)
/-- the captured cells let go: the body's start -/
theorem off_ok (R : Rel G ρ S H) {ks : List Nat} (hk : ∀ k ∈ ks, (∃ a, ρ[k]? = some a) ∧ ∃ v, S.get k = some (.cell v)) : Rel G ρ (offK ks S) H ∧ ∀ j a v, ρ[j]? = some a → (offK ks S).get j = some (.cell (some v)) → j ∉ ks ∧ S.get j = some (.cell (some v)) := by
  have lt : ∀ p ∈ ks.map fun k => (k, (none : Option AV)), p.1 < 2 ^ depth := fun p hp => by
    obtain ⟨k, m, e⟩ := List.mem_map.mp hp
    obtain ⟨⟨a, ha⟩, _⟩ := hk k m
    rw [← e]
    exact R.ilt ha
  have gp : ∀ {j : Nat} {b : Addr}, ρ[j]? = some b → (j ∈ ks ∧ (offK ks S).get j = some (.cell none)) ∨ (j ∉ ks ∧ (offK ks S).get j = S.get j) := fun {j b} h => by
    unfold offK
    rw [get_putC (R.ilt h) lt]
    obtain ⟨l1, l2⟩ := look_off (j := j) (ks := ks)
    by_cases m : j ∈ ks
    · rw [l1 m]; exact .inl ⟨m, rfl⟩
    · rw [l2 m]; exact .inr ⟨m, rfl⟩
  have live : ∀ j a v, ρ[j]? = some a → (offK ks S).get j = some (.cell (some v)) → j ∉ ks ∧ S.get j = some (.cell (some v)) := fun j a v h g => by
    rcases gp h with ⟨m, e⟩ | ⟨m, e⟩
    · rw [g] at e; cases e
    · exact ⟨m, by rw [← e]; exact g⟩
  refine ⟨Rel.recell R (putC_n _ _) (fun j a h => ?_) (fun i j a v w hi hj gi gj => ?_), live⟩
  · rcases gp h with ⟨m, e⟩ | ⟨_, e⟩
    · exact .inr ⟨(hk j m).2, _, e⟩
    · exact .inl e
  · exact R.nd i j a _ _ hi hj (live i a v hi gi).2 (live j a w hj gj).2 rfl (fun z => by cases z) fun z => by cases z
/-- told of again behind the body -/
theorem on_ok {ρ' : List Addr} {S' S2 : Sto} {H' : Hp} {C : Cs} {ks : List Nat} {vs : List AV} (held : Held H C) (x : Ext ρ (uz H C) ρ' H') (fr : Free H' C) (R : Rel G ρ' S' H') (K : AllKnown G ρ' S' H') (q : onK ks vs S' = some S2) (nd : ks.Nodup) (hl : vs.length = ks.length)
    (hk : ∀ i k : Nat, ks[i]? = some k → ∃ a o x u v, ρ[k]? = some a ∧ C.lookup a = some o ∧ o.data = .cell (some u) ∧ RelV x u ∧ vs[i]? = some v ∧ RV G ρ H v x)
    (ap : ∀ k k' a, k ∈ ks → k' ∈ ks → ρ[k]? = some a → ρ[k']? = some a → k = k') : Rel G ρ' S2 (fz H' C) ∧ AllKnown G ρ' S2 (fz H' C) := by
  have xb := ext_back held x
  have xz : Ext ρ' H' ρ' (fz H' C) := ext_fz fr
  unfold onK at q
  split at q
  · rename_i ac
    cases q
    have lt : ∀ p ∈ zipK ks vs, p.1 < 2 ^ depth := by
      have mem : ∀ {ks : List Nat} {vs : List AV} {p : Nat × Option AV}, p ∈ zipK ks vs → p.1 ∈ ks := by
        intro ks
        induction ks with
        | nil => intro vs p h; simp [zipK] at h
        | cons k ks ih =>
          intro vs p h
          cases vs with
          | nil => simp [zipK] at h
          | cons v vs =>
            unfold zipK at h
            rcases
                  List.mem_cons.mp h with e | h
            · rw [e]; exact List.mem_cons_self
            · exact List.mem_cons_of_mem _ (ih h)
      intro p hp
      obtain ⟨i, hi⟩ := List.mem_iff_getElem?.mp (mem hp)
      obtain ⟨a, _, _, _, _, ha, _⟩ := hk i _ hi
      exact R.ilt (x.at ha)
    have gp : ∀ {j : Nat} {b : Addr}, ρ'[j]? = some b → (∃ i v, ks[i]? = some j ∧ vs[i]? = some v ∧ (putC (zipK ks vs) S').get j = some (.cell (some v))) ∨ (j ∉ ks ∧ (putC (zipK ks vs) S').get j = S'.get j) := fun {j b} h => by
      rw [get_putC (R.ilt h) lt]
      obtain ⟨l1, l2⟩ := look_on (j := j) hl nd
      by_cases m : j ∈ ks
      · obtain ⟨i, hi⟩ := List.mem_iff_getElem?.mp m
        obtain ⟨v, e1, e2⟩ := l1 i hi
        rw [e2]
        exact .inl ⟨i, v, hi, e1, rfl⟩
      · rw [l2 m]; exact .inr ⟨m, rfl⟩
    have own : ∀ {j : Nat} {b : Addr} {i : Nat}, ρ'[j]? = some b → ks[i]? = some j → ρ[j]? = some b ∧ ∃ o, C.lookup b = some o := fun {j b i} h hi => by
      obtain ⟨a, o, _, _, _, ha, l, _⟩ := hk i j hi
      have := x.at ha
      rw [h] at this
      cases this
      exact ⟨ha, o, l⟩
    have oth : ∀ {j : Nat} {b : Addr} {v : AV}, ρ'[j]? = some b → S'.get j = some (.cell (some v)) → C.lookup b = none := fun {j b v} h g => by
      obtain ⟨o, _, _, h1, _⟩ := K j b v h g
      exact fr.ne h1
    refine ⟨Rel.recell (R.fz fr) (putC_n _ _) (fun j b h => ?_) (fun i j b v w hi hj gi gj => ?_), fun j b v h g => ?_⟩
    · rcases gp h with ⟨i, v, hi, _, e⟩ | ⟨_, e⟩
      · exact .inr ⟨allCell_at ac (List.mem_of_getElem? hi), _, e⟩
      · exact .inl e
    · rcases gp hi with ⟨i1, v1, e1, _, _⟩ | ⟨_, e1⟩
      · rcases gp hj with ⟨i2, v2, e2, _, _⟩ | ⟨_, e2⟩
        · exact ap i j b (List.mem_of_getElem? e1) (List.mem_of_getElem? e2) (own hi e1).1 (own hj e2).1
        · obtain ⟨o, l⟩ := (own hi e1).2
          rw [e2] at gj
          rw [oth hj gj] at l
          cases l
      · rw [e1] at gi
        rcases gp hj with ⟨i2, v2, e2, _, _⟩ | ⟨_, e2⟩
        · obtain ⟨o, l⟩ := (own hj e2).2
          rw [oth hi gi] at l
          cases l
        · rw [e2] at gj
          exact R.nd i j b _ _ hi hj gi gj rfl (fun z => by cases z) fun z => by cases z
    · rcases gp h with ⟨i, v', hi, ev, e⟩ | ⟨_, e⟩
      · rw [g] at e
        cases e
        obtain ⟨a, o, y, u, v2, ha, l, hd, rl, ev2, rv⟩ := hk i j hi
        rw [ev] at ev2
        cases ev2
        have := x.at ha
        rw [h] at this
        cases this
        exact ⟨o, y, u, fz_at l, hd, rl, rv.mono xb v⟩
      · rw [e] at g
        exact (K j b v h g).mono xz
  · cases q
/-- what a lambda's call promises -/
def LamSp (P : Program) (w : World) (K : PySem.W.Frag) (mg : Str → Option Value) (base : Heap) (G : Gd) (k c n : Nat) (fn : List Nat → Fn) : Prop :=
  ∀ {A : Around} {outer : List Env} {s : Shared} {H : Hp} {Q : VK} {E : XK} {ρ : List Addr} {S : Sto} {xs : List AV} {vs : List V} {us : List Value} {ks : List Nat} {f : Addr}, Room k A → Env0 P w K mg base A outer s H → RClo G ρ H c ks (.ref f) → Rel G ρ S H → AllKnown G ρ S H → xs.length = n → RVs G ρ H xs vs → Vals vs us →
    (fn ks xs S).Sat (PostF G ρ H Q) (PostFX G ρ H E) → codeAny (model P w) A (.call (.ref f) ⟨us, []⟩) (CR (L2.CX P w) outer P w H s Q E) s
theorem lam_sp {P : Program} {w : World} {K : PySem.W.Frag} {mg : Str → Option Value} {base : Heap} {c k : Nat} {ps : List Str} {mb : EM}
    (Sc : NdefX.NScope (ps ++ (G.lam c).fr) ps (G.lam c).fr (G.lam c).scope)
    (hb : ∀ (cl : List (Str × Addr)) (pm cv ctv : Value) (us : List Value), us.length = ps.length → bindArgs (PySem.W.kla_fn "<lambda>" (G.lam c).q (G.lam c).params (G.lam c).body (G.lam c).scope cl pm cv ctv) ⟨us, []⟩ = pure (ps.zip us))
    (hbody : ∀ (A : Around) (outer : List Env) (f : Addr) (cl : List (Str × Addr)) (c' : Addr) (s : Shared) (H : Hp) (E : XK), (∀ y b, cl.lookup y = some b → base.get? b = none ∧ b ∉ frs outer) → Room k (A.deeper (NdefX.envF (lamF (G.lam c) cl c') f s.heap.objs.size)) →
      PE (NdefX.ncx (L2.CX P w) P w K mg base (ps ++ (G.lam c).fr) (lamF (G.lam c) cl c') f A outer s H E) (G.lam c).body
        (tE G (fm (NdefX.ncx (L2.CX P w) P w K mg base (ps ++ (G.lam c).fr) (lamF (G.lam c) cl c') f A outer s H E)) (WF E) mb)) : LamSp P w K mg base G (k + 1) c ps.length (lamRun mb) := by
  intro A outer s H Q E ρ S xs vs us ks f hr e0 hv R KA hl r ru h
  unfold lamRun at h
  cases hlv : liveV S ks with
  | none => rw [hlv] at h; exact h.elim
  | some avs =>
  rw [hlv] at h
  obtain ⟨lv1, lv2⟩ := liveV_at hlv
  have hlive : ∀ k ∈ ks, ∃ v, S.get k = some (.cell (some v)) := fun k m => by
    obtain ⟨i, hi⟩ := List.mem_iff_getElem?.mp m
    obtain ⟨v, _, g⟩ := lv2 i k hi
    exact ⟨v, g⟩
  obtain ⟨f', c', cl, e, h1, h2, h3, ⟨h4, h5⟩, h6⟩ := hv
  cases e
  obtain ⟨C, ws, c1, c2, c3, c4⟩ := cells_at KA ks cl h3 h6 hlive
  have hvl := RVs_len r
  have at_ : ∀ {i : Nat} {y : Str} {a : Addr}, cl[i]? = some (y, a) → ∃ k, ks[i]? = some k ∧ ρ[k]? = some a := fun {i y a} e => by
    have hi : i < ks.length := by rw [← h3]; exact (List.getElem?_eq_some_iff.mp e).1
    obtain ⟨x, a', e1, e2⟩ := h6 i ks[i] (List.getElem?_eq_getElem hi)
    rw [e] at e1
    cases e1
    exact ⟨ks[i], List.getElem?_eq_getElem hi, e2⟩
  have ndf : (G.lam c).fr.Nodup := (List.nodup_append.mp Sc.nd).2.1
  have fr_at : ∀ {i : Nat} {y : Str} {a : Addr}, cl[i]? = some (y, a) → (G.lam c).fr[i]? = some y := fun {i y a} e => by
    rw [← h4, List.getElem?_map, e]
    rfl
  have ap : ∀ k k' a, k ∈ ks → k' ∈ ks → ρ[k]? = some a → ρ[k']? = some a → k = k' := fun k k' a m m' r1 r2 => by
    obtain ⟨v, g⟩ := hlive k m
    obtain ⟨v', g'⟩ := hlive k' m'
    exact R.nd k k' a _ _ r1 r2 g g' rfl (fun z => by cases z) fun z => by cases z
  have same : ∀ {i j k k' : Nat} {a : Addr}, ks[i]? = some k → ks[j]? = some k' → ρ[k]? = some a → ρ[k']? = some a → i = j := fun {i j k k' a} e1 e2 r1 r2 => by
    have := ap k k' a (List.mem_of_getElem? e1) (List.mem_of_getElem? e2) r1 r2
    subst this
    exact (List.getElem?_inj (List.getElem?_eq_some_iff.mp e1).1 h5).mp (e1.trans e2.symm)
  have look : ∀ {i : Nat} {y : Str} {a : Addr}, cl[i]? = some (y, a) → cl.lookup y = some a := fun {i y a} e => by
    obtain ⟨a', q⟩ := mem_lookup (List.mem_of_getElem? e)
    obtain ⟨j, ej⟩ := lookup_at q
    have := (List.getElem?_inj (List.getElem?_eq_some_iff.mp (fr_at e)).1 ndf).mp ((fr_at e).trans (fr_at ej).symm)
    subst this
    rw [e] at ej
    cases ej
    exact q
  have cells : ∀ i k : Nat, ks[i]? = some k → ∃ a o x u v, ρ[k]? = some a ∧ C.lookup a = some o ∧ o.data = .cell (some u) ∧ RelV x u ∧ avs[i]? = some v ∧ RV G ρ H v x := fun i k hi => by
    obtain ⟨y, a, e1, e2⟩ := h6 i k hi
    obtain ⟨o, x, u, v, d1, d2, d3, d4, d5, d6⟩ := c4 i k a hi e2
    obtain ⟨v', e3, e4⟩ := lv2 i k hi
    rw [d5] at e4
    cases e4
    exact ⟨a, o, x, u, v, e2, d1, d3, d4, e3, d6⟩
  have hs := back_sat h
  have outC : ∀ y b, cl.lookup y = some b → base.get? b = none ∧ b ∉ frs outer := fun y b e => by
    obtain ⟨i, ei⟩ := lookup_at e
    obtain ⟨k', e1, e2⟩ := at_ ei
    obtain ⟨v, g⟩ := hlive k' (List.mem_of_getElem? e1)
    obtain ⟨o, _, _, z, _⟩ := KA k' b v e2 g
    refine ⟨?_, fun m => by rw [e0.frf b m] at z; cases z⟩
    cases q : base.get? b with
    | none => rfl
    | some o' => rw [(e0.bs b o' q).2] at z; cases z
  have xT := extT_uz (ρ := ρ) c3
  obtain ⟨R1, l1⟩ := off_ok (R.uz c3) (ks := ks) fun k m => by
    obtain ⟨i, hi⟩ := List.mem_iff_getElem?.mp m
    obtain ⟨a, _, _, _, _, ha, _⟩ := cells i k hi
    obtain ⟨v, g⟩ := hlive k m
    exact ⟨⟨a, ha⟩, _, g⟩
  have K1 : AllKnown G ρ (offK ks S) (uz H C) := fun j a v hj g => by
    obtain ⟨m, g⟩ := l1 j a v hj g
    obtain ⟨o, y, u, k1, k2, k3, k4⟩ := KA j a v hj g
    refine ⟨o, y, u, ?_, k2, k3, RV.monoT xT v k4⟩
    rw [uz_ne]
    · exact k1
    · cases z : C.lookup a with
      | none => rfl
      | some o' =>
        obtain ⟨i, k', q1, q2⟩ := c1 a o' z
        obtain ⟨v', g'⟩ := hlive k' (List.mem_of_getElem? q1)
        have := R.nd j k' a _ _ hj q2 g g' rfl (fun z => by cases z) fun z => by cases z
        subst this
        exact absurd (List.mem_of_getElem? q1) m
  refine clo_run (C := C) (ws := ws.map some) (vs := vs) (N := ps ++ (G.lam c).fr) Sc hb hr e0 h1 h2 (by rw [hvl, hl]) ru c3 (fun y a e => ?_) (fun x y a ex ey => ?_) (by rw [List.length_map, c2, ← h3, ← h4, List.length_map]) (fun i y e => ?_) (fun hr' => hbody A outer f cl c' s _ _ outC hr') ?_
  · obtain ⟨i, ei⟩ := lookup_at e
    obtain ⟨k', e1, e2⟩ := at_ ei
    obtain ⟨o, x, u, v, d1, _, d3, _⟩ := c4 i k' a e1 e2
    exact ⟨o, some u, d1, d3⟩
  · obtain ⟨i, ei⟩ := lookup_at ex
    obtain ⟨j, ej⟩ := lookup_at ey
    obtain ⟨k1, e1, r1⟩ := at_ ei
    obtain ⟨k2, e2, r2⟩ := at_ ej
    have := same e1 e2 r1 r2
    subst this
    rw [ei] at ej
    cases ej
    rfl
  · rw [← h4, List.getElem?_map] at e
    cases q : cl[i]? with
    | none =>
          rw [q] at e; cases e
    | some p =>
      obtain ⟨y', a⟩ := p
      rw [q] at e
      cases e
      obtain ⟨k', e1, e2⟩ := at_ q
      obtain ⟨o, x, u, v, d1, d2, d3, d4, _⟩ := c4 i k' a e1 e2
      exact ⟨a, o, x, u, look q, d1, by rw [List.getElem?_map, d2]; rfl, d4, d3⟩
  · have lenz : ((ps ++ (G.lam c).fr).length - vs.length - (ws.map some).length) = 0 := by
      have : (G.lam c).fr.length = ks.length := by rw [← h4, List.length_map, h3]
      simp; omega
    have st : NdefX.startF (ps ++ (G.lam c).fr) vs (ws.map some) = (vs ++ ws).map some := by
      unfold NdefX.startF
      rw [lenz]
      simp
    have rws : RVs G ρ (uz H C) (xs ++ avs) (vs ++ ws) := by
      refine RVs_app (RVs.monoT xT xs r) ?_
      have gen : ∀ {as : List AV} {bs : List V}, as.length = bs.length → (∀ (i : Nat) (a : AV) (b : V), as[i]? = some a → bs[i]? = some b → RV G ρ (uz H C) a b) → RVs G ρ (uz H C) as bs := by
        intro as
        induction as with
        | nil => intro bs hl _; cases bs with
          | nil => unfold RVs; rfl
          | cons b bs => simp at hl
        | cons a as ih => intro bs hl hh; cases bs with
          | nil => simp at hl
          | cons b bs =>
            unfold RVs
            exact ⟨b, bs, rfl, hh 0 a b rfl rfl, ih (by simpa using hl) fun i a' b' e1 e2 => hh (i + 1) a' b' (by simpa using e1) (by simpa using e2)⟩
      refine gen (by rw [lv1, c2]) fun i a b e1 e2 => ?_
      have hi : i < ks.length := by rw [← lv1]; exact (List.getElem?_eq_some_iff.mp e1).1
      obtain ⟨y, ad, _, q2⟩ := h6 i ks[i] (List.getElem?_eq_getElem hi)
      obtain ⟨o, x, u, v, d1, d2, d3, d4, d5, d6⟩ := c4 i ks[i] ad (List.getElem?_eq_getElem hi) q2
      obtain ⟨v', g1, g2⟩ := lv2 i ks[i] (List.getElem?_eq_getElem hi)
      rw [d5] at g2
      cases g2
      rw [e1] at g1
      cases g1
      rw [e2] at d2
      cases d2
      exact RV.monoT xT a d6
    have T0 : ∀ {F : Fm}, Stt G F ρ (offK ks S) ((xs ++ avs).map LV.v) ((vs ++ ws).map some) (uz H C) := fun {F} => by
      have hlr := RVs_len rws
      refine ⟨R1, by simp only [List.length_map]; exact hlr, fun i => ?_, K1, fun i j k a b e _ => ?_⟩
      · rw [nth_eq, List.getElem?_map]
        cases q : (xs ++ avs)[i]? with
        | none => trivial
        | some a =>
          obtain ⟨v, hv, rv⟩ := RVs_get rws q
          exact ⟨v, by rw [List.getElem?_map, hv]; rfl, rv⟩
      · rw [nth_eq, List.getElem?_map] at e
        cases q : (xs ++ avs)[i]? with
        | none =>
              rw [q] at e; cases e
        | some a => rw [q] at e; cases e
    rw [st]
    refine ⟨ρ, offK ks S, _, T0, Out.sat_mono (fun v S' ⟨S2, q, z⟩ ρ' H' x T' y ry fr => ?_) (fun ex L S' ⟨S2, q, z⟩ ρ' H' σ' x T' cls d re fr => ?_) hs⟩
    · obtain ⟨R2, K2⟩ := on_ok c3 x fr T'.rel T'.known q h5 lv1 cells ap
      exact z ρ' _ (ext_back c3 x) R2 K2 y (ry.mono (ext_fz fr) v)
    · obtain ⟨R2, K2⟩ := on_ok c3 x fr T'.rel T'.known q h5 lv1 cells ap
      refine z ρ' _ (ext_back c3 x) R2 K2 cls d ⟨re.1, ?_⟩
      have r2 := re.2
      cases q : ex.fs with
      | nil => rw [q] at r2; exact r2
      | cons p ps =>
        rw [q] at r2
        obtain ⟨b, gs, e1, e2, e3⟩ := r2
        exact ⟨b, gs, e1, by rw [fz_ne (fr.ne e2)]; exact e2, e3.mono (ext_fz fr)⟩
end
end Sh

end

noncomputable section
namespace Sh
open PySem PySem.Spec PyProof.Rows L2 LamX
/-! ### what is called by value: defs, lambdas -/
abbrev DT := Nat → Option (Nat × Fn)
abbrev LT := Nat → Option (Nat × (List Nat → Fn))
def applyV (D : DT) (L : LT) (a : AV) (m : AM) : EM := fun ls S => match a with
  | .fn j => match D j with
    | some (n, f) => mCallF n f m ls S
    | none => .bad
  | .clo c ks => match L c with
    | some (n, f) => mCallF n (f ks) m ls S
    | none => .bad
  | _ => .bad
def mCallV (D : DT) (L : LT) (i : Nat) (m : AM) : EM := fun ls S => match nth ls i with
  | .v a => applyV D L a m ls S
  | .c _ a => applyV D L a m ls S
  | .u => .bad
section
variable {X : Cx} {G : Gd} {W : WX} {F : Fm} {es : List Expr} {pos : Pos}
def DOk (X : Cx) (G : Gd) (k : Nat) (D : DT) : Prop := ∀ j n f, D j = some (n, f) → ∃ fd ps, FnOk X.prog X.w X.K X.mg X.base (L2.CX X.prog X.w) k (G.fa j) fd ps (SPf G n f) ∧ PySem.W.keepIn X.K (.ref (G.fa j)) = true ∧ Binds X.K fd ps []
def LOk (X : Cx) (G : Gd) (k : Nat) (L : LT) : Prop := ∀ c n f, L c = some (n, f) → LamSp X.prog X.w X.K X.mg X.base G k c n f
theorem fnAt_clo {pins : List (Addr × Obj)} {σ : L2.St} {H : Hp} {s : Shared} {ρ : List Addr} {c : Nat} {ks : List Nat} {f : Addr} (I : Inv X pins σ H s) (h : RClo G ρ H c ks (.ref f)) : PySem.W.FnAt f s.heap := by
  obtain ⟨f', c', cl, e, h1, _⟩ := h
  cases e
  obtain ⟨⟨pm, ctv, ho⟩, _, _⟩ := I.hok f _ h1
  exact ⟨_, _, _, _, ho⟩
theorem run_argsF {pins : List (Addr × Obj)} {σ : L2.St} {H : Hp} {s : Shared} {f : Addr} {c : Nat} {ks : List Nat} {Q : Value → Shared → Prop} {m : AM} {ρ : List Addr} {S : Sto} {ls : Lo} {α : Type} {P : α → Sto → Prop} {g : List AV → Sto → Out α} (I : Inv X pins σ H s) (hk : RClo G ρ H c ks (.ref f)) (ha : PA X es (tA G F W m)) (hst : noStars es = true)
    (T : Stt G F ρ S ls σ H) (h : ((m ls S).bind g).Sat P (PostX G F W ρ H)) (h0 : es = [] → m = mNil)
    (go : ∀ us s1 vs H1 ρ1 S1 xs, Inv X pins σ H1 s1 → Vals vs us → Stt G F ρ1 S1 ls σ H1 → Ext ρ H ρ1 H1 → RVs G ρ1 H1 xs vs → (g xs S1).Sat P (PostX G F W ρ H) → wpAny (model X.prog X.w) X.A (call (.ref f) us) Q X.xe s1) :
    wpAny (model X.prog X.w) X.A (callWith pos (.ref f) [] (backTo pos (starEach es X.env)) []) Q X.xe s := by
  cases es with
  | nil =>
    rw [h0 rfl] at h
    exact PySem.W.callWith_F0 (fnAt_clo I hk) (go [] s [] H ρ S [] I .nil T (Ext.refl _ _) (by unfold RVs; rfl) h)
  | cons e r =>
    unfold noStars at hst
    rw [Bool.and_eq_true] at hst
    have ht : tA G F W m σ H (fun vs H1 => ∃ ρ1 S1 xs, Stt G F ρ1 S1 ls σ H1 ∧ Ext ρ H ρ1 H1 ∧ RVs G ρ1 H1 xs vs ∧ (g xs S1).Sat P (PostX G F W ρ H)) :=
      ⟨ρ, S, ls, T, Out.sat_mono (fun xs S1 z ρ1 H1 x1 T1 vs r1 => ⟨ρ1, S1, xs, T1, x1, r1, z⟩) (fun _ _ _ z => z) (Out.sat_bind.mp h)⟩
    refine PySem.W.callWith_F (fnAt_clo I hk) (thn (ha.run pos pins s σ H _ I ht) fun us s1 ⟨vs, H1, I1, rr, ρ1, S1, xs, T1, x1, rv, z⟩ => ⟨fnAt_clo I1 (hk.mono x1), ?_⟩) (star_cons hst.1) (star_plain hst.2)
    exact go us s1 vs H1 ρ1 S1 xs I1 rr T1 x1 rv z
theorem run_applyV {pins : List (Addr × Obj)} {σ : L2.St} {H : Hp} {s : Shared} {Q : VK} {ρ : List Addr} {S : Sto} {ls : Lo} {k : Nat} {D : DT} {L : LT} {m : AM} {a : AV} {v : V} {u : Value} (hN : X.N.Nodup) (hcb : CBx X) (tk : Takes X W) (hD : DOk X G k D) (hL : LOk X G k L) (hr : Room k X.A)
    (ha : PA X es (tA G (fm X) W m)) (h0 : es = [] → m = mNil) (hst : noStars es = true) (I : Inv X pins σ H s) (T : Stt G (fm X) ρ S ls σ H) (rv : RV G ρ H a v) (ru : RelV v u) (h : (applyV D L a m ls S).Sat (PostV G (fm X) ρ ls σ H Q) (PostX G (fm X) W ρ H)) :
    wpAny (model X.prog X.w) X.A (callWith pos u [] (backTo pos (starEach es X.env)) []) (EP X pins σ Q) X.xe s := by
  unfold applyV at h
  cases a with
  | fn j =>
    cases q : D j with
    | none => simp only [q] at h; exact h.elim
    | some p =>
      obtain ⟨n, f⟩ := p
      simp only [q] at h
      obtain ⟨fd, ps, Fk, hk, hb⟩ := hD j n f q
      unfold RV at rv
      subst rv
      obtain rfl : u = Value.ref (G.fa j) := ru
      exact run_args I hk ha hst T h h0 fun us s1 vs H1 ρ1 S1 xs I1 r T1 x1 rv z => run_fnZ hN hcb tk Fk hr hb I1 T1 r rv (Out.sat_mono (fun _ _ z => z.ext x1) (fun _ _ _ z => z.ext x1) z)
  | clo c ks =>
    cases q : L c with
    | none => simp only [q] at h; exact h.elim
    | some p =>
      obtain ⟨n, f⟩ := p
      simp only [q] at h
      unfold RV at rv
      obtain ⟨fa, c', cl, e, rest⟩ := id rv
      subst e
      obtain rfl : u = Value.ref fa := ru
      refine run_argsF I rv ha hst T h h0 fun us s1 vs H1 ρ1 S1 xs I1 r T1 x1 rvs z => ?_
      unfold callF at z
      cases q2 : Nat.beq xs.length n with
      | false => rw [q2] at z; exact z.elim
      | true =>
        rw [q2] at z
        refine wpAny_call (codeAny_mono (run_callZ hN hcb tk I1 T1 (Out.sat_mono (fun _ _ z => z.ext x1) (fun _ _ _ z => z.ext x1) z) fun C Q' E' e0 x R K z => ?_) fun r s' hq => by
          cases r with
          | error e => exact hq
          | ok fl => cases fl <;> exact hq)
        exact hL c n f q hr e0 ((rv.mono x1).mono x) R K (Nat.eq_of_beq_eq_true q2) (rvs.mono x xs) r z
  | _ => exact h.elim
theorem me_callV (i : Nat) {x : Str} {k : Nat} {D : DT} {L : LT} {m : AM} {isS : Pos} (hN : X.N.Nodup) (hcb : CBx X) (tk : Takes X W) (hD : DOk X G k D) (hL : LOk X G k L) (hr : Room k X.A)
    (ha : PA X es (tA G (fm X) W m)) (h0 : es = [] → m = mNil) (hst : noStars es = true) (hNi : X.N[i]? = some x) (hv : Vis X.env.scope x) (hdb : (x == ("__debug__" : Str)) = false) (hcd : (x == ("__classdict__" : Str)) = false) :
    PE X (.Call (.Name x isS) es [] pos) (tE G (fm X) W (mCallV D L i m)) := by
  refine ⟨fun pins s σ H Q I ⟨ρ, S, ls, T, h⟩ => ?_⟩
  have l := T.loc i
  have main : ∀ {a : AV}, (∃ y, σ[i]? = some (some y) ∧ RV G ρ H a y) → (applyV D L a m ls S).Sat (PostV G (fm X) ρ ls σ H Q) (PostX G (fm X) W ρ H) → wpAny (model X.prog X.w) X.A (eval (.Call (.Name x isS) es [] pos) X.env) (EP X pins σ Q) X.xe s := fun {a} ⟨y, hs, ry⟩ h => by
    refine wpAny_Call_Name_kw (thn ((pe_var (pos := isS) hNi hv hdb hcd).run pins s σ H (fun v H1 => v = y ∧ H1 = H) I ⟨_, hs, rfl, rfl⟩) fun u s1 ⟨v, H1, I1, r1, got⟩ => ?_)
    obtain ⟨rfl, rfl⟩ := got
    exact run_applyV hN hcb tk hD hL hr ha h0 hst I1 T ry r1 h
  unfold mCallV at h
  cases q : nth ls i with
  | u => rw [q] at h; exact h.elim
  | v a =>
    rw [q] at h l
    exact main l h
  | c k a =>
    rw [q] at h l
    exact main l.1 h
end
section
variable {G : Gd}
theorem cbx_of {CX : CXT} {P : Program} {w : World} {K : PySem.W.Frag} {mg : Str → Option Value} {base : Heap} {N : List Str} {qual : Str} {scope : Scope} {f : Addr} {cd : Value} {A : Around} {outer : List Env} {s : Shared} {H : Hp} {E : XK} : CBx (cxOf CX P w K mg base N qual scope f cd A outer s H E) := fun pn xe calm A' pins σ H' s' I y c e => by
  have h := I.ok.cab y c rfl e
  refine ⟨Heap.get?_none_of_le (Nat.le_trans I.ok.bsz h), fun z => ?_⟩
  rcases List.mem_cons.mp (I.stkSub c z) with e' | e'
  · exact I.cne y c e e'
  · obtain ⟨_, o, ho, _⟩ := I.ok.funs.mem e'
    exact absurd (Nat.lt_of_lt_of_le (Heap.lt_size ho) h) (Nat.lt_irrefl _)
theorem cbx_lam {CX : CXT} {P : Program} {w : World} {K : PySem.W.Frag} {mg : Str → Option Value} {base : Heap} {N : List Str} {D : LamD} {cl : List (Str × Addr)} {c' f : Addr} {A : Around} {outer : List Env} {s : Shared} {H : Hp} {E : XK} (h : ∀ y b, cl.lookup y = some b → base.get? b = none ∧ b ∉ frs outer) :
    CBx (NdefX.ncx CX P w K mg base N (lamF D cl c') f A outer s H E) := fun pn xe calm A' pins σ H' s' I y c e => by
  obtain ⟨h1, h2⟩ := h y c e
  refine ⟨h1, fun z => ?_⟩
  rcases List.mem_cons.mp (I.stkSub c z) with e' | e'
  · exact I.cne y c e e'
  · exact h2 e'
theorem cbx_blk {X : Cx} {s : Shared} {H : Hp} {scope : Scope} {L : Addr} {cl : List (Str × Addr)} {fp : List Addr} (h : CellsOut X cl) : CBx (X.blk s H scope (compEnvC scope cl L X.env) fp) := fun pn xe calm A' pins σ H' s' I y c e => h y c e
end
/-! ### a def whose told cells outlive it -/
abbrev ZM := Lo → Sto → Out (AV × Lo)
structure PBz (X : Cx) (G : Gd) (W : WX) (body : List Stmt) (m : ZM) : Prop where
  run : ∀ (pins : List (Addr × Obj)) (s : Shared) (σ : L2.St) (H : Hp) (ρ : List Addr) (S : Sto) (ls : Lo) (P : AV × Lo → Sto → Prop), Inv X pins σ H s → Stt G (fm X) ρ S ls σ H → (m ls S).Sat P (PostX G (fm X) W ρ H) →
    wpAny (model X.prog X.w) X.A (execs body X.env) (fun f s' => ∃ u v σ' H' ρ' S' L a, f = .ret u ∧ Inv X pins σ' H' s' ∧ RelV v u ∧ Ext ρ H ρ' H' ∧ Stt G (fm X) ρ' S' L σ' H' ∧ RV G ρ' H' a v ∧ P (a, L) S') X.xe s
section
variable {X : Cx} {G : Gd} {W : WX}
def zRet (m : EM) : ZM := fun ls S => (m ls S).bind fun v S1 => .ok (v, ls) S1
theorem mz_ret {m : EM} {e : Expr} {pos : Pos} (h : PE X e (tE G (fm X) W m)) : PBz X G W [.Return (some e) pos] (zRet m) := ⟨fun pins s σ H ρ S ls P I T z => by
  refine wpAny_execs_cons (wpAny_Return_some (thn (h.run pins s σ H (fun x H1 => ∃ ρ1 S1 a, Ext ρ H ρ1 H1 ∧ Stt G (fm X) ρ1 S1 ls σ H1 ∧ RV G ρ1 H1 a x ∧ P (a, ls) S1) I ?_) fun v s1 ⟨x, H1, I1, r1, ρ1, S1, a, x1, T1, ra, p⟩ => ?_))
  · refine tE_seq (fun v S' => P (v, ls) S') T (Out.sat_mono (fun _ _ q => q) (fun _ _ _ q => q) (Out.sat_bind.mp z)) fun v S' ρ' H' x p y T' r => ⟨ρ', S', v, y, T', r, p⟩
  · exact ⟨v, x, σ, H1, ρ1, S1, ls, a, rfl, I1, r1, x1, T1, ra, p⟩⟩
def zSeq (m : SM) (n : ZM) : ZM := fun ls S => (m ls S).bind fun r S1 => match r.1 with
  | .nx => n r.2 S1
  | _ => .bad
theorem mz_cons {m : SM} {n : ZM} {st : Stmt} {rest : List Stmt} (h1 : PS X st (tS G (fm X) W m)) (h2 : PBz X G W rest n) : PBz X G W (st :: rest) (zSeq m n) := ⟨fun pins s σ H ρ S ls P I T z => by
  refine wpAny_execs_cons (thn (h1.run pins s σ H { nx := fun σ' H' => ∃ ρ1 S1 L, Ext ρ H ρ1 H' ∧ Stt G (fm X) ρ1 S1 L σ' H' ∧ (n L S1).Sat P (PostX G (fm X) W ρ H), rt := fun _ _ => False, bk := fun _ _ => False, ct := fun _ _ => False } I ?_) fun f s1 q => ?_)
  · refine ⟨ρ, S, ls, T, Out.sat_mono (fun r S1 q ρ1 H1 σ1 x1 T1 => ?_) (fun _ _ _ q => q) (Out.sat_bind.mp z)⟩
    obtain ⟨fl, L⟩ := r
    cases fl with
    | nx => exact ⟨ρ1, S1, L, x1, T1, q⟩
    | _ => exact q.elim
  · cases f with
    | next =>
      obtain ⟨σ', H', I', ρ1, S1, L, x1, T1, q⟩ := q
      refine thn (h2.run pins s1 σ' H' ρ1 S1 L P I' T1 (Out.sat_mono (fun _ _ z => z) (fun _ _ _ z => z.ext x1) q)) fun f s2 ⟨u, v, σ2, H2, ρ2, S2, L2, a, e, I2, r, x2, t⟩ => ⟨u, v, σ2, H2, ρ2, S2, L2, a, e, I2, r, x1.trans x2, t⟩
    | ret v => obtain ⟨_, _, _, _, _, q⟩ := q; exact q.elim
    | brk => obtain ⟨_, _, _, q⟩ := q; exact q.elim
    | cont => obtain ⟨_, _, _, q⟩ := q; exact q.elim⟩
end
def runZ (N : Nat) (m : ZM) : Fn := fun xs S => (m (startL N xs) S).bind fun r S1 => .ok r.1 (onL r.2 S1)
theorem fn_okZ {G : Gd} {P : Program} {w : World} {K : PySem.W.Frag} {mg : Str → Option Value} {base : Heap} {N ps : List Str} {k n : Nat} {x qual : Str} {params : Arguments} {body : List Stmt} {scope : Scope} {dvs : List V} {kws : List (Str × V)} {f : Addr} {fd : FuncData} {m : ZM}
    (Fd : FunD K x qual params body scope dvs kws f fd) (Sc : FnScope N ps scope) (hn : ps.length = n)
    (hbody : ∀ (cdv : Value) (A : Around) (outer : List Env) (s : Shared) (H : Hp) (E : XK), fd.code = cdv → Room k (A.deeper (envOfC qual scope s.heap.objs.size f cdv)) →
      PBz (cxOf (L2.CX P w) P w K mg base N qual scope f cdv A outer s H E) G (WF E) body m) : FnOk P w K mg base (L2.CX P w) (k + 1) f fd ps (SPf G n (runZ N.length m)) := by
  obtain ⟨oc, od, dV, kV, doc, pm, an, cdv, ct, osl, rfl, lk, hcd, _, _⟩ := Fd.ex
  have len : ∀ vs H Q E, SPf G n (runZ N.length m) vs H Q E → vs.length = ps.length := fun vs H Q E h => by rw [h.len, hn]
  refine ⟨len, fun A outer s H args us vs Q E hr e0 hb r hsp =>
        ?_⟩
  have lim : s.heap.NoLimit :=
        e0.mod.nolimit.keeps fun b o e => (e0.bs b o e).1
  have KX : K.In s.heap :=
        e0.mod.kin.keeps fun b o e => (e0.bs b o e).1
  refine codeAny_call_function hr.depth (KX _ _ lk) rfl Sc.co Sc.gen rfl (PySem.W.codeRec_of KX hcd) (hb _ _ _ _ ?_)
  refine wpAny_newFunctionEnv_cells Sc.kind (fun ⟨n, v⟩ hy => (Sc.par n (List.of_mem_zip hy).1).imp id fun q => ⟨q, PySem.W.cellsFrom_some _ _ _ (.inl q)⟩) fun env he s1 x => ?_
  subst he
  refine ⟨lim.keeps x.toInCall.keep,
        codeAny_func ?_⟩
  obtain ⟨ρ, S, xs, R, KA, rv, e, h⟩ := hsp
  have hl : vs.length = ps.length := by rw [RVs_len rv, e, hn]
  have I : Inv (cxOf (L2.CX P w) P w K mg base N qual scope f cdv A outer s H E) [] (L2.start N vs) H s1 := inv_start Sc hr.hd e0 hl r x
  refine wpAny_mono ((hbody cdv A outer s H E rfl (hr.deeper _)).run [] s1 (L2.start N vs) H ρ S _ (fun q S1 => PostF G ρ H Q q.1 (onL q.2 S1)) I (start_stt R KA rv)
    (Out.sat_mono (fun _ _ z => z) (fun e L S1 z ρ1 H1 σ1 x1 T1 cls d re => z ρ1 H1 x1 T1.rel T1.known cls d re) (Out.sat_bind.mp h))) (fun fl s' hs => ?_) fun e s' hs => hs
  obtain ⟨u, v, σ', H', ρ', S', L, a, efl, J, rvu, x', T', ra, q⟩ := hs
  subst efl
  obtain ⟨C, cf, hC⟩ := cfr_mk Sc.nd J (ls := L) fun i k a e => by
    obtain ⟨⟨y, h1, _⟩, _, n, b, _, h3, h4, h5⟩ := T'.c_at e
    exact ⟨n, b, y, h3, h4, h5, h1⟩
  have own : ∀ b o, C.lookup b = some o → ∃ n, (cxOf (L2.CX P w) P w K mg base N qual scope f cdv A outer s H E).env.cells.lookup n = some b := fun b o e => let ⟨_, _, _, _, n, _, _, z⟩ := hC b o e; ⟨n, z⟩
  have fC : Free H' C := free_of J own
  have young : ∀ b o, C.lookup b = some o → s.heap.objs.size ≤ b := fun b o e => let ⟨n, z⟩ := own b o e; J.ok.cab n b rfl z
  obtain ⟨Ro, Ko⟩ := T'.on fC cf
  have ub := J.base
  have x2 := x'.trans (ext_fz fC)
  refine ⟨v, fz H' C, J.os, J.bare, ⟨ub.keep, ub.slot, fun b o e n hx => ?_, ub.there, fun b ys e => ?_, fun b o y e => ?_, fun b ps e => ?_⟩, hok_fz fC J.hok fun b o e => (hC b o e).1, rvu, q ρ' _ x2 Ro Ko v (ra.mono (ext_fz fC) a)⟩
  · rw [fz_ne]
    · exact ub.free b o e n hx
    · cases z : C.lookup b with
      | none => rfl
      | some o' => exact absurd (Nat.lt_of_lt_of_le (Heap.lt_size e) (young b o' z)) (Nat.lt_irrefl _)
  · have e' := ub.tups b ys e
    rw [fz_ne (fC.ne e')]
    exact e'
  · have e' := ub.frzs b o y e
    rw [fz_ne (fC.ne e')]
    exact e'
  · obtain ⟨more, e'⟩ := ub.tbls b ps e
    exact ⟨more, by rw [fz_ne (fC.ne e')]; exact e'⟩
end Sh

end

noncomputable section
set_option maxHeartbeats 2000000
namespace PySem
namespace OXn
open PySem.W PySem.Calls PyProof.Rows PySem.HandSPX
/-! ### the text of __init__ -/
def iA (fld : Str) (p1 p2 : Pos) : Arguments := { posonlyargs := [], args := [{ arg := "self", annotation := none, pos := p1 }, { arg := fld, annotation := none, pos := p2 }], vararg := none, kwonlyargs := [], kw_defaults := [], kwarg := none, defaults := [] }
def iB (fld : Str) (q1 q2 q3 q4 : Pos) : List Stmt := [.Assign [.Attribute (.Name "self" q1) fld q2] (.Name fld q3) q4]
def iS (fld : Str) : Scope := { kind := .function, names := [(PySem.Str.ofString "self", .local), (fld, .local)], isGenerator := false, isCoroutine := false, more := [] }
/-- what the written part says of Low, at C, and of its __init__, at fI -/
structure OFld (fld : Str) : Prop where
  bnd : ∀ (cx : Str) (p1 p2 q1 q2 q3 q4 : Pos) (kV doc pm : Value) (an : Option Addr) (cdv ct : Value) (x v : Value), bindArgs (fnOf "__init__" (cx ++ ".__init__") (iA fld p1 p2) (iB fld q1 q2 q3 q4) (iS fld) .none kV doc pm an cdv ct) ⟨[x, v], []⟩ = pure [(("self" : Str), x), (fld, v)]
  kf : (iS fld).names.lookup fld = some .local
  nself : (fld == ("self" : Str)) = false
  ndbg : (fld == ("__debug__" : Str)) = false
structure OTxt (K : Frag) (mg : Str → Option Value) (cx fld : Str) (C fI : Addr) : Prop where
  fo : OFld fld
  cdbg : (cx == ("__debug__" : Str)) = false
  gC : mg cx = some (.ref C)
  cls : ∃ nm q N bs bm sn sub ab col dd k0 k1 k2 k3 k5, K.lookup C = some (excClassObj nm q C N bs bm true sn sub ab col dd k0 k1 k2 k3 k5 "ValueError.__new__") ∧ refsVE bm = true
  sa : findIn K (.ref C) "__setattr__" = some (some (.builtin "object.__setattr__"))
  ga : findIn K (.ref C) "__getattribute__" = some (some (.builtin "BaseException.__getattribute__"))
  gg : findIn K (.ref C) "__getattr__" = some none
  noN : findIn K (.ref C) fld = some none
  iC : findIn K (.ref C) "__init__" = some (some (.ref fI))
  tC : typeIn K (.ref fI) = some (.type "function")
  kC : keepIn K (.ref C) = true
  exC : subIn K (.ref C) (.type "BaseException") = some true
  tyC : typeIn K (.ref C) = some (.type "type")
  hdC : hasDictIn K C = true
  te : exmOne K (.ref C) (.ref C) = some true
  fn : ∃ (oc : Value) (od : Option Addr) (doc pm kV : Value) (an : Option Addr) (cdv ct : Value) (osl : Array (Option Value)) (p1 p2 q1 q2 q3 q4 : Pos),
    K.lookup fI = some ⟨oc, od, .func (fnOf "__init__" (cx ++ ".__init__") (iA fld p1 p2) (iB fld q1 q2 q3 q4) (iS fld) .none kV doc pm an cdv ct), osl⟩ ∧ codeIn K cdv (cx ++ ".__init__") = true
theorem one_size (v : Value) : [v].length ≤ sizeLine := by
  rw [sizeLine_eq]
  exact (by decide : 1 ≤ 16777216)
theorem kept_but {K : Frag} {h h' : Heap} {x : Addr} (X : K.In h) (hx : K.lookup x = none) (k : ∀ b o, b ≠ x → h.get? b = some o → h'.get? b = some o) : K.In h' := fun a o e =>
  k a o (fun z => by rw [z, hx] at e; cases e) (X a o e)
theorem ldC {M : Model} {s : Shared} {name : Str} {scope : Scope} {L a : Addr} {cd : Value} {m : Str → Option Value} {x : Str} {pos : Pos} {v : Value} {Q : Value → Shared → Prop} {A : Around} {E : Value → Shared → Prop} (hn : s.heap.Ns L m) (hv : m x = some v) (h : Q v s)
    (hk : scope.kind = .function :=
          by rfl) (hl : (envOfC name scope L a cd).kindOf x = some .local := by rfl) (hd : (x == ("__debug__" : Str)) = false := by decide) :
    wpAny M A (eval (.Name x pos) (envOfC name scope L a cd)) Q E s := wpAny_Name (wpAny_loadName_local hk hl hn hv h) hd
/-- what __init__ leaves of a fresh exception at x -/
structure InitEnd (fld : Str) (h h' : Heap) (x C dx t1 : Addr) (v : Value) : Prop where
  keep : ∀ b o, b ≠ x → h.get? b = some o → h'.get? b = some o
  obj : h'.get? x = some { cls := .ref C, dict := some dx, data := .fields #[.ref t1, .none, .none, .none, .bool false, .none] }
  dbig : h.objs.size ≤ dx
  dne : dx ≠ x
  ns : h'.Ns1 dx (fun y => if y = fld then some v else none)

structure OwnMade (fld : Str) (h h' : Heap) (e C d : Addr) (v : Value) : Prop where
  keep : ∀ b o, h.get? b = some o → h'.get? b = some o
  new : h.objs.size ≤ e
  obj : ∃ oe vs, h'.get? e = some oe ∧ oe.cls = .ref C ∧ oe.dict = some d ∧ oe.data = .fields vs ∧ vs[1]? = some .none
  dbig : h.objs.size ≤ d
  dne : d ≠ e
  ns : h'.Ns1 d (fun y => if y = fld then some v else none)
section
variable {prog : Program} {w : World} {A : Around} {E : Value → Shared → Prop} {R : Result → Shared → Prop} {s : Shared} {K : Frag} {mg : Str → Option Value} {C fI : Addr} {cx fld : Str}
theorem oinit (T : OTxt K mg cx fld C fI) {x t0 : Addr} {v : Value} (X : K.In s.heap) (hlim : s.heap.NoLimit) (hx : s.heap.get? x = some (excO C t0)) (hnx : K.lookup x = none) (hroom : A.depth < recursionLimit)
    (hq : ∀ h' tk dx, InitEnd fld s.heap h' x C dx t0 v → R (.ok (.ret .none)) { s with heap := h', toks := tk }) :
    codeAny (model prog w) A (.call (.ref fI) ⟨[.ref x, v], []⟩) R s := by
  obtain ⟨oc, od, doc, pm, kV, an, cdv, ct, osl, p1, p2, q1, q2, q3, q4, ho, hcd⟩ := T.fn
  obtain ⟨nm, q, N, bs, bm, sn, sub, ab, col, dd, k0, k1, k2, k3, k5, hC, hbm⟩ :=
        T.cls
  have hcl : clsIn K C = some { name := nm, bases := bs, mro := .ref C :: bm, ns := N, qualname := q, hasDict := true, slotNames := sn, subclasses := sub, abstract := ab, collection := col, hasDel := false } := by unfold clsIn; rw [hC] <;> rfl
  refine Att.call_fn (binds := [(("self" : Str), .ref x), (fld, v)]) X hlim ho hcd hroom (BindsTo.of_eq (T.fo.bnd cx p1 p2 q1 q2 q3 q4 kV doc pm an cdv ct _ _)) (by simp [T.fo.kf, show (iS fld).names.lookup ("self" : Str) = some .local from rfl]) (fun s₁ IC => ?_) rfl rfl rfl
  obtain ⟨h₁, tk₁, rfl⟩ := IC.toInCall.same
  have k : ∀ b o, s.heap.get? b = some o → h₁.get? b = some o := IC.toInCall.keep
  have hn := IC.toInCall.ns
  have hxL : s.heap.objs.size ≠ x := Nat.ne_of_gt (Heap.lt_size hx)
  have X₁ : K.In h₁ := X.keeps k
  have hx₁ := k _ _ hx
  -- self.by = by
  show wpAny _ _ (execs _ _) _ _ _
  refine wpAny_execs_cons (plainObj_wpAny_Assign_Attribute ?_)
  have ks : (envOfC (cx ++ ".__init__") (iS fld) s.heap.objs.size fI cdv).kindOf "self" = some .local := rfl
  have kf : (envOfC (cx ++ ".__init__") (iS fld) s.heap.objs.size fI cdv).kindOf fld = some .local := T.fo.kf
  have ne1 : ("self" : Str) ≠ fld := fun z => by have := T.fo.nself; rw [← z] at this; simp at this
  refine ldC (v := v) hn (by simp [bindL, ks, kf]) (ldC (v := .ref x) hn (by simp [bindL, ks, kf, ne1]) ?_) rfl kf T.fo.ndbg
  refine set_plain X₁ (ox := excO C t0) (od := none) ⟨hx₁, rfl, rfl, trivial⟩ T.sa ?_
  refine exc_osa X₁ hx₁ hcl (show refsVE (.ref C :: bm) = true from hbm) rfl T.noN (fun h₃ tk₃ dx k₃ dn dne hx₃ hn₃ => ?_)
  show wpAny _ _ (execs _ _) _ _ _
  have z : s.heap.objs.size < h₁.objs.size := hn.lt
  exact wpAny_execs_nil (hq h₃ tk₃ dx ⟨fun b o hb e => k₃ b o hb (k b o e), hx₃, Nat.le_of_lt (Nat.lt_of_lt_of_le z dn), dne, hn₃⟩)
theorem omade (T : OTxt K mg cx fld C fI) {v : Value} (X : K.In s.heap) (hlim : s.heap.NoLimit) (hroom : A.depth + 1 < recursionLimit)
    (hq : ∀ h' tk e d, OwnMade fld s.heap h' e C d v → R (.ok (.ret (.ref e))) { s with heap := h', toks := tk }) :
    codeAny (model prog w) A (.call (.ref C) ⟨[v], []⟩) R s := by
  obtain ⟨nm, q, N, bs, bm, sn, sub, ab, col, dd, k0, k1, k2, k3, k5, hC, hbm⟩ :=
        T.cls
  obtain ⟨hp, g, dr, tk, os⟩ :=
        s
  have k : ∀ b o, hp.get? b = some o → ((hp.push (kdv_tup [v])).push (excO C hp.objs.size)).get? b = some o := fun b o e => Heap.get?_push_of_some _ (Heap.get?_push_of_some _ e)
  have hget : ((hp.push (kdv_tup [v])).push (excO C hp.objs.size)).get? (hp.objs.size + 1) = some (excO C hp.objs.size) := by heap_get
  have hnx : K.lookup (hp.objs.size + 1) = none := by
    cases e : K.lookup (hp.objs.size + 1) with
    | none => rfl
    | some o =>
      have z : hp.get? (hp.objs.size + 1) = some o := X _ _ e
      exact absurd (Nat.lt_of_succ_lt (Heap.lt_size z)) (Nat.lt_irrefl _)
  refine call_own F.excBase_ValueError (fun X => refsVE_contains X bm hbm) (X _ _ hC) (looks_findIn X T.iC) (fun self => bind_fn X self T.tC) (one_size v) ?_
  refine oinit (s := ⟨(hp.push (kdv_tup [v])).push (excO C hp.objs.size), g, dr, tk, os⟩) T (X.keeps k) (hlim.keeps k) hget hnx ?_ fun h' tk' dx ⟨k', hx, dn, dne, hns⟩ => ?_
  · show A.depth + 1 < recursionLimit
    exact hroom
  · have old : ∀ b o, hp.get? b = some o → h'.get? b = some o := fun b o e => k' b o (Nat.ne_of_lt (Nat.lt_succ_of_lt (Heap.lt_size e))) (k b o e)
    have z : hp.objs.size + 1 + 1 ≤ dx := by
      first
        | (simpa only [Heap.size_push] using dn)
        | exact dn
        | (have q := dn; rw [Heap.size_push, Heap.size_push] at q; exact q)
    exact ⟨rfl, hq h' tk' (hp.objs.size + 1) dx ⟨old, Nat.le_succ _, ⟨_, _, hx, rfl, rfl, rfl, rfl⟩, Nat.le_trans (Nat.le_trans (Nat.le_succ _) (Nat.le_succ _)) z, dne, hns⟩⟩
end
end OXn
end PySem
namespace L2
open PySem PySem.Spec PyProof.Rows
theorem relO_fld {fld : Str} {v : V} {v' : Value} (r : RelV v v') (f : Str) : RelO (List.lookup f [(fld, v)]) (if f = fld then some v' else none) := by
  by_cases hw : f = fld
  · rw [if_pos hw, hw]
    have q : List.lookup fld [(fld, v)] = some v := by simp [List.lookup]
    rw [q]
    exact r
  · rw [if_neg hw]
    have qw : (f == fld) = false := by simpa using hw
    have q2 : List.lookup f [(fld, v)] = none := by simp [List.lookup, qw]
    rw [q2]
    trivial
section
variable {X : Cx} {F : Fm} {C fI : Addr} {cx fld : Str}
/-- BadText(e) -/
def tMkX (fld : Str) (C : Addr) (ta : TA) : L2.St → Hp → XK → Prop := fun σ H Q => ta σ H fun vs H1 => ∃ v, vs = [v] ∧ ∀ d, H1 d = none → Q (.ref C) (some d) (upd H1 d (.xd [(fld, v)]))
theorem pmkX {a : Expr} {ta : TA} {p pos : Pos} {k : Nat} (T : PySem.OXn.OTxt X.K X.mg cx fld C fI) (hr : Room k X.A) (ha : PA X [a] ta) (hg : Gl X cx := by rfl)
    (he : starEach (a :: []) X.env = (false, eval a X.env) :: starEach [] X.env := by rfl) (hpl : (backTo pos (starEach [] X.env)).any (·.1) = false := by rfl) :
    PMk X (.Call (.Name cx p) [a] [] pos) (tMkX fld C ta) := by
  intro pins s σ H Q I h
  refine wpAny_Call_Name_kw (ld_glob I hg T.gC ?_ T.cdbg)
  refine PySem.W.callWith_K (h₀ := X.base) I.ok.mod.kin T.kC (thn (ha.run pos pins s σ H _ I h) fun us s1 hh => ?_) he hpl
  obtain ⟨vs, H1, I1, r1, v, ev, q1⟩ := hh
  subst ev
  refine ⟨I1.kIn, ?_⟩
  cases r1 with
  | cons rv rn =>
    rename_i v' us'
    cases rn
    show wpAny _ _ (call (.ref C) [v']) _ _ _
    have hlim := I1.nolimit
    obtain ⟨hp, g, dr, tk, os⟩ :=
          s1
    refine wpAny_call (PySem.OXn.omade T I1.kIn hlim (by have := hr.dp; omega) fun h' tk' e d M => ?_)
    show MkP X pins σ Q (.ref e) ⟨h', g, dr, tk', os⟩
    obtain ⟨oe, fv, hoe, hc, hd, hdat, h1⟩ := M.obj
    have hns := M.ns
    obtain ⟨G', g1, g2⟩ := restrict h' fun b => decide (b ≠ e)
    have gk : ∀ b, b ≠ e → G'.get? b = h'.get? b := fun b hb => g1 b (decide_eq_true hb)
    have ge : G'.get? e = none := g2 e (by simp)
    have old : ∀ b o, hp.get? b = some o → G'.get? b = some o := fun b o q => (gk b (Nat.ne_of_lt (Nat.lt_of_lt_of_le (Heap.lt_size q) M.new))).trans (M.keep b o q)
    have ob : ObjOk X.prog X.w (upd H1 d (.xd [(fld, v)])) G' d (.xd [(fld, v)]) :=
      ⟨_, hns.at (fun o q => (gk d M.dne).trans q), fun f => relO_fld rv f⟩
    have J : Inv X pins σ (upd H1 d (.xd [(fld, v)])) ⟨G', g, dr, tk', os⟩ := I1.laid (t' := tk') old M.dbig ob
    refine ⟨e, oe, fv, ⟨G', g, dr, tk', os⟩, _, .ref C, some d, rfl, J, fun b o q => ?_, ge, hoe, ⟨hc, hd⟩, hdat, h1, ?_, rfl, I1.bare, raises_own T.exC T.tyC, q1 d (I1.hok.fresh M.dbig)⟩
    · by_cases hb : b = e
      · have q' : G'.get? b = some o := q
        rw [hb, ge] at q'; cases q'
      · exact (gk b hb).symm.trans q
    · rw [upd_ne (Ne.symm M.dne)]
      exact I1.hok.fresh M.new

def tRaiseX (fld : Str) (C : Addr) (W : WX) (ta : TA) : TS := fun _ σ H => tMkX fld C ta σ H fun cls d H' => W cls d σ H'
theorem psrX {a : Expr} {ta : TA} {W : WX} {p pos pos2 : Pos} {k : Nat} (hc : X.calm = true) (T : PySem.OXn.OTxt X.K X.mg cx fld C fI) (hr : Room k X.A) (tk : Takes X W) (ha : PA X [a] ta) (hg : Gl X cx := by rfl)
    (he : starEach (a :: []) X.env = (false, eval a X.env) :: starEach [] X.env := by rfl) (hpl : (backTo pos (starEach [] X.env)).any (·.1) = false := by rfl) :
    PS X (.Raise (some (.Call (.Name cx p) [a] [] pos)) none pos2) (tRaiseX fld C W ta) := ps_raise hc tk (pmkX T hr ha hg he hpl)
end
end L2

namespace Sh
open PySem PySem.Spec PyProof.Rows L2
def mRaise (c f : Nat) (m : EM) : SM := fun ls S => (m ls S).bind fun v S1 => .ex ⟨c, [(f, v)]⟩ ls S1
theorem msr {cx fld : Str} {X : Cx} {G : Gd} {W : WX} {fI : Addr} {a : Expr} {ma : EM} {p pos pos2 : Pos} {k : Nat} (c f : Nat) (hc : X.calm = true) (T : PySem.OXn.OTxt X.K X.mg cx fld (G.ca c) fI) (hf : G.nm f = fld) (hr : Room k X.A) (tk : Takes X W) (ha : PE X a (tE G F W ma)) (hg : Gl X cx := by rfl)
    (he : starEach (a :: []) X.env = (false, eval a X.env) :: starEach [] X.env := by rfl) (hpl : (backTo pos (starEach [] X.env)).any (·.1) = false := by rfl) :
    PS X (.Raise (some (.Call (.Name cx p) [a] [] pos)) none pos2) (tS G F W (mRaise c f ma)) := by
  refine PS_imp (psrX hc T hr tk (pa_cons ha pa_nil he) hg he hpl) fun D σ H ⟨ρ, S, ls, Tt, h⟩ => ?_
  refine tE_bind Tt h fun v S1 ρ1 H1 x h1 x1 T1 r1 => ?_
  refine ⟨x, rfl, fun d hd => ?_⟩
  obtain ⟨T2, x2⟩ := T1.side (o := .xd [(fld, x)]) hd
  refine h1 ρ1 _ σ (x2) T2 _ _ ⟨rfl, d, _, rfl, upd_same, x, [], by rw [hf], r1.mono x2 v, rfl⟩
end Sh

end

noncomputable section
namespace Sh
open PySem PySem.Spec PyProof.Rows L2
/-- what the clauses wish of an exception of the body,
    one after the other -/
abbrev HE := Value × Bool × (Addr → Value → Option Addr → TS)
def wManyA (K : PySem.W.Frag) (i : Nat) (Wout : WX) (D : Ends) : List HE → WX
  | [] => Wout
  | (c, false, ts) :: r => fun cls d σ H => ∃ b, PySem.W.exmOne K cls c = some b ∧ (b = true → ∀ a, H a = none → ts a cls d D σ H) ∧ (b = false → wManyA K i Wout D r cls d σ H)
  | (c, true, ts) :: r => fun cls d σ H => ∃ b, PySem.W.exmOne K cls c = some b ∧ (b = true → ∀ a, H a = none → ts a cls d { nx := fun σ' H' => D.nx (σ'.set i none) H', rt := D.rt, bk := fun σ' H' => D.bk (σ'.set i none) H', ct := fun σ' H' => D.ct (σ'.set i none) H' } (σ.set i (some (.ref a))) H) ∧ (b = false → wManyA K i Wout D r cls d σ H)
inductive HdsOkA (X : Cx) (n : Str) : List ExceptHandler → List HE → Prop
  | nil : HdsOkA X n [] []
  | cons {x : Str} {c : Value} {ts : Addr → Value → Option Addr → TS} {b₀ : Stmt} {suite : List Stmt} {np pos' : Pos} {hds : List ExceptHandler} {l : List HE} (hc : Names X x c)
      (hsu : ∀ (a : Addr) (oe : Obj) (cls : Value) (d : Option Addr) (pn : List (Addr × Obj)), Zc cls d oe → (∃ vs, oe.data = .fields vs) → PSs (X.suite a ((a, oe) :: pn)) (b₀ :: suite) (ts a cls d)) (r : HdsOkA X n hds l) :
      HdsOkA X n (.ExceptHandler (some (.Name x np)) (some n) (b₀ :: suite) pos' :: hds) ((c, true, ts) :: l)
  | bare {x : Str} {c : Value} {ts : Addr → Value → Option Addr → TS} {b₀ : Stmt} {suite : List Stmt} {np pos' : Pos} {hds : List ExceptHandler} {l : List HE} (hc : Names X x c)
      (hsu : ∀ (a : Addr) (oe : Obj) (cls : Value) (d : Option Addr) (pn : List (Addr × Obj)), Zc cls d oe → (∃ vs, oe.data = .fields vs) → PSs (X.suite a ((a, oe) :: pn)) (b₀ :: suite) (ts a cls d)) (r : HdsOkA X n hds l) :
      HdsOkA X n (.ExceptHandler (some (.Name x np)) none (b₀ :: suite) pos' :: hds) ((c, false, ts) :: l)
section
variable {X : Cx} {n : Str} {i : Nat} {body : List Stmt} {h₀ : ExceptHandler} {hds : List ExceptHandler} {l : List HE} {pos : Pos} {tb : WX → TS} {Wout : WX}
theorem ps_try_manyA (hs : X.stack = X.env :: X.outer) (hf : X.env.frame = some X.env.locals) (hN : X.N.Nodup) (hi : X.N[i]? = some n) (hln : X.env.kindOf n = some .local) (tk : Takes X Wout)
    (hb : ∀ (W : WX) (pn : List (Addr × Obj)) (xe : Value → Shared → Prop),
          Takes (X.tr pn xe) W → PassesOwn (model X.prog X.w) X.A X.env xe → PSs (X.tr pn xe) body (tb W))
    (hh : HdsOkA X n (h₀ :: hds) l) : PS X (.Try body (h₀ :: hds) [] [] pos) (fun D σ H => tb (wManyA X.K i Wout D l) D σ H) := by
  refine ⟨fun pins s σ H D I h =>
        ?_⟩
  have ok := I.ok
  have isLoc : Loc X.env.scope n := .inl hln
  have ownFr : X.A.frames = some (X.env :: X.outer) := by rw [ok.frames, hs]
  refine wpAny_Try_except ?_
  refine wpAny_mono ((hb (wManyA X.K i Wout D l) (X.pn ++ pins) (fun e s₁ => wpAny (model X.prog X.w) X.A (noteFrame e X.env) (fun _ s₂ => wpAny (model X.prog X.w) X.A (setFlight e none) (fun _ s₃ =>
    wpAny (model X.prog X.w) X.A (handleBy e X.env (h₀ :: hds)) (SP X pins D) X.xe s₃) X.xe s₂) X.xe s₁) (fun u s' given => ?_) PassesOwn.looking).run [] s σ H D (I.toTry _) h) (fun f s1 saw => ?_) (fun e s1 he => he)
  · -- the catch
    obtain ⟨a, B, sIn, pinsN, σ', H', cls, d, rfl, Kt, nbl, upA, sk, na, osr, agr, w⟩ := given
    have Ka : Inv X pins σ' H' sIn := Kt.ofTry ok
    have skA : Sky B (X.env :: X.outer) a (Zc cls d) X.env.locals s'.heap := by rw [← hs]; exact sk
    show wpAny (model X.prog X.w) X.A
        (noteFrame (.ref a) X.env) _ _ _
    refine Sky.land Zc.steady ownFr hf skA fun hpB flB upB => ?_
    have Kb : Inv X pins σ' H' { s' with heap := hpB } := Ka.landed nbl flB.1 (upA.trans upB) osr agr
    obtain ⟨obB, fvB, atB, zB, dB⟩ := flB.there
    have apart : ∀ {h : Heap} {o : Obj} {vs : Array Value}, h.FunFrames B (X.env :: X.outer) → h.get? a = some o → o.data = .fields vs → a ∉ frs (X.env :: X.outer) := fun {h o vs} allF e dd hm => by
      obtain ⟨_, o', e', nofr⟩ := allF.mem hm
      rw [e] at e'; cases e'
      exact nofr _ dd
    have apartA := apart flB.2.2.1 atB dB
    have neqL : a ≠ X.env.locals := fun z => apartA (List.mem_filterMap.mpr ⟨X.env, List.mem_cons_self, by rw [hf, z]⟩)
    have notF : a ∉ X.fs := fun hm => by
      obtain ⟨e, he, q⟩ :=
          List.mem_filterMap.mp hm
      exact apartA (List.mem_filterMap.mpr ⟨e, List.mem_cons_of_mem _ he, q⟩)
    have Sb := Kb.suite atB dB na neqL notF
    have go : ∀ {hds' : List ExceptHandler} {l' : List HE}, HdsOkA X n hds' l' → wManyA X.K i Wout D l' cls d σ' H' →
        wpAny (model X.prog X.w) X.A (handleBy (.ref a) X.env hds') (SP X pins D) X.xe { s' with heap := hpB } := by
      intro hds' l' hk
      induction hk with
      | nil =>
        intro w
        refine wpAny_handleBy_nil ?_
        obtain ⟨k1, k2, k3, oe, vs, T, objT, tsN, he, hz, hd, h1, hr⟩ := id flB
        unfold PySem.passOn
        refine wpAny_bind
            (wpAny_field he hd h1 ?_)
        rw [if_neg (show ¬
            ((Value.ref T == Value.none) = true) from by simp)]
        have away : wpAny (model X.prog X.w) X.A (setFlight (.ref a) X.env.frame) (fun _ s4 => wpAny (model X.prog X.w) X.A (throw (.ref a) : Sem Flow) (SP X pins D) X.xe s4) X.xe { s' with heap := hpB } := by
          rw [hf]
          refine HandSPX.setFlight_upZ flB fun hpC hhC upC => wpAny_throw (tk _ _ ?_)
          exact ⟨a, B, sIn, pins, σ', H', cls, d, rfl, Ka, nbl, (upA.trans upB).trans upC, .inr (.inr (by rw [hs]; exact hhC)), na, osr, agr, w⟩
        first
          | exact wpAny_bind (wpAny_pure (wpAny_bind away))
          | exact wpAny_bind away
      | @cons x c ts b₀ suite np
          pos' hds2 l2 hc hsu r ih =>
        intro w
        obtain ⟨b, isB, yes, nay⟩ := w
        refine wpAny_handleBy_cons
            (codeAny_handlers_test ?_) (by intro q; cases q)
        have looks : PySem.W.Looks (model X.prog X.w) hpB (typeOf (.ref a)) cls := fun A Q E s k q => wpAny_typeOf_ref (k _ _ atB) (by rw [zB.1]; exact q)
        have meets1 := PySem.W.exm_one (M := model X.prog X.w) (Kb.kIn) looks isB
        have tst : ∀ {Q : Value → Shared → Prop} {E : Value → Shared → Prop}, Q c { s' with heap := hpB } → wpAny (model X.prog X.w) (X.A.mark (some (.ref a))) (eval (.Name x np) X.env) Q E { s' with heap := hpB } := fun {Q E} q => by
          obtain ⟨hg, noDbg, hm | ⟨hm, hv, noNn⟩⟩ := hc
          · exact ld_glob (X := X.suite a ((a, obB) :: (X.pn ++ pins))) Sb hg hm q noDbg
          · exact ld_blt (X := X.suite a ((a, obB) :: (X.pn ++ pins))) Sb hg hm hv q noNn noDbg
        refine tst (meets1.here ?_)
        cases b with
        | true =>
          refine (codeAny_handlers_suite_as (?_))
          refine HandSPX.lands_againZ flB fun hpC flC upC => ?_
          have Kc : Inv X pins σ' H' { s' with heap := hpC } := Ka.landed nbl flC.1 ((upA.trans upB).trans upC) osr agr
          obtain ⟨obC, fvC, atC, zC, dC⟩ := flC.there
          have Sc := Kc.suite atC dC na neqL notF
          refine store_ok (X := X.suite a ((a, obC) :: (X.pn ++ pins))) (v := .ref a) Sc hN hi isLoc rfl (fun s5 S5 => ?_) (.inr hln)
          refine wpAny_mono ((hsu a obC cls d (X.pn ++ pins) zC ⟨_, dC⟩).run [] s5 _ H' _ S5 (yes rfl a na)) (fun f s6 saw => ?_) (fun _ _ z => False.elim z)
          have end_ : ∀ {σZ : L2.St} {HZ : Hp} {Q : Shared → Prop}, Inv (X.suite a ((a, obC) :: (X.pn ++ pins))) [] σZ HZ s6 → (∀ sEnd, Inv X pins (σZ.set i none) HZ sEnd → Q sEnd) →
              wpAny (model X.prog X.w) X.A (do bindName X.env n .none; unbindBehindTheSuite X.env n pos') (fun _ sEnd => Q sEnd) X.xe s6 := fun {σZ HZ Q} SZ hq => gone_ok (SZ.unsuite ok) hN hi hln hq
          cases f with
          | next =>
            obtain ⟨σZ, HZ, SZ, qZ⟩ := saw
            exact end_ SZ fun sEnd KEnd => ⟨_, _, KEnd, qZ⟩
          | brk =>
            obtain ⟨σZ, HZ, SZ, qZ⟩ := saw
            exact end_ SZ fun sEnd KEnd => ⟨_, _, KEnd, qZ⟩
          | cont =>
            obtain ⟨σZ, HZ, SZ, qZ⟩ := saw
            exact end_ SZ fun sEnd KEnd => ⟨_, _, KEnd, qZ⟩
          | ret u =>
            obtain ⟨vZ, σZ, HZ, SZ, rZ, qZ⟩ := saw
            exact end_ SZ fun sEnd KEnd => ⟨_, _, _, KEnd, rZ, qZ⟩
        | false =>
          show wpAny _ X.A (handleBy
              (.ref a) X.env hds2) _ _ _
          exact ih (nay rfl)
      | @bare x c ts b₀ suite np pos' hds2 l2 hc hsu r ih =>
        intro w
        obtain ⟨b, isB, yes, nay⟩ := w
        refine wpAny_handleBy_cons
            (codeAny_handlers_test ?_) (by intro q; cases q)
        have looks : PySem.W.Looks (model X.prog X.w) hpB (typeOf (.ref a)) cls := fun A Q E s k q => wpAny_typeOf_ref (k _ _ atB) (by rw [zB.1]; exact q)
        have meets1 := PySem.W.exm_one (M := model X.prog X.w) (Kb.kIn) looks isB
        have tst : ∀ {Q : Value → Shared → Prop} {E : Value → Shared → Prop}, Q c { s' with heap := hpB } → wpAny (model X.prog X.w) (X.A.mark (some (.ref a))) (eval (.Name x np) X.env) Q E { s' with heap := hpB } := fun {Q E} q => by
          obtain ⟨hg, noDbg, hm | ⟨hm, hv, noNn⟩⟩ := hc
          · exact ld_glob (X := X.suite a ((a, obB) :: (X.pn ++ pins))) Sb hg hm q noDbg
          · exact ld_blt (X := X.suite a ((a, obB) :: (X.pn ++ pins))) Sb hg hm hv q noNn noDbg
        refine tst (meets1.here ?_)
        cases b with
        | true =>
          refine (codeAny_handlers_suite (?_))
          refine HandSPX.lands_againZ flB fun hpC flC upC => ?_
          have Kc : Inv X pins σ' H' { s' with heap := hpC } := Ka.landed nbl flC.1 ((upA.trans upB).trans upC) osr agr
          obtain ⟨obC, fvC, atC, zC, dC⟩ := flC.there
          have Sc := Kc.suite atC dC na neqL notF
          refine wpAny_mono ((hsu a obC cls d (X.pn ++ pins) zC ⟨_, dC⟩).run [] _ _ H' _ Sc (yes rfl a na)) (fun f s6 saw => ?_) (fun _ _ z => False.elim z)
          cases f with
          | ret u =>
            obtain ⟨vZ, σZ, HZ, SZ, rZ, qZ⟩ := saw
            exact ⟨_, _, _, SZ.unsuite ok, rZ, qZ⟩
          | next => exact let ⟨_, _, SZ, qZ⟩ := saw; ⟨_, _, SZ.unsuite ok, qZ⟩
          | brk => exact let ⟨_, _, SZ, qZ⟩ := saw; ⟨_, _, SZ.unsuite ok, qZ⟩
          | cont => exact let ⟨_, _, SZ, qZ⟩ := saw; ⟨_, _, SZ.unsuite ok, qZ⟩
        | false =>
          show wpAny _ X.A (handleBy
              (.ref a) X.env hds2) _ _ _
          exact ih (nay rfl)
    exact go hh w
  · cases f with
    | next =>
      obtain ⟨σ', H', Kt, q⟩ := saw
      exact wpAny_execs_nil ⟨σ', H', Kt.ofTry ok, q⟩
    | brk =>
      obtain ⟨σ', H', Kt, q⟩ := saw
      exact ⟨σ', H', Kt.ofTry ok, q⟩
    | cont =>
      obtain ⟨σ', H', Kt, q⟩ := saw
      exact ⟨σ', H', Kt.ofTry ok, q⟩
    | ret u =>
      obtain ⟨v, σ', H', Kt, r, q⟩ := saw
      exact ⟨v, σ', H', Kt.ofTry ok, r, q⟩
/-! ### the plain form of a try -/
def lookF (f : Nat) : List (Nat × AV) → Option AV
  | [] => none
  | (g, v) :: r => match Nat.beq g f with
    | true => some v
    | false => lookF f r
def ExmOk (G : Gd) (nc : Nat) : Prop := ∀ a b : Nat, a < nc → b < nc → PySem.W.exmOne G.K (.ref (G.ca a)) (.ref (G.ca b)) = some (Nat.beq a b) ∧ (Nat.beq a b = false → G.ca a ≠ G.ca b)
def NmInj (G : Gd) : Prop := ∀ a b : Nat, G.nm a = G.nm b → a = b
theorem FR_look {G : Gd} {ρ : List Addr} {H : Hp} (hn : NmInj G) {f : Nat} {v : AV} : ∀ {fs : List (Nat × AV)} {gs : List (Str × V)}, FR G ρ H fs gs → lookF f fs = some v → ∃ x, gs.lookup (G.nm f) = some x ∧ RV G ρ H v x
  | [], _, _, h => by cases h
  | (g, w) :: r, gs, hr, h => by
    obtain ⟨x, hs, e, rw_, rr⟩ := hr
    subst e
    unfold lookF at h
    cases q : Nat.beq g f with
    | true =>
      rw [q] at h
      cases h
      have e := Nat.eq_of_beq_eq_true q
      subst e
      exact ⟨x, by simp [List.lookup], rw_⟩
    | false =>
      rw [q] at h
      obtain ⟨y, hy, ry⟩ := FR_look hn rr h
      refine ⟨y, ?_, ry⟩
      have ne : (G.nm f == G.nm g) = false := by
        rw [beq_eq_false_iff_ne]
        intro z
        have := hn _ _ z
        rw [this] at q
        simp [Nat.beq_refl] at q
      simp only [List.lookup, ne]
      exact hy
/-- a clause: return (word, e.field); return e.field; return (word, None); any suite of a clause that names nothing -/
inductive HF where
  | tf (w : List Nat) (f : Nat)
  | f (f : Nat)
  | tn (w : List Nat)
  | no (m : SM)
def hOne (i : Nat) (e : AE) (L : Lo) (S : Sto) : HF → Out (Fl × Lo)
  | .tf w f => match lookF f e.fs with
    | some v => .ok (.rt (.tup [.str w, v]), setL L i .u) S
    | none => .bad
  | .f f => match lookF f e.fs with
    | some v => .ok (.rt v, setL L i .u) S
    | none => .bad
  | .tn w => .ok (.rt (.tup [.str w, .non]), setL L i .u) S
  | .no m => xBad (m L S)
def hRun (nc i : Nat) (e : AE) (L : Lo) (S : Sto) : List (Nat × HF) → Out (Fl × Lo)
  | [] => .ex e L S
  | (c, hf) :: r => match Nat.blt e.c nc, Nat.blt c nc with
    | true, true => match Nat.beq e.c c with
      | true => hOne i e L S hf
      | false => hRun nc i e L S r
    | _, _ => .bad
def tryX (nc i : Nat) (hs : List (Nat × HF)) : Out (Fl × Lo) → Out (Fl × Lo)
  | .ok r S => .ok r S
  | .ex e L S => hRun nc i e L S hs
  | .bad => .bad
  | .dr n k => .dr n fun j => tryX nc i hs (k j)
def mTry (nc i : Nat) (hs : List (Nat × HF)) (mb : SM) : SM := fun ls S => tryX nc i hs (mb ls S)
theorem tryX_sat {nc i : Nat} {hs : List (Nat × HF)} {P : Fl × Lo → Sto → Prop} {E : AE → Lo → Sto → Prop} : ∀ {m : Out (Fl × Lo)}, (tryX nc i hs m).Sat P E → m.Sat P (fun e L S => (hRun nc i e L S hs).Sat P E)
  | .ok _ _, h => h
  | .ex _ _ _, h => h
  | .bad, h => h
  | .dr n k, h => fun i h0 h1 => tryX_sat (h i h0 h1)
/-- a clause's reading -/
def heOf (X : Cx) (G : Gd) (i : Nat) : Nat × HF → HE
  | (c, .tf w f) => (.ref (G.ca c), true, fun a cls d => tRet (tTup (tCons (tC (.str (toS w))) (tCons (tXf a cls d (G.ca c) (G.nm f) (tVar i)) tNil))))
  | (c, .f f) => (.ref (G.ca c), true, fun a cls d => tRet (tXf a cls d (G.ca c) (G.nm f) (tVar i)))
  | (c, .tn w) => (.ref (G.ca c), true, fun _ _ _ => tRet (tTup (tCons (tC (.str (toS w))) (tCons (tC .non) tNil))))
  | (c, .no m) => (.ref (G.ca c), false, fun _ _ _ => tS G (fm X) W0 m)
theorem sz2 {α : Type} {a b : α} : [a, b].length ≤ sizeLine := by rw [sizeLine_eq]; show 2 ≤ 16777216; decide
theorem Stt.unset {G : Gd} {F : Fm} {ρ : List Addr} {S : Sto} {ls : Lo} {σ : L2.St} {H : Hp} {i : Nat} {x : Option V} (T : Stt G F ρ S ls σ H) : Stt G F ρ S (setL ls i .u) (σ.set i x) H := by
  have es : ∀ {j : Nat}, j ≠ i → (σ.set i x)[j]? = σ[j]? := fun {j} e => List.getElem?_set_ne (Ne.symm e)
  have back : ∀ {j : Nat} {l : LV}, nth (setL ls i .u) j = l → l ≠ .u → nth ls j = l ∧ j ≠ i := fun {j l} h hl => by
    rw [nth_setL] at h
    by_cases e : j = i
    · by_cases q : i < ls.length
      · rw [if_pos ⟨e, q⟩] at h
        exact absurd h.symm hl
      · rw [if_neg (fun z => q z.2)] at h
        exact absurd (nth_lt (l := ls) (i := j) (by rw [h]; exact hl)) (by rw [e]; exact q)
    · rw [if_neg (fun z => e z.1)] at h
      exact ⟨h, e⟩
  refine ⟨T.rel, by rw [List.length_set, setL_len]; exact T.len, fun j => ?_, T.known, fun j j' k b b' h h' => T.one j j' k b b' (back h (fun z => by cases z)).1 (back h' (fun z => by cases z)).1⟩
  have h := T.loc j
  cases q : nth (setL ls i .u) j with
  | u => trivial
  | v b =>
    obtain ⟨e1, e2⟩ := back q (fun z => by cases z)
    rw [e1] at h
    unfold RLV at h ⊢
    rw [es e2]
    exact h
  | c k b =>
    obtain ⟨e1, e2⟩ := back q (fun z => by cases z)
    rw [e1] at h
    unfold RLV at h ⊢
    rw [es e2]
    exact h
theorem tup2 {G : Gd} {F : Fm} {ρ : List Addr} {S : Sto} {ls : Lo} {σ : L2.St} {H : Hp} {a b : AV} {v w : V} {p : Addr} (T : Stt G F ρ S ls σ H) (ra : RV G ρ H a v) (rb : RV G ρ H b w) (hp : H p = none) :
    Stt G F ρ S ls σ (upd H p (.tup [v, w])) ∧ Ext ρ H ρ (upd H p (.tup [v, w])) ∧ RV G ρ (upd H p (.tup [v, w])) (.tup [a, b]) (.ref p) := by
  obtain ⟨T2, x2⟩ := T.side (o := .tup [v, w]) hp
  refine ⟨T2, x2, ?_⟩
  unfold RV
  refine ⟨p, [v, w], rfl, SqT.of upd_same, ?_, .inl upd_same⟩
  unfold RVs
  exact ⟨v, [w], rfl, ra.mono x2 a, RVs_one (rb.mono x2 b)⟩
theorem hOne_ok {X : Cx} {G : Gd} (hn : NmInj G) {i c : Nat} {e : AE} {hf : HF} {D : Ends} {ρ ρ1 : List Addr} {H H1 : Hp} {L : Lo} {S : Sto} {σ : L2.St} {E : AE → Lo → Sto → Prop} {cls : Value} {d : Option Addr} (x1 : Ext ρ H ρ1 H1) (T : Stt G (fm X) ρ1 S L σ H1) (hi : i < σ.length) (re : RE G ρ1 H1 e cls d) (ec : e.c = c)
    (h : (hOne i e L S hf).Sat (PostS G (fm X) ρ H D) E) (a : Addr) (ha : H1 a = none) : match heOf X G i (c, hf) with
      | (_, true, ts) => ts a cls d { nx := fun σ' H' => D.nx (σ'.set i none) H', rt := D.rt, bk := fun σ' H' => D.bk (σ'.set i none) H', ct := fun σ' H' => D.ct (σ'.set i none) H' } (σ.set i (some (.ref a))) H1
      | (_, false, ts) => ts a cls d D σ H1 := by
  have at_ : (σ.set i (some (V.ref a)))[i]? = some (some (.ref a)) := List.getElem?_set_self hi
  have fld : ∀ {f : Nat} {v : AV}, lookF f e.fs = some v → ∃ dd gs y, cls = .ref (G.ca c) ∧ d = some dd ∧ H1 dd = some (.xd gs) ∧ gs.lookup (G.nm f) = some y ∧ RV G ρ1 H1 v y := fun {f v} q => by
    obtain ⟨r1, r2⟩ := re
    cases q2 : e.fs with
    | nil => rw [q2] at q; cases q
    | cons z zs =>
      rw [q2] at r2
      obtain ⟨dd, gs, ed, eH, fr⟩ := r2
      rw [q2] at q
      obtain ⟨y, hy, ry⟩ := FR_look hn fr q
      exact ⟨dd, gs, y, by rw [r1, ec], ed, eH, hy, ry⟩
  cases hf with
  | tf w f =>
    dsimp only [hOne] at h
    cases q : lookF f e.fs with
    | none => rw [q] at h; exact h.elim
    | some v =>
      rw [q] at h
      obtain ⟨dd, gs, y, e1, e2, e3, e4, ry⟩ := fld q
      refine ⟨.ref a, at_, rfl, e1, dd, gs, y, e2, e3, e4, sz2, fun p hp => ?_⟩
      obtain ⟨T2, x2, rt⟩ := tup2 (a := .str w) (b := v) (v := .str (toS w)) (w := y) (T.unset (i := i) (x := none)) rv_str ry hp
      exact h ρ1 _ _ (x1.trans x2) T2 _ rt
  | f f =>
    dsimp only [hOne] at h
    cases q : lookF f e.fs with
    | none => rw [q] at h; exact h.elim
    | some v =>
      rw [q] at h
      obtain ⟨dd, gs, y, e1, e2, e3, e4, ry⟩ := fld q
      exact ⟨.ref a, at_, rfl, e1, dd, gs, y, e2, e3, e4, h ρ1 _ _ x1 (T.unset (i := i) (x := none)) _ ry⟩
  | tn w =>
    refine ⟨sz2, fun p hp => ?_⟩
    obtain ⟨T2, x2, rt⟩ := tup2 (a := .str w) (b := .non) (v := .str (toS w)) (w := .non) (T.unset (i := i) (x := none)) rv_str rv_non hp
    exact h ρ1 _ _ (x1.trans x2) T2 _ rt
  | no m =>
    exact ⟨ρ1, S, L, T, Out.sat_mono (fun r S2 z ρ2 H2 σ2 x2 T2 => z ρ2 H2 σ2 (x1.trans x2) T2) (fun _ _ _ z => z.elim) (xBad_sat (E' := fun _ _ _ => False) h)⟩
theorem hRun_ok {X : Cx} {G : Gd} {W : WX} (hk : X.K = G.K) {nc : Nat} (hx : ExmOk G nc) (hn : NmInj G) {i : Nat} {e : AE} {D : Ends} {ρ ρ1 : List Addr} {H H1 : Hp} {L : Lo} {S : Sto} {σ : L2.St} {cls : Value} {d : Option Addr} (x1 : Ext ρ H ρ1 H1) (T : Stt G (fm X) ρ1 S L σ H1) (hi : i < σ.length) (re : RE G ρ1 H1 e cls d) :
    ∀ {hs : List (Nat × HF)}, (hRun nc i e L S hs).Sat (PostS G (fm X) ρ H D) (PostX G (fm X) W ρ H) → wManyA X.K i W D (hs.map (heOf X G i)) cls d σ H1
  | [], h => h ρ1 H1 σ x1 T cls d re
  | (c, hf) :: r, h => by
    unfold hRun at h
    cases q1 : Nat.blt e.c nc with
    | false => simp only [q1] at h; exact h.elim
    | true =>
      cases q2 : Nat.blt c nc with
      | false => simp only [q1, q2] at h; exact h.elim
      | true =>
        simp only [q1, q2] at h
        obtain ⟨hx1, _⟩ := hx e.c c (Nat.le_of_ble_eq_true q1) (Nat.le_of_ble_eq_true q2)
        have ex1 : PySem.W.exmOne X.K cls (.ref (G.ca c)) = some (Nat.beq e.c c) := by rw [hk, re.1]; exact hx1
        have no : Nat.beq e.c c = false → wManyA X.K i W D (r.map (heOf X G i)) cls d σ H1 := fun hb => by
          rw [hb] at h
          exact hRun_ok hk hx hn x1 T hi re h
        have yes : Nat.beq e.c c = true → ∀ a, H1 a = none → _ := fun hb a ha => by
          rw [hb] at h
          exact hOne_ok hn x1 T hi re (Nat.eq_of_beq_eq_true hb) h a ha
        rw [List.map_cons]
        cases hf with
        | tf w f => exact ⟨_, ex1, yes, no⟩
        | f f => exact ⟨_, ex1, yes, no⟩
        | tn w => exact ⟨_, ex1, yes, no⟩
        | no m => exact ⟨_, ex1, yes, no⟩
theorem takes_len {X : Cx} {W : WX} (t : Takes X W) : Takes X (fun c d σ H => σ.length = X.N.length → W c d σ H) := fun u s' ⟨a, B, sI, pins, σ, H, cls, d, e, I, nb, up, sky, na, os, ag, w⟩ =>
  t u s' ⟨a, B, sI, pins, σ, H, cls, d, e, I, nb, up, sky, na, os, ag, w I.len⟩
theorem ms_try {X : Cx} {G : Gd} {W : WX} {body : List Stmt} {h₀ : ExceptHandler} {hds : List ExceptHandler} {pos : Pos} {n : Str} {i nc : Nat} {hs : List (Nat × HF)} {mb : SM} (hk : X.K = G.K) (hx : ExmOk G nc) (hnm : NmInj G) (hst : X.stack = X.env :: X.outer) (hf : X.env.frame = some X.env.locals) (hN : X.N.Nodup) (hi : X.N[i]? = some n) (hln : X.env.kindOf n = some .local) (tk : Takes X W)
    (hb : ∀ (W : WX) (pn : List (Addr × Obj)) (xe : Value → Shared → Prop), Takes (X.tr pn xe) W → PassesOwn (model X.prog X.w) X.A X.env xe → PSs (X.tr pn xe) body (tS G (fm X) W mb))
    (hh : HdsOkA X n (h₀ :: hds) (hs.map (heOf X G i))) : PS X (.Try body (h₀ :: hds) [] [] pos) (tS G (fm X) W (mTry nc i hs mb)) := by
  refine PS_imp (ps_try_manyA (tb := fun W => tS G (fm X) (fun c d σ H => σ.length = X.N.length → W c d σ H) mb) hst hf hN hi hln tk (fun W pn xe t ps => hb _ pn xe (takes_len t) ps) hh) fun D σ H ⟨ρ, S, ls, T, h⟩ => ?_
  refine ⟨ρ, S, ls, T, Out.sat_mono (fun _ _ z => z) (fun e L S1 z ρ1 H1 σ1 x1 T1 cls d re hl => ?_) (tryX_sat h)⟩
  exact hRun_ok hk hx hnm x1 T1 (by rw [hl]; exact (List.getElem?_eq_some_iff.mp hi).1) re z
end

end Sh

end

noncomputable section
namespace Sh
open PySem PySem.Spec PyProof.Rows L2
/-! ### the drawn stream: _law_stream, _law_draw -/
abbrev rAddI : R2 := rI0 fun i j => .int (i + j)
abbrev rMulI : R2 := rI CMul fun i j => .int (i * j)
abbrev rModI : R2 := rI (fun _ j => 0 < j) fun i j => .int (i % j)
abbrev rDivI : R2 := rI CDiv fun i j => .int (i / j)
abbrev rPowI : R2 := rI CPow fun i j => .int (i ^ j.toNat)
abbrev rAbs : List V → Hp → VK → Prop := fun xs H Q => ∃ i, xs = [.int i] ∧ Q (.int (if i < 0 then -i else i)) H
abbrev rInt1 : List V → Hp → VK → Prop := fun xs H Q => (∃ i, xs = [.int i] ∧ Q (.int i) H) ∨ ∃ k, xs = [.bl k] ∧ Q (.int (if k then 1 else 0)) H
abbrev tIx (K : PySem.W.Frag) (i : Int) : TE := tOp (rIx K) (tVar 0) (tC (.int i))
abbrev tInt (t : TE) : TE := tCB rInt1 (tCons t tNil)
abbrev sSt (te : TE) (i : Int) : TS := tAsg te (L2.gSub (tVar 0) (tC (.int i)) rSetL)
def drTest (K : PySem.W.Frag) : TT := tAnd (tTest (tOp rEq (tIx K 1) (tC (.int 0)))) (tTest (tOp (rNeD K) (tIx K 0) (tLst tNil)))
def drBody (K : PySem.W.Frag) : TS :=
  tSeq (tAsg (tCB rAbs (tCons (tBM K "list" rPopAt (tIx K 0) (tCons (tC (.int 0)) tNil)) tNil)) (gName 2)) <|
  tSeq (sSt (tOp rModI (tInt (tOp rAddI (tOp rAddI (tOp rMulI (tIx K 3) (tC (.int 8191))) (tVar 2)) (tC (.int 3)))) (tC (.int 2147483647))) 3)
    (sSt (tIf (tTest (tOp (rI0 fun i j => .bl (decide (j ≤ i))) (tVar 2) (tOp rPowI (tC (.int 10)) (tC (.int 18))))) (tVar 2) (tC (.int 0))) 1)
def t_draw (K : PySem.W.Frag) : TS :=
  tSeq (sSt (tOp rAddI (tIx K 2) (tC (.int 1))) 2) <|
  tSeq (tWhile (drTest K) (drBody K)) <|
  tSeq (tIfS (tTest (tOp (rI0 fun i j => .bl (decide (j < i))) (tIx K 1) (tC (.int 0))))
    (tSeq (tAsg (tOp rModI (tInt (tIx K 1)) (tVar 1)) (gName 3)) (tSeq (sSt (tOp rDivI (tIx K 1) (tVar 1)) 1) (tRet (tVar 3)))) tNext) <|
  tSeq (tAsg (tOp rModI (tInt (tOp rPowI (tOp rAddI (tOp rAddI (tIx K 3) (tOp rMulI (tC (.int 7919)) (tIx K 2))) (tC (.int 104729))) (tC (.int 5)))) (tC (.int 2147483629))) (gName 4))
    (tRet (tOp rModI (tOp rModI (tInt (tOp rPowI (tOp rAddI (tOp rAddI (tOp rMulI (tVar 4) (tC (.int 48271))) (tOp rMulI (tC (.int 30011)) (tIx K 2))) (tC (.int 29))) (tC (.int 3)))) (tC (.int 1000000007))) (tVar 1)))
/-- the stream at a, its script's rest at l -/
structure SAt (H : Hp) (a l : Addr) (d c m : Int) (xs : List Int) : Prop where
  ha : H a = some (.lst [.ref l, .int d, .int c, .int m])
  hl : H l = some (.lst (xs.map V.int))
  d0 : 0 ≤ d
  m0 : 0 ≤ m
  m1 : m < 2147483647
/-- nothing else is changed -/
def Oth (a l : Addr) (H H' : Hp) : Prop := ∀ b o, b ≠ a → b ≠ l → H b = some o → H' b = some o
theorem SAt.ne {H : Hp} {a l : Addr} {d c m : Int} {xs : List Int} (s : SAt H a l d c m xs) : l ≠ a := fun z => by
  have h := s.hl
  rw [z, s.ha] at h
  injection h with h
  injection h with h
  cases xs with
  | nil => cases h
  | cons x r => injection h with h1 h2; cases h1
theorem ixL {K : PySem.W.Frag} {H : Hp} {a : Addr} {xs : List V} {i : Int} {v : V} {Q : VK} (ha : H a = some (.lst xs)) (hv : atI xs i = some v) (q : Q v H) : rIx K (.ref a) (.int i) H Q := .inl ⟨a, xs, i, v, rfl, rfl, SqL.of ha, hv, q⟩
section
variable {K : PySem.W.Frag} {σ : L2.St} {H : Hp} {a l : Addr} {d c m : Int} {xs : List Int}
theorem tIx_ok {i : Int} {v : V} {Q : VK} (hs : σ[0]? = some (some (.ref a))) (s : SAt H a l d c m xs) (hv : atI [V.ref l, .int d, .int c, .int m] i = some v) (q : Q v H) : tIx K i σ H Q := ⟨_, hs, ixL s.ha hv q⟩
theorem SAt.set1 (s : SAt H a l d c m xs) {d' : Int} (h : 0 ≤ d') : SAt (upd H a (.lst [.ref l, .int d', .int c, .int m])) a l d' c m xs := ⟨upd_same, by rw [upd_ne s.ne]; exact s.hl, h, s.m0, s.m1⟩
theorem SAt.set2 (s : SAt H a l d c m xs) {c' : Int} : SAt (upd H a (.lst [.ref l, .int d, .int c', .int m])) a l d c' m xs := ⟨upd_same, by rw [upd_ne s.ne]; exact s.hl, s.d0, s.m0, s.m1⟩
theorem SAt.set3 (s : SAt H a l d c m xs) {m' : Int} (h0 : 0 ≤ m') (h1 : m' < 2147483647) : SAt (upd H a (.lst [.ref l, .int d, .int c, .int m'])) a l d c m' xs := ⟨upd_same, by rw [upd_ne s.ne]; exact s.hl, s.d0, h0, h1⟩
theorem SAt.new (s : SAt H a l d c m xs) {p : Addr} {o : HO} (hp : H p = none) : SAt (upd H p o) a l d c m xs := ⟨by rw [upd_ne (ne_of_none s.ha hp)]; exact s.ha, by rw [upd_ne (ne_of_none s.hl hp)]; exact s.hl, s.d0, s.m0, s.m1⟩
theorem SAt.pop {x : Int} (s : SAt H a l d c m (x :: xs)) : SAt (upd H l (.lst (xs.map V.int))) a l d c m xs := ⟨by rw [upd_ne (Ne.symm s.ne)]; exact s.ha, upd_same, s.d0, s.m0, s.m1⟩
theorem Oth.refl : Oth a l H H := fun _ _ _ _ h => h
theorem Oth.set {H' : Hp} (o : Oth a l H H') {u : HO} : Oth a l H (upd H' a u) := fun b w h1 h2 h => by rw [upd_ne h1]; exact o b w h1 h2 h
theorem Oth.pop {H' : Hp} (o : Oth a l H H') {u : HO} : Oth a l H (upd H' l u) := fun b w h1 h2 h => by rw [upd_ne h2]; exact o b w h1 h2 h
theorem Oth.new {H' : Hp} (o : Oth a l H H') {p : Addr} {u : HO} (hp : H' p = none) : Oth a l H (upd H' p u) := fun b w h1 h2 h => by
  have := o b w h1 h2 h
  rw [upd_ne (ne_of_none this hp)]; exact this
theorem dpInts {K : PySem.W.Frag} {H : Hp} : ∀ xs : List Int, DpAll K H (xs.map V.int) (xs.map PyData.int)
  | [] => .nil
  | x :: r => .cons (.int x) (dpInts r)
theorem shapedInts : ∀ xs : List Int, SeqAt.shaped (.list (xs.map PyData.int)) = true := by
  intro xs
  unfold SeqAt.shaped
  induction xs with
  | nil => rfl
  | cons x r ih => first | exact ih | simpa using ih
theorem ne_nil : ∀ xs : List Int, PyData.eqv (.list (xs.map PyData.int)) (.list []) = xs.isEmpty := by
  intro xs
  cases xs <;> rfl
end
def spDraw : Sp := fun vs H Q _ => ∃ (a l : Addr) (d m n : Int) (c : Nat) (xs : List Int), vs = [.ref a, .int n] ∧ SAt H a l d c m xs ∧ c < 1000000 ∧ 0 < n ∧ n < 1073741824 ∧
  ∀ (i : Int) (H' : Hp), 0 ≤ i → i < n → (∃ (d' m' : Int) (xs' : List Int), SAt H' a l d' ((c + 1 : Nat) : Int) m' xs') → Oth a l H H' → Q (.int i) H'
theorem iteT_of {k : Bool} {A B : Prop} (e : k = true) (h : A) : if k = true then A else B := by rw [if_pos e]; exact h
theorem iteF_of {k : Bool} {A B : Prop} (e : k = false) (h : B) : if k = true then A else B := by rw [e, if_neg Bool.false_ne_true]; exact h
def lenL : Option HO → Nat
  | some (.lst ys) => ys.length
  | _ => 0
theorem lenL_at {o : Option HO} {xs : List Int} (h : o = some (.lst (xs.map V.int))) : lenL o = xs.length := by rw [h]; simp [lenL]
theorem mod_lt {i j : Int} (h : 0 < j) : 0 ≤ i % j ∧ i % j < j := ⟨Int.emod_nonneg _ (by omega), Int.emod_lt_of_pos _ h⟩
theorem pure_draw {K : PySem.W.Frag} (vs : List V) (H0 : Hp) (Q : VK) (E : XK) (h : spDraw vs H0 Q E) : t_draw K { nx := fun _ H' => Q .non H', rt := Q } (L2.start ["stream", "many", "cell", "digit", "mixed"] vs) H0 := by
  obtain ⟨a, l, d0, m0, n, c, xs0, rfl, s0, hc, hn0, hn1, hq⟩ := h
  have hs0 : (L2.start ["stream", "many", "cell", "digit", "mixed"] [V.ref a, V.int n])[0]? = some (some (.ref a)) := rfl
  have hs1 : (L2.start ["stream", "many", "cell", "digit", "mixed"] [V.ref a, V.int n])[1]? = some (some (.int n)) := rfl
  have hlen : (L2.start ["stream", "many", "cell", "digit", "mixed"] [V.ref a, V.int n]).length = 5 := rfl
  generalize L2.start ["stream", "many", "cell", "digit", "mixed"] [V.ref a, V.int n] = σ0 at hs0 hs1 hlen
  refine tIx_ok hs0 s0 (i := 2) rfl ⟨c, 1, rfl, rfl, ?_⟩
  refine ⟨_, hs0, a, _, 2, 2, rfl, rfl, s0.ha, rfl, ?_⟩
  show tSeq (tWhile (drTest K) (drBody K)) _ _ σ0 (upd H0 a (.lst [.ref l, .int d0, .int ((c : Int) + 1), .int m0]))
  have s1 : SAt (upd H0 a (.lst [.ref l, .int d0, .int ((c : Int) + 1), .int m0])) a l d0 ((c : Int) + 1) m0 xs0 := s0.set2
  have o1 : Oth a l H0 (upd H0 a (.lst [.ref l, .int d0, .int ((c : Int) + 1), .int m0])) := Oth.refl.set
  generalize upd H0 a (.lst [.ref l, .int d0, .int ((c : Int) + 1), .int m0]) = H1 at s1 o1
  -- the loop
  refine ⟨fun k σ H => k = lenL (H l) ∧ σ[0]? = some (some (.ref a)) ∧ σ[1]? = some (some (.int n)) ∧ σ.length = 5 ∧ Oth a l H0 H ∧ ∃ d m xs, SAt H a l d ((c : Int) + 1) m xs,
    ⟨_, rfl, hs0, hs1, hlen, o1, _, _, _, s1⟩, ?_⟩
  · rintro _ σ H ⟨rfl, h0, h1, hl, o, d, m, xs, s⟩
    -- after the loop
    have after : ∀ {H : Hp} {d m : Int} {xs : List Int}, Oth a l H0 H → SAt H a l d ((c : Int) + 1) m xs →
        (tSeq (tIfS (tTest (tOp (rI0 fun i j => .bl (decide (j < i))) (tIx K 1) (tC (.int 0))))
          (tSeq (tAsg (tOp rModI (tInt (tIx K 1)) (tVar 1)) (gName 3)) (tSeq (sSt (tOp rDivI (tIx K 1) (tVar 1)) 1) (tRet (tVar 3)))) tNext) <|
        tSeq (tAsg (tOp rModI (tInt (tOp rPowI (tOp rAddI (tOp rAddI (tIx K 3) (tOp rMulI (tC (.int 7919)) (tIx K 2))) (tC (.int 104729))) (tC (.int 5)))) (tC (.int 2147483629))) (gName 4))
          (tRet (tOp rModI (tOp rModI (tInt (tOp rPowI (tOp rAddI (tOp rAddI (tOp rMulI (tVar 4) (tC (.int 48271))) (tOp rMulI (tC (.int 30011)) (tIx K 2))) (tC (.int 29))) (tC (.int 3)))) (tC (.int 1000000007))) (tVar 1))))
        { nx := fun _ H' => Q .non H', rt := Q } σ H := by
      intro H d m xs o s
      refine tIx_ok h0 s (i := 1) rfl ⟨_, _, rfl, rfl, _, rfl, ?_⟩
      by_cases hd : 0 < d
      · refine iteT_of (decide_eq_true hd) ?_
        refine tIx_ok h0 s (i := 1) rfl (.inl ⟨_, rfl, _, h1, _, _, rfl, rfl, hn0, ?_⟩)
        have m3 := mod_lt (i := d) hn0
        refine tIx_ok (σ := σ.set 3 (some (.int (d % n)))) (by rw [List.getElem?_set_ne (by decide)]; exact h0) s (i := 1) rfl ⟨_, by rw [List.getElem?_set_ne (by decide)]; exact h1, _, _, rfl, rfl, ⟨hn0, hn1⟩, ?_⟩
        refine ⟨_, by rw [List.getElem?_set_ne (by decide)]; exact h0, a, _, 1, 1, rfl, rfl, s.ha, rfl, ?_⟩
        refine ⟨_, by rw [List.getElem?_set_self (by omega)], ?_⟩
        refine hq _ _ m3.1 m3.2 ⟨d / n, m, xs, ?_⟩ o.set
        have := s.set1 (d' := d / n) (Int.ediv_nonneg s.d0 (by omega))
        exact_mod_cast this
      · refine iteF_of (decide_eq_false hd) ?_
        refine tIx_ok h0 s (i := 3) rfl ?_
        refine tIx_ok h0 s (i := 2) rfl ⟨_, _, rfl, rfl, .inl ⟨by decide, by decide⟩, ?_⟩
        refine ⟨_, _, rfl, rfl, _, _, rfl, rfl, _, _, rfl, rfl, ⟨by decide, by decide, ?_⟩, ?_⟩
        · have e1 := s.m0
          have e2 := s.m1
          have : 0 ≤ m + 7919 * ((c : Int) + 1) + 104729 := by omega
          omega
        refine .inl ⟨_, rfl, _, _, rfl, rfl, (show (0 : Int) < 2147483629 by decide), ?_⟩
        have m4 := mod_lt (i := (m + 7919 * ((c : Int) + 1) + 104729) ^ (5 : Int).toNat) (j := 2147483629) (by decide)
        refine ⟨_, by rw [List.getElem?_set_self (by omega)], _, _, rfl, rfl, .inr ⟨by decide, by decide⟩, ?_⟩
        refine tIx_ok (by rw [List.getElem?_set_ne (by decide)]; exact h0) s (i := 2) rfl ⟨_, _, rfl, rfl, .inl ⟨by decide, by decide⟩, ?_⟩
        refine ⟨_, _, rfl, rfl, _, _, rfl, rfl, _, _, rfl, rfl, ⟨by decide, by decide, ?_⟩, ?_⟩
        · generalize ((m + 7919 * ((c : Int) + 1) + 104729) ^ (5 : Int).toNat) % 2147483629 = mx at m4 ⊢
          have : 0 ≤ mx * 48271 + 30011 * ((c : Int) + 1) + 29 := by omega
          omega
        refine .inl ⟨_, rfl, _, _, rfl, rfl, (show (0 : Int) < 1000000007 by decide), ?_⟩
        refine ⟨_, by rw [List.getElem?_set_ne (by decide)]; exact h1, _, _, rfl, rfl, hn0, ?_⟩
        refine hq _ _ (mod_lt hn0).1 (mod_lt hn0).2 ⟨d, m, xs, ?_⟩ o
        exact_mod_cast s
    have hμ : lenL (H l) = xs.length := lenL_at s.hl
    -- the test
    refine tIx_ok h0 s (i := 1) rfl ⟨rfl, _, rfl, ?_⟩
    by_cases hd : d = 0
    · subst hd
      refine iteT_of (decide_eq_true rfl) ?_
      refine tIx_ok h0 s (i := 0) rfl ⟨by decide, fun p hp => ?_⟩
      have s2 := s.new (o := .lst []) hp
      have o2 := o.new (u := .lst []) hp
      refine ⟨.list (xs.map PyData.int), .list [], .lst (SqL.of s2.hl) (dpInts xs), .lst (SqL.of upd_same) .nil, shapedInts xs, rfl, _, rfl, ?_⟩
      rw [ne_nil]
      cases xs with
      | nil => exact iteF_of rfl (after o2 s2)
      | cons x r =>
        refine iteT_of rfl ⟨fun σ' H' => (σ'[0]? = some (some (.ref a)) ∧ σ'[1]? = some (some (.int n)) ∧ σ'.length = 5 ∧ Oth a l H0 H' ∧ ∃ d m xs, SAt H' a l d ((c : Int) + 1) m xs) ∧
            lenL (H' l) < lenL (H l), fun σ' H' ⟨p1, p2⟩ => ⟨_, p2, rfl, p1⟩, ?_⟩
        -- the body
        refine tIx_ok h0 s2 (i := 0) rfl ⟨.inl ⟨rfl, _, SqL.of s2.hl⟩, ?_⟩
        refine ⟨l, _, 0, 0, .int x, rfl, rfl, s2.hl, by decide, by decide, by simp [seqIndex?], rfl, x, rfl, ?_⟩
        have s3 : SAt (upd (upd H p (.lst [])) l (.lst (((x :: r).map V.int).eraseIdx 0))) a l 0 ((c : Int) + 1) m r := s2.pop
        have o3 : Oth a l H0 (upd (upd H p (.lst [])) l (.lst (((x :: r).map V.int).eraseIdx 0))) := o2.pop
        generalize upd (upd H p (.lst [])) l (.lst (((x :: r).map V.int).eraseIdx 0)) = H3 at s3 o3
        have hab : 0 ≤ (if x < 0 then -x else x) := by split <;> omega
        generalize (if x < 0 then -x else x) = cell at hab
        have k0 : (σ.set 2 (some (.int cell)))[0]? = some (some (.ref a)) := by rw [List.getElem?_set_ne (by decide)]; exact h0
        have k2 : (σ.set 2 (some (.int cell)))[2]? = some (some (.int cell)) := by rw [List.getElem?_set_self (by omega)]
        refine tIx_ok k0 s3 (i := 3) rfl ⟨_, _, rfl, rfl, .inr ⟨by decide, by decide⟩, ?_⟩
        refine ⟨_, k2, _, _, rfl, rfl, _, _, rfl, rfl, .inl ⟨_, rfl, _, _, rfl, rfl, (show (0 : Int) < 2147483647 by decide), ?_⟩⟩
        have m6 := mod_lt (i := m * 8191 + cell + 3) (j := 2147483647) (by decide)
        refine ⟨_, k0, a, _, 3, 3, rfl, rfl, s3.ha, rfl, ?_⟩
        have s4 := s3.set3 m6.1 m6.2
        have o4 : Oth a l H0 (upd H3 a (.lst [.ref l, .int 0, .int ((c : Int) + 1), .int ((m * 8191 + cell + 3) % 2147483647)])) := o3.set
        have fin : ∀ d' : Int, 0 ≤ d' → L2.gSub (tVar 0) (tC (.int 1)) rSetL (.int d') (σ.set 2 (some (.int cell))) (upd H3 a (.lst [.ref l, .int 0, .int ((c : Int) + 1), .int ((m * 8191 + cell + 3) % 2147483647)])) (fun σ' H' => (σ'[0]? = some (some (.ref a)) ∧ σ'[1]? = some (some (.int n)) ∧ σ'.length = 5 ∧ Oth a l H0 H' ∧ ∃ d m xs, SAt H' a l d ((c : Int) + 1) m xs) ∧
            lenL (H' l) < lenL (H l)) := fun d' hd' => by
          refine ⟨_, k0, a, _, 1, 1, rfl, rfl, s4.ha, rfl, ⟨k0, by rw [List.getElem?_set_ne (by decide)]; exact h1, by rw [List.length_set]; exact hl, o4.set, _, _, _, s4.set1 hd'⟩, ?_⟩
          rw [hμ]
          refine Nat.lt_of_le_of_lt (Nat.le_of_eq (lenL_at (s4.set1 hd').hl)) ?_
          simp
        refine ⟨_, k2, _, _, rfl, rfl, ⟨by decide, by decide, by decide⟩, _, _, rfl, rfl, _, rfl, ?_⟩
        by_cases hb : (10 : Int) ^ (18 : Int).toNat ≤ cell
        · refine iteT_of (decide_eq_true hb) ⟨_, k2, fin _ hab⟩
        · exact iteF_of (decide_eq_false hb) (fin 0 (by decide))
    · refine iteF_of (decide_eq_false (by simpa using hd)) (after o s)
end Sh

end

noncomputable section
namespace Sh
open PySem PySem.Spec PyProof.Rows L2 LamX
section
variable {G : Gd} {ρ : List Addr} {S : Sto} {H : Hp}
/-- a new object, and what the store does not hold -/
theorem Rel.newK {H' : Hp} {p : Addr} {ao : AO} (R : Rel G ρ S H) (hs : S.ok = true) (hp : H p = none) (k : ∀ b o, H b = some o → H' b = some o) (hc : ao.isCell = false) (ho : OR G (ρ ++ [p]) H' p ao) (hns : ao.isStrm = false := by rfl) :
    Rel G (ρ ++ [p]) (S.new ao) H' ∧ Ext ρ H (ρ ++ [p]) H' := by
  have x : Ext ρ H (ρ ++ [p]) H' := ⟨⟨[p], rfl⟩, fun a u h _ => k a u h⟩
  have hlt : S.n < 1000000000 := Nat.le_of_ble_eq_true hs
  have gn : ∀ {j : Nat}, j ≤ S.n → (S.new ao).get j = if j = S.n then some ao else S.get j := fun {j} h => Sto.get_new (small40 R.lt) (small40 (Nat.le_trans h R.lt))
  have jle : ∀ {j : Nat} {b : Addr}, (ρ ++ [p])[j]? = some b → j ≤ S.n := fun {j b} h => by
    have := (List.getElem?_eq_some_iff.mp h).1
    rw [List.length_append, List.length_singleton, R.len] at this
    omega
  have old : ∀ {j : Nat} {b : Addr} {u : AO}, (ρ ++ [p])[j]? = some b → (S.new ao).get j = some u → (j = S.n ∧ b = p ∧ u = ao) ∨ (ρ[j]? = some b ∧ S.get j = some u ∧ j ≠ S.n) := fun {j b u} h g => by
    rw [gn (jle h)] at g
    rcases get_app h with q | ⟨q, e⟩
    · have hj := (List.getElem?_eq_some_iff.mp q).1
      rw [R.len] at hj
      rw [if_neg (by omega)] at g
      exact .inr ⟨q, g, by omega⟩
    · rw [R.len] at q
      rw [if_pos q] at g
      exact .inl ⟨q, e, (Option.some.inj g).symm⟩
  have hne : ∀ {j : Nat} {b : Addr} {u : AO}, ρ[j]? = some b → S.get j = some u → u.isCell = false → H b ≠ none := fun {j b u} h g hu => by
    have q := R.obj j b u h g
    cases u with
    | lst xs => obtain ⟨_, e, _⟩ := q; rw [e]; exact fun z => by cases z
    | dct kvs => obtain ⟨_, e, _⟩ := q; rw [e]; exact fun z => by cases z
    | dtp kvs => obtain ⟨_, e, _⟩ := q; rw [e]; exact fun z => by cases z
    | ldk kvs => obtain ⟨_, _, e, _⟩ := q; rw [e]; exact fun z => by cases z
    | ins c fs => obtain ⟨_, _, e, _⟩ := q; rw [e]; exact fun z => by cases z
    | cell v => cases hu
    | strm c => obtain ⟨_, ⟨_, _, _, e, _⟩, _⟩ := q; rw [e]; exact fun z => by cases z
  refine ⟨⟨?_, ?_, fun i j a u u' hi hj gi gj hc' k1 k2 => ?_, fun i a u hi gi => ?_, R.tabs.ext k, fun i j a b c c' hi hj gi gj => ?_⟩, x⟩
  · rw [List.length_append, List.length_singleton, R.len]; rfl
  · show S.n + 1 ≤ _; omega
  · rcases old hi gi with ⟨e1, e2, e3⟩ | ⟨h1, g1, n1⟩ <;> rcases old hj gj with ⟨f1, f2, f3⟩ | ⟨h2, g2, n2⟩
    · rw [e1, f1]
    · exfalso
      rw [e3, hc] at hc'
      exact hne h2 g2 hc'.symm (by rw [e2]; exact hp)
    · exfalso
      rw [f3, hc] at hc'
      exact hne h1 g1 hc' (by rw [f2]; exact hp)
    · exact R.nd i j a u u' h1 h2 g1 g2 hc' k1 k2
  · rcases old hi gi with ⟨_, e2, e3⟩ | ⟨h1, g1, _⟩
    · rw [e2, e3]; exact ho
    · refine (R.obj i a u h1 g1).mono x (show Keep none H H' from fun b u _ h => k b u h) (fun _ z => by cases z) (fun _ _ _ _ z => by cases z) fun j b h => ?_
      rcases get_app h with q | ⟨_, e⟩
      · exact .inl q
      · rw [e]; exact .inr hp
  · rcases old hi gi with ⟨_, _, e3⟩ | ⟨h1, g1, _⟩
    · rw [← e3] at hns; cases hns
    · rcases old hj gj with ⟨_, _, e3⟩ | ⟨h2, g2, _⟩
      · rw [← e3] at hns; cases hns
      · exact R.one i j a b c c' h1 h2 g1 g2
end
section
variable {X : Cx} {G : Gd} {W : WX} {F : Fm} {ma : EM} {a e : Expr} {pos : Pos}
/-! ### {}, list(d.items()) -/
def mDnew : EM := fun _ S => match S.ok with
  | true => .ok (.ref S.n) (S.new (.dct []))
  | false => .bad
theorem me_dnew : PE X (.Dict [] [] pos) (tE G F W mDnew) := PE_imp pe_dnewK fun σ H Q ⟨ρ, S, ls, T, h⟩ => by
  unfold mDnew at h
  cases q : S.ok with
  | false => rw [q] at h; exact h.elim
  | true =>
    rw [q] at h
    intro p hp
    obtain ⟨T2, x2⟩ := T.new (o := .dK []) (ao := .dct []) q hp rfl ⟨[], upd_same, rfl⟩
    refine h _ _ x2 T2 _ ?_
    unfold RV
    exact ⟨p, by rw [← T.rel.len]; simp, rfl⟩
def mItems (m : EM) : EM := fun ls S => (m ls S).bind fun v S1 => match v with
  | .ref i => match S1.get i with
    | some (.dct []) => newL [] S1
    | _ => .bad
  | _ => .bad
theorem me_items {p apos cpos : Pos} {x : Str} (hx : x = "list") (hc : X.calm = true) (he : PE X e (tE G F W ma)) (hm : X.mg "list" = none) (hg : Gl X "list" := by rfl) (hbase : attributeBase e "items" X.env (eval e X.env) = eval e X.env := by rfl) (hline : (apos.endLine == cpos.line) = true := by rfl)
    (hs : starEach [.Call (.Attribute e "items" apos) [] [] cpos] X.env = (false,
        eval (.Call (.Attribute e "items" apos) [] [] cpos) X.env) :: starEach [] X.env := by rfl) :
    PE X (.Call (.Name x p) [.Call (.Attribute e "items" apos) [] [] cpos] [] pos) (tE G F W (mItems ma)) := by
  subst hx
  refine PE_imp (LiI.pe_listItems hc he hg hm (by rfl) hbase hline hs) fun σ H Q ⟨ρ, S, ls, T, h⟩ => ?_
  refine tE_bind T h fun v S1 ρ1 H1 x h1 x1 T1 r1 => ?_
  split at h1
  · rename_i i
    unfold RV at r1
    obtain ⟨q, hq, rfl⟩ := r1
    split at h1
    · rename_i hg2
      obtain ⟨ps, e1, kr⟩ := T1.rel.obj i q _ hq hg2
      unfold KR at kr
      subst kr
      refine ⟨q, [], rfl, e1, fun H' p ts k hp _ _ hl hpr => ?_⟩
      have e2 : ts = [] := by cases hpr; rfl
      subst e2
      unfold newL at h1
      cases q2 : S1.ok with
      | false => rw [q2] at h1; exact h1.elim
      | true =>
        rw [q2] at h1
        obtain ⟨R, x2⟩ := T1.rel.newK (ao := .lst []) q2 hp k rfl ⟨[], hl, by unfold RVs; rfl⟩
        refine h1 _ _ (x1.trans x2) (T1.newC q2 (fun _ z => by cases z) x2 R) _ ?_
        unfold RV
        exact ⟨p, by rw [← T1.rel.len]; simp, rfl⟩
    · exact h1.elim
  · exact h1.elim
end
/-! ### the stream's defs -/
section
variable {P : Program} {w : World} {K : PySem.W.Frag} {mg : Str → Option Value} {base : Heap} {G : Gd}
def drawF : Fn := fun xs S => match xs with
  | [.ref i, .int (.ofNat n)] => match S.get i with
    | some (.strm c) => match Nat.blt c 1000000, Nat.blt 0 n, Nat.blt n 1073741824 with
      | true, true, true => .dr n fun d => .ok (.int d) (S.put i (.strm (c + 1)))
      | _, _, _ => .bad
    | _ => .bad
  | _ => .bad
theorem draw_sp {vs : List V} {H : Hp} {Q : VK} {E : XK} (h : SPf G 2 drawF vs H Q E) : spDraw vs H Q E := by
  obtain ⟨ρ, S, xs, R, KA, r, hlen, h⟩ := h
  unfold drawF at h
  split at h
  · rename_i i n
    obtain ⟨v, w, rfl, rv, rw_⟩ := rvs2 r
    unfold RV at rv rw_
    obtain ⟨a, ha, rfl⟩ := rv
    subst rw_
    split at h
    · rename_i c hg
      obtain ⟨l, ⟨d, m, xs, h1, h2, d0, m0, m1⟩, hn⟩ := R.obj i a _ ha hg
      split at h
      · rename_i q1 q2 q3
        refine ⟨a, l, d, m, ((n : Nat) : Int), c, xs, rfl, ⟨h1, h2, d0, m0, m1⟩, Nat.le_of_ble_eq_true q1, by have := Nat.le_of_ble_eq_true q2; omega, by have := Nat.le_of_ble_eq_true q3; omega, fun j H' j0 j1 ⟨d', m', xs', s⟩ o => ?_⟩
        have hj := h j j0 j1
        have x : Ext ρ H ρ H' := ⟨⟨[], by simp⟩, fun b u hb im => o b u (fun z => by rw [z, h1] at hb; cases hb; exact im) (fun z => by rw [z, h2] at hb; cases hb; exact im) hb⟩
        have gp : ∀ {j : Nat} {b : Addr}, ρ[j]? = some b → (S.put i (.strm (c + 1))).get j = if j = i then some (.strm (c + 1)) else S.get j := fun {j b} h => Sto.get_put (R.ilt ha) (R.ilt h)
        have fix : ∀ {j : Nat} {b : Addr} {u : AO}, ρ[j]? = some b → (S.put i (.strm (c + 1))).get j = some u → ∃ u0, S.get j = some u0 ∧ u0.isCell = u.isCell ∧ u0.isStrm = u.isStrm ∧ (u ≠ .cell none → u0 ≠ .cell none) := fun {j b u} h g => by
          rw [gp h] at g
          by_cases e : j = i
          · rw [if_pos e] at g
            cases g
            exact ⟨.strm c, by rw [e]; exact hg, rfl, rfl, fun _ z => by cases z⟩
          · rw [if_neg e] at g
            exact ⟨u, g, rfl, rfl, fun z => z⟩
        refine hj ρ H' x ⟨R.len, R.lt, fun p q b u u' hp hq gp' gq hc k1 k2 => ?_, fun p b u hp gu => ?_, fun p hp => ?_, fun p q b b' c1 c2 hp hq g1 g2 => ?_⟩ (fun p b v hp gv => by
          rw [gp hp] at gv
          by_cases e : p = i
          · rw [if_pos e] at gv; cases gv
          · rw [if_neg e] at gv; exact (KA p b v hp gv).mono x) _ rv_int
        · obtain ⟨u0, e1, e2, _, e4⟩ := fix hp gp'
          obtain ⟨u1, f1, f2, _, f4⟩ := fix hq gq
          exact R.nd p q b u0 u1 hp hq e1 f1 (by rw [e2, f2, hc]) (e4 k1) (f4 k2)
        · rw [gp hp] at gu
          by_cases e : p = i
          · rw [if_pos e] at gu
            cases gu
            rw [e, ha] at hp
            cases hp
            exact ⟨l, ⟨d', m', xs', s.ha, s.hl, s.d0, s.m0, s.m1⟩, hn⟩
          · rw [if_neg e] at gu
            have ob := R.obj p b u hp gu
            have nba : b ≠ a ∨ u.isStrm = true ∨ u.isCell = true := by
              by_cases z : b = a
              · rw [z] at hp
                refine .inr ?_
                cases u with
                | strm c => exact .inl rfl
                | cell v => exact .inr rfl
                | _ => exact absurd (R.nd p i a _ _ hp ha gu hg rfl (fun z => by cases z) fun z => by cases z) e
              · exact .inl z
            have nbl : b ≠ l := fun z => hn p (by rw [← z]; exact hp)
            cases u with
            | strm c' => exact absurd (R.one p i b a c' c hp ha gu hg) e
            | cell v => trivial
            | lst ys =>
              obtain ⟨ws, w1, w2⟩ := ob
              exact ⟨ws, o b _ (nba.elim id fun z => z.elim (fun z => by cases z) (fun z => by cases z)) nbl w1, w2.mono x ys⟩
            | dct kvs =>
              obtain ⟨ws, w1, w2⟩ := ob
              exact ⟨ws, o b _ (nba.elim id fun z => z.elim (fun z => by cases z) (fun z => by cases z)) nbl w1, w2.mono x⟩
            | dtp kvs =>
              obtain ⟨ws, w1, w2⟩ := ob
              exact ⟨ws, o b _ (nba.elim id fun z => z.elim (fun z => by cases z) (fun z => by cases z)) nbl w1, w2.mono x⟩
            | ldk kvs =>
              obtain ⟨ob', ws, w1, w2⟩ := ob
              exact ⟨ob', ws, o b _ (nba.elim id fun z => z.elim (fun z => by cases z) (fun z => by cases z)) nbl w1, w2.mono x⟩
            | ins cc fs =>
              obtain ⟨dx, ws, w1, w2⟩ := ob
              exact ⟨dx, ws, o b _ (nba.elim id fun z => z.elim (fun z => by cases z) (fun z => by cases z)) nbl w1, w2.mono x⟩
        · obtain ⟨ps, t1, t2, t3⟩ := R.tabs p hp
          refine ⟨ps, o _ _ (fun z => ?_) (fun z => ?_) t1, t2, fun pos cv hcv => ?_⟩
          · rw [z, h1] at t1; cases t1
          · rw [z, h2] at t1; cases t1
          · obtain ⟨cc, e1, e2⟩ := t3 pos cv hcv
            exact ⟨cc, e1, x.imm _ _ e2 trivial⟩
        · obtain ⟨u0, e1, _, e3, _⟩ := fix hp g1
          obtain ⟨u1, f1, _, f3, _⟩ := fix hq g2
          cases u0 with
          | strm k0 => cases u1 with
            | strm k1 => exact R.one p q b b' k0 k1 hp hq e1 f1
            | _ => cases f3
          | _ => cases e3
      · exact h.elim
    · exact h.elim
  · exact h.elim
def spStream (K : PySem.W.Frag) : Sp := fun vs H Q _ => ∃ (a : Addr) (ns : List Int), vs = [.ref a] ∧ SqL K H a (ns.map V.int) ∧ ∀ l, H l = none → ∀ p, upd H l (.lst (ns.map V.int)) p = none → Q (.ref p) (upd (upd H l (.lst (ns.map V.int))) p (.lst [.ref l, .int 0, .int 0, .int 17]))
abbrev rLst (K : PySem.W.Frag) : List V → Hp → VK → Prop := fun xs H Q => ∃ p ys, xs = [.ref p] ∧ (SqL K H p ys ∨ SqT K H p ys) ∧ ∀ l, H l = none → Q (.ref l) (upd H l (.lst ys))
def t_stream (K : PySem.W.Frag) : TS := tRet (tLst (tCons (tCB (rLst K) (tCons (tVar 0) tNil)) (tCons (tC (.int 0)) (tCons (tC (.int 0)) (tCons (tC (.int 17)) tNil)))))
theorem pure_stream (vs : List V) (H : Hp) (Q : VK) (E : XK) (h : spStream K vs H Q E) : t_stream K { nx := fun _ H' => Q .non H', rt := Q } (L2.start ["script"] vs) H := by
  obtain ⟨a, ns, rfl, hS, q⟩ := h
  exact ⟨.ref a, rfl, a, _, rfl, .inl hS, fun l hl => ⟨by rw [sizeLine_eq]; show 4 ≤ 16777216; decide, fun p hp => q l hl p hp⟩⟩
/-- what the law's store is behind its first row -/
def S1 : Sto := (⟨0, .e⟩ : Sto).new (.strm 0)
theorem S1_get : S1.get 0 = some (.strm 0) := rfl
theorem known_start {G : Gd} {ρ : List Addr} {H : Hp} (hl : ρ.length = 1) : AllKnown G ρ S1 H := fun k a v h g => by
  have := (List.getElem?_eq_some_iff.mp h).1
  have e : k = 0 := by omega
  subst e
  rw [S1_get] at g
  cases g
theorem rel_start {H : Hp} {l p : Addr} {ns : List Int} (hT : Tabs G.T H) (hl : H l = none) (hp : upd H l (.lst (ns.map V.int)) p = none) : Rel G [p] S1 (upd (upd H l (.lst (ns.map V.int))) p (.lst [.ref l, .int 0, .int 0, .int 17])) := by
  have nlp : l ≠ p := fun z => by rw [← z, upd_same] at hp; cases hp
  have i0 : ∀ {i : Nat} {b : Addr}, ([p] : List Addr)[i]? = some b → i = 0 ∧ b = p := fun {i b} h => by
    cases i with
    | zero => simp at h; exact ⟨rfl, h.symm⟩
    | succ i => simp at h
  refine ⟨rfl, by decide, fun i j a u u' hi hj _ _ _ _ _ => by rw [(i0 hi).1, (i0 hj).1], fun i a u hi hg => ?_, ?_, fun i j a b c c' hi hj _ _ => by rw [(i0 hi).1, (i0 hj).1]⟩
  · obtain ⟨rfl, rfl⟩ := i0 hi
    rw [S1_get] at hg
    cases hg
    refine ⟨l, ⟨0, 17, ns, upd_same, by rw [upd_ne nlp, upd_same], by decide, by decide, by decide⟩, fun i e => ?_⟩
    exact nlp (i0 e).2
  · exact tabs_new hp (tabs_new hl hT)
end
end Sh

end

noncomputable section
namespace Sh
open PySem PySem.Spec PyProof.Rows L2 LamX He
/-! ### what a head tells, as Bools -/
def exbB (K : PySem.W.Frag) (C : Addr) : Bool := match K.lookup C with
  | some ⟨.type c, dd, .cls cd, sl⟩ => decide (c = "type") && ((match cd.mro with
      | .ref C' :: bm => decide (C' = C) && PySem.HandSPX.refsVE bm
      | _ => false) && (cd.hasDict && (!cd.hasDel && (match sl.toList with
      | [_, _, _, _, some (.builtin n), _] => decide (n = "ValueError.__new__")
      | _ => false))))
  | _ => false
theorem exbB_ok {K : PySem.W.Frag} {C : Addr} (h : exbB K C = true) : ∃ nm q N bs bm sn sub ab col dd k0 k1 k2 k3 k5, K.lookup C = some (excClassObj nm q C N bs bm true sn sub ab col dd k0 k1 k2 k3 k5 "ValueError.__new__") ∧ PySem.HandSPX.refsVE bm = true := by
  unfold exbB at h
  split at h
  · rename_i c dd cd sl e
    obtain ⟨h1, h2⟩ := ba h
    obtain ⟨h3, h4⟩ := ba h2
    obtain ⟨h5, h6⟩ := ba h4
    obtain ⟨h7, h8⟩ := ba h6
    have e1 := of_decide_eq_true h1
    subst e1
    obtain ⟨nm, bs, mro, ns, qn, hd,
        sn, sub, ab, col, del⟩ := cd
    dsimp only at h3 h5 h7
    split at h3
    · rename_i C' bm
      obtain ⟨g1, g2⟩ := ba h3
      have e2 := of_decide_eq_true g1
      subst e2
      split at h8
      · rename_i k0 k1 k2 k3 n k5 hs
        have e3 := of_decide_eq_true h8
        subst e3
        obtain ⟨l⟩ := sl
        dsimp only at hs
        subst hs
        have e4 : del = false := by cases del <;> simp_all
        subst h5 e4
        exact ⟨nm, qn, ns, bs, bm, sn, sub, ab, col, dd, k0, k1, k2, k3, k5, e, g2⟩
      · cases h8
    · cases h3
  · cases h
/-- an own error with a field -/
def oexB (K : PySem.W.Frag) (C fI : Addr) (fld : Str) : Bool := exbB K C && (eqO (PySem.W.findIn K (.ref C) "__setattr__") (some (some (.builtin "object.__setattr__"))) && (eqO (PySem.W.findIn K (.ref C) "__getattribute__") (some (some (.builtin "BaseException.__getattribute__"))) && (eqO (PySem.W.findIn K (.ref C) "__getattr__") (some none) &&
  (eqO (PySem.W.findIn K (.ref C) fld) (some none) && (eqO (PySem.W.findIn K (.ref C) "__init__") (some (some (.ref fI))) && (decide (PySem.W.typeIn K (.ref fI) = some (.type "function")) && (PySem.W.keepIn K (.ref C) && (decide (PySem.W.subIn K (.ref C) (.type "BaseException") = some true) &&
  (decide (PySem.W.typeIn K (.ref C) = some (.type "type")) && (PySem.W.hasDictIn K C && decide (PySem.W.exmOne K (.ref C) (.ref C) = some true)))))))))))
/-- the classes told apart by except -/
def exmB (K : PySem.W.Frag) (ca : Nat → Addr) (n : Nat) : Bool := (List.range n).all fun a => (List.range n).all fun b => decide (PySem.W.exmOne K (.ref (ca a)) (.ref (ca b)) = some (Nat.beq a b)) && (Nat.beq a b || !decide (ca a = ca b))
theorem exmB_ok {G : Gd} {n : Nat} (h : exmB G.K G.ca n = true) : ExmOk G n := fun a b ha hb => by
  have h1 := List.all_eq_true.mp (List.all_eq_true.mp h a (List.mem_range.mpr ha)) b (List.mem_range.mpr hb)
  obtain ⟨h2, h3⟩ := ba h1
  refine ⟨of_decide_eq_true h2, fun e z => ?_⟩
  rw [e] at h3
  simp [z] at h3
def kitB (K : PySem.W.Frag) : Bool := (List.range 7).all fun a => (List.range 7).all fun b => decide (PySem.W.kitOne K (.type (tyN a)) (.type (tyN b)) = some (kitT a b))
theorem kitB_ok {K : PySem.W.Frag} (h : kitB K = true) : KitOk K := fun a b =>
  of_decide_eq_true (List.all_eq_true.mp (List.all_eq_true.mp h a.1 (List.mem_range.mpr a.2)) b.1 (List.mem_range.mpr b.2))
/-! ### a module's dict of texts and ints -/
abbrev Tbl := List (List Nat × AV)
def tblL (s : List Nat) : Tbl → Option AV
  | [] => none
  | (k, v) :: r => match eqL k s with
    | true => some v
    | false => tblL s r
/-- a told value, as it stands there -/
def tvB : AV → Value → Bool
  | .str v, .str u _ => decide (u = toS v)
  | .int i, .int j _ => decide (j = i)
  | _, _ => false
theorem tvB_ok {G : Gd} {v : AV} {u : Value} (h : tvB v u = true) : ∃ x, RelV x u ∧ ∀ ρ H, RV G ρ H v x := by
  unfold tvB at h
  split at h
  · rename_i v u t
    have e := of_decide_eq_true h
    subst e
    exact ⟨.str (toS v), ⟨t, rfl⟩, fun _ _ => rv_str⟩
  · rename_i i j t
    have e := of_decide_eq_true h
    subst e
    exact ⟨.int j, ⟨t, rfl⟩, fun _ _ => rv_int⟩
  · cases h
def tblEs : List DictEntry → Tbl → Bool
  | [], [] => true
  | e :: r, (k, v) :: q => (match e.key with
      | .str k' _ => decide (k' = toS k) && tvB v e.val
      | _ => false) && tblEs r q
  | _, _ => false
def tblB (K : PySem.W.Frag) (d : Addr) (t : Tbl) : Bool := match K.lookup d with
  | some ⟨_, _, .dict es _, _⟩ => tblEs es.toList t
  | _ => false
def TblOk (K : PySem.W.Frag) (d : Addr) (t : Tbl) : Prop := ∀ s, match tblL s t with
  | some v => ∃ u, PySem.W.nsIn K d (toS s) = some (some u) ∧ tvB v u = true
  | none => PySem.W.nsIn K d (toS s) = some none
theorem tblEs_find : ∀ {es : List DictEntry} {t : Tbl} (s : List Nat), tblEs es t = true → (match tblL s t with
    | some v => ∃ e, es.find? (·.key.isStr (toS s)) = some e ∧ tvB v e.val = true
    | none => es.find? (·.key.isStr (toS s)) = none) ∧ es.any (·.refKey) = false
  | [], [], s, _ => ⟨rfl, rfl⟩
  | [], _ :: _, s, h => by cases h
  | _ :: _, [], s, h => by cases h
  | e :: r, (k, v) :: q, s, h => by
    unfold tblEs at h
    obtain ⟨h1, h2⟩ := ba h
    obtain ⟨i1, i2⟩ := tblEs_find s h2
    split at h1
    · rename_i k' t1 ek
      obtain ⟨g1, g2⟩ := ba h1
      have e1 := of_decide_eq_true g1
      subst e1
      have hrk : e.refKey = false := by
        unfold DictEntry.refKey
        rw [ek]
      have his : e.key.isStr (toS s) = eqL k s := by
        rw [ek]
        show (toS k == toS s) = eqL k s
        rw [← toS_dec]
        by_cases z : toS k = toS s <;> simp [z]
      refine ⟨?_, by rw [List.any_cons, hrk, i2]; rfl⟩
      unfold tblL
      cases z : eqL k s with
      | true =>
        refine ⟨e, ?_, g2⟩
        rw [List.find?_cons, his, z]
      | false =>
        have f : (e :: r).find? (·.key.isStr (toS s)) = r.find? (·.key.isStr (toS s)) := by rw [List.find?_cons, his, z]
        rw [f]
        exact i1
    · cases h1
theorem tblB_ok {K : PySem.W.Frag} {d : Addr} {t : Tbl} (h : tblB K d t = true) : TblOk K d t := fun s => by
  unfold tblB at h
  split at h
  · rename_i oc od es n sl e
    obtain ⟨h1, h2⟩ := tblEs_find s h
    unfold PySem.W.nsIn
    rw [e]
    cases q : tblL s t with
    | none =>
      rw [q] at h1
      dsimp only at h1 ⊢
      rw [h1, h2]
      rfl
    | some v =>
      rw [q] at h1
      dsimp only at h1 ⊢
      obtain ⟨en, f1, f2⟩ := h1
      exact ⟨en.val, by rw [f1], f2⟩
  · cases h
section
variable {X : Cx} {G : Gd} {W : WX} {F : Fm}
def fInT (neg : Bool) (j : Nat) (t : Tbl) (x y : AV) (S : Sto) : Out AV := match x, y with
  | .str s, .fn i => match Nat.beq i j with
    | true => .ok (.bl (if neg then !(tblL s t).isSome else (tblL s t).isSome)) S
    | false => .bad
  | _, _ => .bad
theorem os_inT {neg : Bool} {j : Nat} {t : Tbl} (hk : X.K = G.K) (hT : TblOk G.K (G.fa j) t) : OpS G F W (fun x y H Q => ∃ (z : Str) (r : Option Value), x = .str z ∧ y = .ref (G.fa j) ∧ PySem.W.nsIn X.K (G.fa j) z = some r ∧ Q (.bl (if neg then !r.isSome else r.isSome)) H) (fInT neg j t) := fun ρ S ls σ H x y v w Q T rx ry h => by
  unfold fInT at h
  split at h
  · rename_i s i
    unfold RV at rx ry
    cases q : Nat.beq i j with
    | false => rw [q] at h; exact h.elim
    | true =>
      rw [q] at h
      have e := Nat.eq_of_beq_eq_true q
      subst e
      have hs := hT s
      cases q2 : tblL s t with
      | none =>
        rw [q2] at hs h
        exact ⟨toS s, none, rx, ry, by rw [hk]; exact hs, h ρ H (Ext.refl _ _) T _ rv_bl⟩
      | some u =>
        rw [q2] at hs h
        obtain ⟨w, hs, _⟩ := hs
        exact ⟨toS s, _, rx, ry, by rw [hk]; exact hs, h ρ H (Ext.refl _ _) T _ rv_bl⟩
  · exact h.elim
def fIxT (j : Nat) (t : Tbl) (x y : AV) (S : Sto) : Out AV := match x, y with
  | .fn i, .str s => match Nat.beq i j, tblL s t with
    | true, some v => .ok v S
    | _, _ => .bad
  | _, _ => .bad
theorem os_ixT {j : Nat} {t : Tbl} {es : Array DictEntry} {n : Nat} (hk : X.K = G.K) (D : KDict G.K X.w (G.fa j) es n) (hT : TblOk G.K (G.fa j) t) : OpS G F W (rIxD X.K X.w) (fIxT j t) := fun ρ S ls σ H x y v w Q T rx ry h => by
  unfold fIxT at h
  split at h
  · rename_i i s
    unfold RV at rx ry
    cases q : Nat.beq i j with
    | false => rw [q] at h; exact h.elim
    | true =>
      have e := Nat.eq_of_beq_eq_true q
      subst e
      have hs := hT s
      cases q2 : tblL s t with
      | none => rw [q, q2] at h; exact h.elim
      | some u =>
        rw [q2] at hs
        rw [q, q2] at h
        obtain ⟨u', hs, hv⟩ := hs
        obtain ⟨x, rx', rr⟩ := tvB_ok (G := G) hv
        exact ⟨_, toS s, x, rx, ry, ⟨es, n, _, by rw [hk]; exact D.at_, D.lit, by rw [hk]; exact hs, rx'⟩, h ρ H (Ext.refl _ _) T _ (rr _ _)⟩
  · exact h.elim
/-- a module's tuple of texts -/
theorem rv_strs {a : Addr} {ws : List (List Nat)} (h : ∀ H, SqT G.K H a (ws.map fun s => V.str (toS s))) (ρ : List Addr) (H : Hp) : RV G ρ H (.tup (ws.map .str)) (.ref a) := by
  unfold RV
  refine ⟨a, _, rfl, h H, ?_, .inr (by rw [List.all_map]; exact List.all_eq_true.mpr fun _ _ => rfl)⟩
  clear h
  induction ws with
  | nil => unfold RVs; rfl
  | cons s r ih => simp only [List.map_cons]; unfold RVs; exact ⟨_, _, rfl, rv_str, ih⟩
end
/-- a def that is not reached -/
def badF : Fn := fun _ _ => .bad
theorem fn_bad {P : Program} {w : World} {K : PySem.W.Frag} {mg : Str → Option Value} {base : Heap} {CX : CXT} {k n : Nat} {f : Addr} {fd : FuncData} {ps : List Str} {G : Gd} (hn : ps.length = n) : FnOk P w K mg base CX k f fd ps (SPf G n badF) :=
  ⟨fun vs H Q E h => by rw [h.len, hn], fun _ _ _ _ _ _ _ _ _ _ _ _ _ ⟨_, _, _, _, _, _, _, h⟩ => h.elim⟩
end Sh

end

noncomputable section
namespace Sh
open PySem PySem.Spec PyProof.Rows L2 LamX He
section
variable {X : Cx} {F : Fm} {G : Gd} {W : WX} {a b c : Expr} {ma mb mc : EM} {pos : Pos}
theorem me_gl {x : Str} {av : AV} {v : V} {u : Value} (hm : X.mg x = some u) (r : RelV v u) (rv : ∀ ρ H, RV G ρ H av v) (hg : Gl X x := by rfl) (hd : (x == ("__debug__" : Str)) = false := by decide) : PE X (.Name x pos) (tE G F W (mC av)) := me_glob hg hm r rv hd
theorem mt_chain {op op' : CmpOp} {r r' : R2} {f g : AV → AV → Sto → Out AV} (ho : OpR X (compareOp op) r) (ho' : OpR X (compareOp op') r') (hs : OpS G F W r f) (hs' : OpS G F W r' g)
    (ha : PE X a (tE G F W ma)) (hb : PE X b (tE G F W mb)) (hc : PE X c (tE G F W mc)) (hm : lastMarks [op, op'] [b, c] = false := by with_unfolding_all rfl) :
    PT X (.Compare a [op, op'] [b, c] pos) (tT G F W (mTb (mChain f g ma mb mc))) := by
  refine PT_imp (pt_chain ho ho' ha hb hc hm) fun σ H Q ⟨ρ, S, ls, T, h⟩ => ?_
  refine tChain_of hs hs' (tE_bind T h fun v S1 ρ1 H1 x h1 x1 T1 r1 => ?_)
  cases v with
  | bl k =>
    unfold RV at r1
    exact ⟨k, r1, h1 ρ1 H1 x1 T1⟩
  | _ => exact h1.elim
end
theorem codeOf_of {K : PySem.W.Frag} {x qual : Str} {params : Arguments} {body : List Stmt} {scope : Scope} {dvs : List V} {kws : List (Str × V)} {p : Defn} {fd : FuncData} (F : FunD K x qual params body scope dvs kws (fAd K p) fd) : fd.code = .ref (codeOf K p) := by
  obtain ⟨oc, od, dV, kV, doc, pm, an, cdv, ct, osl, rfl, lk, hcd, _, _⟩ :=
      F.ex
  obtain ⟨c, rfl⟩ := codeIn_ref hcd
  rw [codeOf_eq lk rfl]
/-- the law's promise, its first row taken by hand -/
def spLaw (K : PySem.W.Frag) (T : List (Addr × Str)) : Sp := fun vs H Q _ => ∃ (a : Addr) (ns : List Int), vs = [.ref a] ∧ SqL K H a (ns.map V.int) ∧ Tabs T H ∧ ∀ H', Q (.bl true) H'
def lawLo (N : Nat) : Lo := .u :: .v (.ref 0) :: List.replicate (N - 2) .u
theorem lawLo_noC {N : Nat} : ∀ i k a, nth (lawLo N) i ≠ .c k a := by
  intro i k a e
  match i with
  | 0 => cases e
  | 1 => cases e
  | j + 2 =>
    have e : nth (List.replicate (N - 2) LV.u) j = .c k a := e
    rw [nth_eq] at e
    cases q : (List.replicate (N - 2) LV.u)[j]? with
    | none =>
          rw [q] at e; cases e
    | some y =>
      rw [q] at e
      have e : y = .c k a := e
      have m := List.mem_of_getElem? q
      rw [(List.mem_replicate.mp m).2] at e
      cases e
def lawOut (N : Nat) (m : SM) : Out AV := (m (lawLo N) S1).bind fun r S => match r.1 with
  | .rt v => .ok v S
  | _ => .bad
theorem law_pure {P : Program} {w : World} {mg : Str → Option Value} {base : Heap} {G : Gd} {m : SM} {N : List Str} {vs : List V} {H : Hp} {Q : VK} {E : XK} {W : WX} (hN : 2 ≤ N.length) (ht : (lawOut N.length m).allTrue = true) {F : Fm} (h : spLaw G.K G.T vs H Q E) :
    tSeq (tAsg (tCallS (spStream G.K) (WE W) (tCons (tVar 0) tNil)) (gName 1)) (tS G F W m) { nx := fun _ H' => Q .non H', rt := Q } (L2.start N vs) H := by
  obtain ⟨a, ns, rfl, hS, hT, hQ⟩ := h
  refine ⟨.ref a, rfl, a, ns, rfl, hS, fun l hl p hp => ?_⟩
  show tS G F W m _ ((L2.start N [V.ref a]).set 1 (some (.ref p))) _
  have R := rel_start (G := G) (ns := ns) hT hl hp
  obtain ⟨k, hk⟩ : ∃ k, N.length = k + 2 := ⟨N.length - 2, by omega⟩
  refine ⟨[p], S1, lawLo N.length, ⟨R, ?_, fun i => ?_, fun k a v h g => known_start rfl k a v h g, fun i j k a b z => absurd z (lawLo_noC i k a)⟩, ?_⟩
  · unfold lawLo L2.start
    rw [hk]
    simp
  · unfold lawLo
    rw [nth_eq]
    match i with
    | 0 => trivial
    | 1 =>
      refine ⟨.ref p, ?_, by unfold RV; exact ⟨p, rfl, rfl⟩⟩
      rw [List.getElem?_set_self]
      unfold L2.start
      rw [hk]
      simp
    | j + 2 =>
      have e : ((LV.u :: .v (.ref 0) :: List.replicate (N.length - 2) LV.u)[j + 2]?).getD .u = .u := by
        simp only
            [List.getElem?_cons_succ]
        cases q : (List.replicate (N.length - 2) LV.u)[j]? with
        | none => rfl
        | some y =>
          have := List.mem_of_getElem? q
          rw [List.mem_replicate] at this
          rw [this.2]
          rfl
      rw [e]
      trivial
  · refine Out.sat_mono (fun r S z ρ' H' σ' x T => ?_) (fun e L S z => z.elim) (Out.sat_bind.mp (Out.allTrue_sat ht))
    obtain ⟨fl, L⟩ := r
    cases fl with
    | rt v =>
      have e : v = .bl true := z
      subst e
      intro y ry
      unfold RV at ry
      rw [ry]
      exact hQ H'
    | nx => exact z.elim
    | br => exact z.elim
    | ct => exact z.elim
/-- the first draw's digits one by one: the kernel looks at each in a theorem of its own -/
def digits (m : Out AV) : Nat := match m with
  | .dr n _ => n
  | _ => 0
def oneOf (m : Out AV) (i : Nat) : Bool := match m with
  | .dr _ k => (k i).allTrue
  | _ => false
theorem allTrue_of {m : Out AV} {n : Nat} (hn : digits m = n) (hp : n ≠ 0) (h : ∀ i, i < n → oneOf m i = true) : m.allTrue = true := by
  cases m with
  | dr n' k =>
    subst hn
    unfold Out.allTrue
    rw [List.all_eq_true]
    exact fun i hi => h i (List.mem_range.mp hi)
  | ok v S => exact absurd hn.symm hp
  | ex e L S => exact absurd hn.symm hp
  | bad => exact absurd hn.symm hp
end Sh

end

noncomputable section
namespace Sh
open PySem PySem.Spec PyProof.Rows L2 LamX He
/-- plain parameters alone -/
def plainA (a : Arguments) : Bool := a.posonlyargs.isEmpty && (a.vararg.isNone && (a.kwonlyargs.isEmpty && (a.kw_defaults.isEmpty && (a.kwarg.isNone && a.defaults.isEmpty))))
theorem plainA_ok {a : Arguments} (h : plainA a = true) : a = ⟨[], a.args, none, [], [], none, []⟩ := by
  unfold plainA at h
  simp only [Bool.and_eq_true, List.isEmpty_iff, Option.isNone_iff_eq_none] at h
  obtain ⟨a1, a2, a3, a4, a5, a6, a7⟩ := a
  obtain ⟨h1, h2, h3, h4, h5, h6⟩ := h
  simp only at h1 h2 h3 h4 h5 h6
  subst h1 h2 h3 h4 h5 h6
  rfl
/-! ### plain parameters are bound in order -/
theorem look_zip : ∀ {ps : List Str} {us : List Value}, us.length = ps.length → ∀ x ∈ ps, ((ps.zip us).lookup x).isSome = true
  | p :: ps, u :: us, hl, x, hx => by
    rw [List.zip_cons_cons, List.lookup_cons]
    by_cases e : (x == p) = true
    · rw [e]; rfl
    · rw [Bool.not_eq_true] at e
      rw [e]
      rcases List.mem_cons.mp hx with z | z
      · rw [z, beq_self_eq_true] at e; cases e
      · exact look_zip (by simpa using hl) x z
theorem look_tail {p : Str} {u : Value} {ps : List Str} {us : List Value} (hn : p ∉ ps) : ∀ (l : List Str), (∀ x ∈ l, x ∈ ps) → (l.filterMap fun n => (((p, u) :: ps.zip us).lookup n).map fun v => (n, v)) = l.filterMap fun n => ((ps.zip us).lookup n).map fun v => (n, v)
  | [], _ => rfl
  | x :: r, h => by
    have hx : (x == p) = false := by
      cases q : (x == p) with
      | false => rfl
      | true => exact absurd (by rw [← eq_of_beq q]; exact h x List.mem_cons_self) hn
    rw [List.filterMap_cons, List.filterMap_cons, List.lookup_cons, hx, look_tail hn r fun y hy => h y (List.mem_cons_of_mem _ hy)]
theorem look_all : ∀ {ps : List Str} {us : List Value}, us.length = ps.length → ps.Nodup → (ps.filterMap fun n => ((ps.zip us).lookup n).map fun v => (n, v)) = ps.zip us
  | [], [], _, _ => rfl
  | p :: ps, u :: us, hl, hn => by
    rw [List.nodup_cons] at hn
    have e : (p :: ps).zip (u :: us) = (p, u) :: ps.zip us := rfl
    rw [e, List.filterMap_cons, List.lookup_cons, beq_self_eq_true]
    show (p, u) :: _ = _
    rw [look_tail hn.1 ps fun _ h => h, look_all (by simpa using hl) hn.2]
theorem bind_plain {fd : FuncData} {ps : List Str} {us : List Value} (hp : plainA fd.params = true) (hd : fd.defaults = .none) (he : fd.params.args.map (·.arg) = ps) (hn : ps.Nodup) (hl : us.length = ps.length) : bindArgs fd ⟨us, []⟩ = pure (ps.zip us) := by
  have e := plainA_ok hp
  have h2 : ∀ n, (ps.take n).filter (fun n => ((ps.zip us).lookup n).isNone) = [] := fun n => by
    rw [List.filter_eq_nil_iff]
    intro x hx
    have z := look_zip hl x (List.mem_of_mem_take hx)
    cases q : (ps.zip us).lookup x with
    | none => rw [q] at z; cases z
    | some v => exact fun y => by cases y
  unfold bindArgs
  rw [e]
  simp only [hd, he, List.map_nil, List.nil_append, List.append_nil]
  have hs : seqItems? (.none : Value) = pure none := rfl
  simp [hs, hl]
  rw [if_neg (by simp only [h2]; decide)]
  rw [look_all hl hn]

/-! ### keywords -/
abbrev KVs := List (Str × Value)
theorem look_app_none {a b : KVs} {x : Str} (h : (a.lookup x).isSome = false) : (a ++ b).lookup x = b.lookup x := by
  induction a with
  | nil => rfl
  | cons p r ih =>
    obtain ⟨k, v⟩ := p
    rw [List.lookup_cons] at h
    rw [List.cons_append, List.lookup_cons]
    cases q : x == k with
    | true => rw [q] at h; cases h
    | false => rw [q] at h; exact ih h
theorem forIn_app {ps : List Str} {ex : KVs} {body : Str × Value → KVs × KVs → Sem (ForInStep (KVs × KVs))} (hb : ∀ x sl, x.1 ∈ ps → (sl.lookup x.1).isSome = false → body x (sl, ex) = pure (.yield (sl ++ [(x.1, x.2)], ex))) :
    ∀ (kws sl : KVs), (∀ x ∈ kws, x.1 ∈ ps) → (kws.map (·.1)).Nodup → (∀ x ∈ kws, (sl.lookup x.1).isSome = false) → forIn kws (sl, ex) body = pure (sl ++ kws, ex)
  | [], sl, _, _, _ => by simp
  | x :: r, sl, h1, h2, h3 => by
    rw [List.forIn_cons, hb x sl (h1 x List.mem_cons_self) (h3 x List.mem_cons_self)]
    rw [List.map_cons, List.nodup_cons] at h2
    have z := forIn_app hb r (sl ++ [(x.1, x.2)]) (fun y hy => h1 y (List.mem_cons_of_mem _ hy)) h2.2 fun y hy => by
      rw [look_app_none (h3 y (List.mem_cons_of_mem _ hy)), List.lookup_cons]
      have ne : (y.1 == x.1) = false := by
        cases q : y.1 == x.1 with
        | false => rfl
        | true => exact absurd (List.mem_map.mpr ⟨y, hy, eq_of_beq q⟩) h2.1
      rw [ne]
      rfl
    rw [List.append_assoc] at z
    simpa using z
/-- the values in the parameters' order -/
def ordV (sl : KVs) (ps : List Str) : List Value := ps.map fun n => (sl.lookup n).getD .none
theorem ord_zip {sl : KVs} : ∀ {ps : List Str}, (∀ x ∈ ps, (sl.lookup x).isSome = true) → (ps.filterMap fun n => (sl.lookup n).map fun v => (n, v)) = ps.zip (ordV sl ps)
  | [], _ => rfl
  | p :: r, h => by
    have z := h p List.mem_cons_self
    rw [List.filterMap_cons]
    cases q : sl.lookup p with
    | none => rw [q] at z; cases z
    | some v =>
      show (p, v) :: _ = _
      rw [ord_zip fun x hx => h x (List.mem_cons_of_mem _ hx)]
      show _ = (p, (sl.lookup p).getD .none) :: _
      rw [q]
      rfl
theorem bind_kw {fd : FuncData} {ps : List Str} {us : List Value} {kws : KVs} (hp : plainA fd.params = true) (hd : fd.defaults = .none) (he : fd.params.args.map (·.arg) = ps) (hu : us.length ≤ ps.length)
    (h1 : ∀ x ∈ kws, x.1 ∈ ps) (h2 : (kws.map (·.1)).Nodup) (h3 : ∀ x ∈ kws, ((ps.zip us).lookup x.1).isSome = false) (h4 : ∀ x ∈ ps, ((ps.zip us ++ kws).lookup x).isSome = true) :
    bindArgs fd ⟨us, kws⟩ = pure (ps.zip (ordV (ps.zip us ++ kws) ps)) := by
  have e := plainA_ok hp
  have hm : ∀ n, (ps.take n).filter (fun n => ((ps.zip us ++ kws).lookup n).isNone) = [] := fun n => by
    rw [List.filter_eq_nil_iff]
    intro x hx
    have z := h4 x (List.mem_of_mem_take hx)
    cases q : (ps.zip us ++ kws).lookup x with
    | none => rw [q] at z; cases z
    | some v => exact fun y => by cases y
  unfold bindArgs
  rw [e]
  simp only [hd, he, List.map_nil, List.nil_append, List.append_nil]
  have hs : seqItems? (.none : Value) = pure none := rfl
  rw [forIn_app (ps := ps) (fun x sl a b => by
    have c : ps.contains x.1 = true := List.contains_iff_mem.mpr a
    simp only [c, b, Bool.true_or, if_true, Bool.false_eq_true, if_false]) kws (ps.zip us) h1 h2 h3]
  simp [hs, Nat.not_lt.mpr hu]
  split
  · rename_i c
    rw [hm] at c
    cases c
  · first
      | rfl
      | rw [ord_zip h4]
      | simpa using ord_zip h4
end Sh

end

noncomputable section
namespace Sh
open PySem PySem.Spec PyProof.Rows L2 LamX He
/-! ### the parameters' order -/
def ix : List Str → Str → Option Nat
  | [], _ => none
  | y :: r, x => match decide (y = x) with
    | true => some 0
    | false => match ix r x with
      | some i => some (i + 1)
      | none => none
theorem ix_ok : ∀ {N : List Str} {x : Str} {i : Nat}, ix N x = some i → N[i]? = some x
  | y :: r, x, i, h => by
    unfold ix at h
    split at h
    · rename_i e
      cases h
      rw [of_decide_eq_true e]
      rfl
    · cases q : ix r x with
      | none => rw [q] at h; cases h
      | some j =>
        rw [q] at h
        cases h
        simpa using ix_ok q
def pick {α : Type} : List Nat → List α → Option (List α)
  | [], _ => some []
  | i :: r, l => match l[i]?, pick r l with
    | some a, some q => some (a :: q)
    | _, _ => none
def permOf (L : List Str) : List Str → Option (List Nat)
  | [] => some []
  | x :: r => match ix L x, permOf L r with
    | some i, some q => some (i :: q)
    | _, _ => none
theorem zip_take {α β : Type} : ∀ {l : List α} {m : List β}, l.zip m = (l.take m.length).zip m
  | [], m => by simp
  | a :: l, [] => by simp
  | a :: l, b :: m => by
    rw [List.length_cons, List.take_succ_cons, List.zip_cons_cons, List.zip_cons_cons, ← zip_take]
theorem look_ix : ∀ {L : List Str} {V : List Value} {x : Str} {i : Nat}, ix L x = some i → V.length = L.length → (L.zip V).lookup x = V[i]?
  | y :: L, [], x, i, h, hl => by cases hl
  | y :: L, v :: V, x, i, h, hl => by
    rw [List.zip_cons_cons, List.lookup_cons]
    unfold ix at h
    split at h
    · rename_i e
      cases h
      have e2 : (x == y) = true := by rw [of_decide_eq_true e]; exact beq_self_eq_true _
      rw [e2]
      rfl
    · rename_i e
      have e2 : (x == y) = false := by
        cases q : x == y with
        | false => rfl
        | true => rw [eq_of_beq q, decide_eq_true rfl] at e; cases e
      rw [e2]
      cases q : ix L x with
      | none => rw [q] at h; cases h
      | some j =>
        rw [q] at h
        cases h
        exact look_ix q (by simpa using hl)
theorem look_out : ∀ {L : List Str} {V : List Value} {x : Str}, x ∉ L → ((L.zip V).lookup x).isSome = false
  | [], V, x, _ => by cases V <;> rfl
  | y :: L, [], x, _ => rfl
  | y :: L, v :: V, x, h => by
    rw [List.zip_cons_cons, List.lookup_cons]
    have e2 : (x == y) = false := by
      cases q : x == y with
      | false => rfl
      | true => exact absurd (eq_of_beq q ▸ List.mem_cons_self) h
    rw [e2]
    exact look_out fun z => h (List.mem_cons_of_mem _ z)
theorem pick_ord {L : List Str} {V : List Value} (hl : V.length = L.length) : ∀ {ps : List Str} {pm : List Nat}, permOf L ps = some pm → pick pm V = some (ordV (L.zip V) ps) ∧ ∀ x ∈ ps, ((L.zip V).lookup x).isSome = true
  | [], pm, h => by
    unfold permOf at h
    cases h
    exact ⟨rfl, fun x z => by cases z⟩
  | p :: ps, pm, h => by
    unfold permOf at h
    split at h
    · rename_i i q e1 e2
      cases h
      obtain ⟨h1, h2⟩ := pick_ord hl e2
      have l := look_ix e1 hl
      have hi : i < V.length := by
        have := (List.getElem?_eq_some_iff.mp (ix_ok e1)).1
        omega
      rw [List.getElem?_eq_getElem hi] at l
      refine ⟨?_, fun x hx => ?_⟩
      · unfold pick ordV
        rw [h1, List.getElem?_eq_getElem hi, List.map_cons, l]
        rfl
      · rcases List.mem_cons.mp hx with e | hx
        · rw [e, l]; rfl
        · exact h2 x hx
    · cases h
/-- a def whose parameters are plain -/
structure Plain (fd : FuncData) (ps : List Str) : Prop where
  par : plainA fd.params = true
  dfl : fd.defaults = .none
  arg : fd.params.args.map (·.arg) = ps
  nd : ps.Nodup
theorem Plain.binds {K : PySem.W.Frag} {fd : FuncData} {ps : List Str} (h : Plain fd ps) : Binds K fd ps [] := .all fun _ hl => bind_plain h.par h.dfl h.arg h.nd hl
theorem pick_rvs {G : Gd} {ρ : List Addr} {H : Hp} {as : List AV} {vs : List V} (r : RVs G ρ H as vs) : ∀ {pm : List Nat} {zs : List AV}, pick pm as = some zs → ∃ zv, pick pm vs = some zv ∧ RVs G ρ H zs zv
  | [], zs, h => by
    unfold pick at h
    cases h
    exact ⟨[], rfl, by unfold RVs; rfl⟩
  | i :: pm, zs, h => by
    unfold pick at h
    split at h
    · rename_i a q e1 e2
      cases h
      obtain ⟨zv, h1, h2⟩ := pick_rvs r e2
      obtain ⟨v, hv, rv⟩ := RVs_get r e1
      refine ⟨v :: zv, by unfold pick; rw [hv, h1], ?_⟩
      unfold RVs
      exact ⟨v, zv, rfl, rv, h2⟩
    · cases h
theorem vals_get : ∀ {vs : List V} {us : List Value} {i : Nat} {v : V}, Vals vs us → vs[i]? = some v → ∃ u, us[i]? = some u ∧ RelV v u
  | _, _, 0, v, .cons a b, h => by
    simp at h
    subst h
    exact ⟨_, rfl, a⟩
  | _, _, i + 1, v, .cons a b, h => by
    simp at h
    obtain ⟨u, h1, h2⟩ := vals_get b h
    exact ⟨u,
          by simpa using h1, h2⟩
theorem pick_vals {vs : List V} {us : List Value} (r : Vals vs us) : ∀ {pm : List Nat} {zs : List V}, pick pm vs = some zs → ∃ zu, pick pm us = some zu ∧ Vals zs zu
  | [], zs, h => by
    unfold pick at h
    cases h
    exact ⟨[], rfl, .nil⟩
  | i :: pm, zs, h => by
    unfold pick at h
    split at h
    · rename_i a q e1 e2
      cases h
      obtain ⟨zv, h1, h2⟩ := pick_vals r e2
      obtain ⟨u, hu, ru⟩ := vals_get r e1
      exact ⟨u :: zv, by unfold pick; rw [hu, h1], .cons ru h2⟩
    · cases h
theorem Vals.app {vs ws : List V} {us zs : List Value} (a : Vals vs us) (b : Vals ws zs) : Vals (vs ++ ws) (us ++ zs) := by
  induction a with
  | nil => exact b
  | cons h _ ih => exact .cons h ih
/-! ### arguments by place and by name -/
theorem ord_self {M : KVs} : ∀ {ps : List Str} {xs : List Value}, ps.Nodup → xs.length = ps.length → ordV (ps.zip xs ++ M) ps = xs
  | [], [], _, _ => rfl
  | p :: ps, x :: xs, hn, hl => by
    rw [List.nodup_cons] at hn
    have ih := ord_self (M := M) hn.2 (by simpa using hl)
    unfold ordV at ih ⊢
    rw [List.zip_cons_cons, List.cons_append, List.map_cons]
    have h1 : (List.lookup p ((p, x) :: (ps.zip xs ++ M))).getD Value.none = x := by rw [List.lookup_cons, beq_self_eq_true]; rfl
    rw [h1]
    congr 1
    refine Eq.trans (List.map_congr_left fun y hy => ?_) ih
    have ne : (y == p) = false := by
      cases q : y == p with
      | false => rfl
      | true => exact absurd (eq_of_beq q ▸ hy) hn.1
    rw [List.lookup_cons, ne]
/-- whatever def has these parameters behind others: the arguments are bound so -/
def ArgsOk (ps : List Str) (a : Args) (us : List Value) : Prop := us.length = ps.length ∧ ∀ (fd : FuncData) (pre : List Str) (xs : List Value), xs.length = pre.length → Plain fd (pre ++ ps) → bindArgs fd ⟨xs ++ a.pos, a.kw⟩ = pure ((pre ++ ps).zip (xs ++ us))
theorem ArgsOk.pos {ps : List Str} {us : List Value} (h : us.length = ps.length) : ArgsOk ps ⟨us, []⟩ us := ⟨h, fun fd pre xs hl hp => bind_plain hp.par hp.dfl hp.arg hp.nd (by simp [hl, h])⟩
theorem ArgsOk.cons {p : Str} {ps : List Str} {a : Args} {us : List Value} {v : Value} (h : ArgsOk ps a us) : ArgsOk (p :: ps) ⟨v :: a.pos, a.kw⟩ (v :: us) := ⟨by rw [List.length_cons, List.length_cons, h.1], fun fd pre xs hl hp => by
  have e : pre ++ p :: ps = (pre ++ [p]) ++ ps := by simp
  have e2 : xs ++ v :: a.pos = (xs ++ [v]) ++ a.pos := by simp
  have e3 : xs ++ v :: us = (xs ++ [v]) ++ us := by simp
  rw [e] at hp ⊢
  show bindArgs fd ⟨xs ++ v :: a.pos, a.kw⟩ = _
  rw [e2, e3]
  exact h.2 fd (pre ++ [p]) (xs ++ [v]) (by simp [hl]) hp⟩
theorem ArgsOk.bind {ps : List Str} {a : Args} {us : List Value} {fd : FuncData} {s : Shared} (h : ArgsOk ps a us) (hp : Plain fd ps) : BindsTo s fd a (ps.zip us) := .of_eq (by simpa using h.2 fd [] [] rfl hp)
theorem ArgsOk.kw {ps ks : List Str} {us ws : List Value} {pm : List Nat} (hu : us.length ≤ ps.length) (hw : ws.length = ks.length) (hn : (ps.take us.length ++ ks).Nodup) (hk : ∀ x ∈ ks, x ∈ ps) (hp : permOf (ps.take us.length ++ ks) ps = some pm) :
    ∃ zs, pick pm (us ++ ws) = some zs ∧ ArgsOk ps ⟨us, ks.zip ws⟩ zs := by
  have lL : (us ++ ws).length = (ps.take us.length ++ ks).length := by simp [hu, hw]
  obtain ⟨h1, h2⟩ := pick_ord (V := us ++ ws) lL hp
  refine ⟨_, h1, by unfold ordV; rw [List.length_map], fun fd pre xs hl pl => ?_⟩
  obtain ⟨n1, n2, n3⟩ := List.nodup_append.mp pl.nd
  have hm : (ks.zip ws).map (·.1) = ks := by
    rw [List.map_fst_zip]
    omega
  have e0 : (pre ++ ps).zip (xs ++ us) = (pre ++ ps.take us.length).zip (xs ++ us) := by
    rw [List.zip_append hl.symm, List.zip_append hl.symm, ← zip_take]
  have e : (pre ++ ps).zip (xs ++ us) ++ ks.zip ws = pre.zip xs ++ (ps.take us.length ++ ks).zip (us ++ ws) := by
    rw [e0, List.zip_append hl.symm, List.append_assoc, ← List.zip_append (by simp [hu])]
  have out : ∀ x ∈ ps, ((pre.zip xs).lookup x).isSome = false := fun x hx => look_out fun z => n3 _ z _ hx rfl
  have b := bind_kw (ps := pre ++ ps) (us := xs ++ us) (kws := ks.zip ws) pl.par pl.dfl pl.arg (by simp [hl, hu]) (fun x hx => List.mem_append_right _ (hk x.1 (by rw [← hm]; exact List.mem_map.mpr ⟨x, hx, rfl⟩))) (by rw [hm]; exact (List.nodup_append.mp hn).2.1) (fun x hx => ?_) (fun x hx => ?_)
  · rw [e] at b
    show bindArgs fd ⟨xs ++ us, ks.zip ws⟩ = _
    rw [b]
    congr 2
    unfold ordV
    rw [List.map_append]
    congr 1
    · exact ord_self n1 hl
    · exact List.map_congr_left fun y hy => by rw [look_app_none (out y hy)]
  · rw [e0]
    have m : x.1 ∈ ks := by rw [← hm]; exact List.mem_map.mpr ⟨x, hx, rfl⟩
    refine look_out fun z => ?_
    rcases List.mem_append.mp z with z | z
    · exact n3 _ z _ (hk _ m) rfl
    · exact (List.nodup_append.mp hn).2.2 _ z _ m rfl
  · rw [e]
    rcases List.mem_append.mp hx with z | z
    · have := look_zip hl x z
      cases q : (pre.zip xs).lookup x with
      | none => rw [q] at this; cases this
      | some v =>
        have q2 : (pre.zip xs ++ (ps.take us.length ++ ks).zip (us ++ ws)).lookup x = some v := by rw [List.lookup_append, q]; rfl
        rw [q2]; rfl
    · rw [look_app_none (out x z)]
      exact h2 x z
/-- a def that is called by any arguments -/
structure FnC (P : Program) (w : World) (K : PySem.W.Frag) (mg : Str → Option Value) (base : Heap) (G : Gd) (k : Nat) (ad : Addr) (ps : List Str) (f : Fn) : Prop where
  ok : ∃ fd, FnOk P w K mg base (L2.CX P w) k ad fd ps (SPf G ps.length f) ∧ Plain fd ps
  kp : PySem.W.keepIn K (.ref ad) = true
/-! ### the call -/
def kwNm : List Keyword → Option (List Str)
  | [] => some []
  | ⟨some x, _, _⟩ :: r => match kwNm r with
    | some q => some (x :: q)
    | none => none
  | _ => none
theorem kwNm_ok {env : Env} {pos : Pos} : ∀ {kws : List Keyword} {ks : List Str}, kwNm kws = some ks → (backToKw pos (keywordEach kws env)).all (·.1.isSome) = true ∧ (backToKw pos (keywordEach kws env)).filterMap (·.1) = ks ∧ (backToKw pos (keywordEach kws env)).any (·.1.isNone) = false
  | [], ks, h => by
    unfold kwNm at h
    cases h
    exact ⟨rfl, rfl, rfl⟩
  | ⟨some x, e, p⟩ :: r, ks, h => by
    unfold kwNm at h
    split at h
    · rename_i q e1
      cases h
      obtain ⟨h1, h2, h3⟩ := kwNm_ok (env := env) (pos := pos) e1
      refine ⟨?_, ?_, ?_⟩
      · show (true && (backToKw pos (keywordEach r env)).all (·.1.isSome)) = true
        rw [h1]; rfl
      · show x :: (backToKw pos (keywordEach r env)).filterMap (·.1) = _
        rw [h2]
      · show (false || (backToKw pos (keywordEach r env)).any (·.1.isNone)) = false
        rw [h3]; rfl
    · cases h
  | ⟨none, e, p⟩ :: r, ks, h => by
    unfold kwNm at h
    cases h
/-- the parameters' values: by place, then by name -/
def kwOk (ps ks : List Str) (np : Nat) : Option (List Nat) := match Nat.ble np ps.length, decide (ps.take np ++ ks).Nodup, ks.all fun x => decide (x ∈ ps) with
  | true, true, true => permOf (ps.take np ++ ks) ps
  | _, _, _ => none
def asm (ps ks : List Str) (xs ys : List AV) : Option (List AV) := match ks, ys with
  | [], [] => match Nat.beq xs.length ps.length with
    | true => some xs
    | false => none
  | k :: r, y :: ys => match Nat.beq (k :: r).length (y :: ys).length, kwOk ps (k :: r) xs.length with
    | true, some pm => pick pm (xs ++ y :: ys)
    | _, _ => none
  | _, _ => none
theorem asm_ok {G : Gd} {ρ : List Addr} {H : Hp} {ps ks : List Str} {xs ys zs : List AV} {vs1 vs2 : List V} {us ws : List Value} (h : asm ps ks xs ys = some zs) (r1 : RVs G ρ H xs vs1) (r2 : RVs G ρ H ys vs2) (v1 : Vals vs1 us) (v2 : Vals vs2 ws) :
    ∃ zv zu, RVs G ρ H zs zv ∧ Vals zv zu ∧ ArgsOk ps ⟨us, ks.zip ws⟩ zu ∧ zs.length = ps.length := by
  have u1 : us.length = xs.length := by rw [← v1.length, RVs_len r1]
  have u2 : ws.length = ys.length := by rw [← v2.length, RVs_len r2]
  unfold asm at h
  split at h
  · split at h
    · rename_i q
      cases h
      have q := Nat.eq_of_beq_eq_true q
      exact ⟨vs1, us, r1, v1, .pos (u1.trans q), q⟩
    · cases h
  · rename_i k r y ys
    split at h
    · rename_i pm q1 q2
      unfold kwOk at q2
      split at q2
      · rename_i a1 a2 a3
        rw [← u1] at a1 a2 q2
        rw [← u2] at q1
        obtain ⟨zu, p1, p2⟩ := ArgsOk.kw (us := us) (ws := ws) (Nat.le_of_ble_eq_true a1) (Nat.eq_of_beq_eq_true q1).symm (of_decide_eq_true a2) (fun x hx => of_decide_eq_true (List.all_eq_true.mp a3 x hx)) q2
        obtain ⟨zv, p3, p4⟩ := pick_rvs (RVs_app r1 r2) h
        obtain ⟨zu', p5, p6⟩ := pick_vals (Vals.app v1 v2) p3
        rw [p1] at p5
        cases p5
        exact ⟨zv, zu, p4, p6, p2, by rw [← RVs_len p4, p6.length, p2.1]⟩
      · cases q2
    · cases h
  · cases h
section
variable {X : Cx} {G : Gd} {W : WX} {F : Fm} {es : List Expr} {kws : List Keyword} {pos : Pos}
theorem PK_imp {kws : List Keyword} {t t' : TA} (h : PK X kws t) (i : ∀ σ H Q, t' σ H Q → t σ H Q) : PK X kws t' := ⟨fun pos pins s σ H Q I q => h.run pos pins s σ H Q I (i σ H Q q)⟩
theorem mk_nil : PK X [] (tA G F W mNil) := PK_imp pk_nil fun σ H Q ⟨ρ, S, ls, T, h⟩ => h ρ H (Ext.refl _ _) T [] (by unfold RVs; rfl)
theorem mk_cons {nm : Option Str} {e : Expr} {kpos : Pos} {ma : EM} {mr : AM} (ha : PE X e (tE G F W ma)) (hr : PK X kws (tA G F W mr)) : PK X (⟨nm, e, kpos⟩ :: kws) (tA G F W (mCons ma mr)) :=
  PK_imp (pk_cons ha hr) fun σ H Q ⟨ρ, S, ls, T, h⟩ => tE_bind T h fun v S1 ρ1 H1 x h1 x1 T1 r1 => tA_bind T1 h1 fun vs S2 ρ2 H2 xs h2 x2 T2 r2 => h2 ρ2 H2 (x1.trans x2) T2 (x :: xs) (by unfold RVs; exact ⟨x, xs, rfl, r1.mono x2 v, r2⟩)
def kwArgs (ps ks : List Str) (m mk : AM) : AM := fun ls S => (m ls S).bind fun xs S1 => (mk ls S1).bind fun ys S2 => match asm ps ks xs ys with
  | some zs => .ok zs S2
  | none => .bad
/-- positional values, keywords' values, then the call -/
theorem run_argsK {pins : List (Addr × Obj)} {σ : L2.St} {H : Hp} {s : Shared} {f : Value} {first : List Value} {Q : Value → Shared → Prop} {m mk : AM} {ρ : List Addr} {S : Sto} {ls : Lo} {α : Type} {P : α → Sto → Prop} {g : List AV → Sto → Out α} {ps ks : List Str} (I : Inv X pins σ H s) (hk : PySem.W.keepIn X.K f = true) (ha : PA X es (tA G F W m)) (hst : noStars es = true)
    (hkw : PK X kws (tA G F W mk)) (hks : kwNm kws = some ks) (T : Stt G F ρ S ls σ H) (h : ((kwArgs ps ks m mk ls S).bind g).Sat P (PostX G F W ρ H)) (h0 : es = [] → m = mNil)
    (go : ∀ us ws s1 H1 ρ1 S1 zs zv zu, Inv X pins σ H1 s1 → Stt G F ρ1 S1 ls σ H1 → Ext ρ H ρ1 H1 → RVs G ρ1 H1 zs zv → Vals zv zu → ArgsOk ps ⟨us, ks.zip ws⟩ zu → zs.length = ps.length → (g zs S1).Sat P (PostX G F W ρ H) →
      wpAny (model X.prog X.w) X.A (call f (first ++ us) (ks.zip ws)) Q X.xe s1) :
    wpAny (model X.prog X.w) X.A (callWith pos f first (backTo pos (starEach es X.env)) (backToKw pos (keywordEach kws X.env))) Q X.xe s := by
  obtain ⟨k1, k2, k3⟩ := kwNm_ok (env := X.env) (pos := pos) hks
  have fin : ∀ {us : List Value} {s1 : Shared} {vs1 : List V} {H1 : Hp} {ρ1 : List Addr} {S1 : Sto} {xs1 : List AV}, Inv X pins σ H1 s1 → Vals vs1 us → Stt G F ρ1 S1 ls σ H1 → Ext ρ H ρ1 H1 → RVs G ρ1 H1 xs1 vs1 →
      (((mk ls S1).bind fun ys S2 => match asm ps ks xs1 ys with
        | some zs => Out.ok zs S2
        | none => .bad).bind g).Sat P (PostX G F W ρ H) →
      wpAny (model X.prog X.w) X.A (evalAll ((backToKw pos (keywordEach kws X.env)).map (·.2))) (fun zs s2 => X.K.In s2.heap ∧ wpAny (model X.prog X.w) X.A (call f (first ++ us) (((backToKw pos (keywordEach kws X.env)).filterMap (·.1)).zip zs)) Q X.xe s2) X.xe s1 := fun {us s1 vs1 H1 ρ1 S1 xs1} I1 r1 T1 x1 rv1 z => by
    have ht : tA G F W mk σ H1 (fun vs H2 => ∃ ρ2 S2 xs, Stt G F ρ2 S2 ls σ H2 ∧ Ext ρ1 H1 ρ2 H2 ∧ RVs G ρ2 H2 xs vs ∧ ((match asm ps ks xs1 xs with
        | some zs => Out.ok zs S2
        | none => .bad).bind g).Sat P (PostX G F W ρ H)) :=
      ⟨ρ1, S1, ls, T1, Out.sat_mono (fun xs S2 z ρ2 H2 x2 T2 vs r2 => ⟨ρ2, S2, xs, T2, x2, r2, Out.sat_bind.mpr z⟩) (fun _ _ _ z => z.ext x1) (Out.sat_bind.mp (Out.sat_bind.mp z))⟩
    refine thn (hkw.run pos pins s1 σ H1 _ I1 ht) fun ws s2 ⟨vs2, H2, I2, r2, ρ2, S2, xs2, T2, x2, rv2, z2⟩ => ⟨I2.kIn, ?_⟩
    rw [k2]
    cases q3 : asm ps ks xs1 xs2 with
    | none => rw [q3] at z2; exact z2.elim
    | some zs =>
      rw [q3] at z2
      obtain ⟨zv, zu, p1, p2, p3, p4⟩ := asm_ok q3 (rv1.mono x2 xs1) rv2 r1 r2
      exact go us ws s2 H2 ρ2 S2 zs zv zu I2 T2 (x1.trans x2) p1 p2 p3 p4 z2
  have h : ((m ls S).bind fun xs S1 => ((mk ls S1).bind fun ys S2 => match asm ps ks xs ys with
        | some zs => Out.ok zs S2
        | none => .bad).bind g).Sat P (PostX G F W ρ H) := by
    have z := Out.sat_bind.mp (Out.sat_bind.mp h)
    exact Out.sat_bind.mpr (Out.sat_mono (fun _ _ z => Out.sat_bind.mpr z) (fun _ _ _ z => z) z)
  cases es with
  | nil =>
    rw [h0 rfl] at h
    have z := fin I .nil T (Ext.refl _ _) (xs1 := []) (by unfold RVs; rfl) h
    exact PySem.W.callWith_KW0 (h₀ := X.base) I.ok.mod.kin hk k1 z (by
      show (false || (backToKw pos (keywordEach kws X.env)).any (·.1.isNone)) = false
      rw [k3]; rfl)
  | cons e r =>
    unfold noStars at hst
    rw [Bool.and_eq_true] at hst
    have ht : tA G F W m σ H (fun vs H1 => ∃ ρ1 S1 xs, Stt G F ρ1 S1 ls σ H1 ∧ Ext ρ H ρ1 H1 ∧ RVs G ρ1 H1 xs vs ∧ (((mk ls S1).bind fun ys S2 => match asm ps ks xs ys with
        | some zs => Out.ok zs S2
        | none => .bad).bind g).Sat P (PostX G F W ρ H)) :=
      ⟨ρ, S, ls, T, Out.sat_mono (fun xs S1 z ρ1 H1 x1 T1 vs r1 => ⟨ρ1, S1, xs, T1, x1, r1, z⟩) (fun _ _ _ z => z) (Out.sat_bind.mp h)⟩
    have s1 := star_cons (env := X.env) (es := r) hst.1
    refine PySem.W.callWith_KW (h₀ := X.base) I.ok.mod.kin hk k1 (thn (ha.run pos pins s σ H _ I ht) fun us s1 ⟨vs, H1, I1, rr, ρ1, S1, xs, T1, x1, rv, z⟩ => fin I1 rr T1 x1 rv z) (by
      rw [k3, s1]
      show ((false || (backTo pos (starEach r X.env)).any (·.1)) || false) = false
      rw [star_plain hst.2]
      rfl) s1
/-- any code that keeps to a plain form, the own cells told of -/
theorem run_callA {pins : List (Addr × Obj)} {σ : L2.St} {H : Hp} {s : Shared} {Q : VK} {ρ : List Addr} {S : Sto} {ls : Lo} {fn : Out AV} {fv : Value} {a : Args} {A : Around} (hN : X.N.Nodup) (hcb : CBx X) (tk : Takes X W)
    (I : Inv X pins σ H s) (e0 : Env0 X.prog X.w X.K X.mg X.base A X.stack s H) (T : Stt G (fm X) ρ S ls σ H) (h : (offR ls fn).Sat (PostV G (fm X) ρ ls σ H Q) (PostX G (fm X) W ρ H))
    (run : ∀ (C : Cs) (Q' : VK) (E' : XK), Env0 X.prog X.w X.K X.mg X.base A X.stack s (fz H C) → Ext ρ H ρ (fz H C) → Rel G ρ (onL ls S) (fz H C) → AllKnown G ρ (onL ls S) (fz H C) → fn.Sat (PostF G ρ (fz H C) Q') (PostFX G ρ (fz H C) E') →
      codeAny (model X.prog X.w) A (.call fv a) (CR (L2.CX X.prog X.w) X.stack X.prog X.w (fz H C) s Q' E') s) : codeAny (model X.prog X.w) A (.call fv a) (fun r s' => match r with
      | .ok (.ret u) => EP X pins σ Q u s'
      | .ok _ => False
      | .error e => X.xe e s') s := by
  obtain ⟨C, cf, hC⟩ := cfr_mk hN I (ls := ls) fun i k a e => by
    obtain ⟨⟨y, h1, _⟩, _, n, b, _, h3, h4, h5⟩ := T.c_at e
    exact ⟨n, b, y, h3, h4, h5, h1⟩
  have own : ∀ b o, C.lookup b = some o → ∃ n, X.env.cells.lookup n = some b := fun b o e => let ⟨_, _, _, _, n, _, _, z⟩ := hC b o e; ⟨n, z⟩
  have fC : Free H C := free_of I own
  have hc : ∀ b o, C.lookup b = some o → s.heap.get? b = some o := fun b o e => (hC b o e).1
  have hB : ∀ b o, C.lookup b = some o → X.base.get? b = none ∧ b ∉ frs X.stack := fun b o e => let ⟨n, z⟩ := own b o e; hcb.at I n b z
  obtain ⟨Ro, Ko⟩ := T.on fC cf
  have go := run C (fun v H' => Held H' C → Q v (uz H' C)) (fun cls d H' => Held H' C → W cls d σ (uz H' C)) (env0_fz fC hc hB e0) (ext_fz fC) Ro Ko
    (Out.sat_mono (fun v S' ⟨S2, e, z⟩ ρ' H' x R K y ry hf => by
      obtain ⟨T2, x2⟩ := T.off fC cf x hf R K e
      exact z ρ' _ x2 T2 y (RV.monoT (extT_uz hf) v ry)) (fun ex L S' ⟨S2, e, z⟩ ρ' H' x R K cls d re hf => by
      obtain ⟨T2, x2⟩ := T.off fC cf x hf R K e
      refine z ρ' _ σ x2 T2 cls d ⟨re.1, ?_⟩
      have r2 := re.2
      cases q : ex.fs with
      | nil => rw [q] at r2; exact r2
      | cons p ps =>
        rw [q] at r2
        obtain ⟨b, gs, e1, e2, e3⟩ := r2
        exact ⟨b, gs, e1, by rw [uz_ne (hf.ne e2 fun _ z => by cases z)]; exact e2, e3.monoT (extT_uz hf)⟩) (offR_sat h))
  refine codeAny_mono go fun r s' hq => ?_
  cases r with
  | error e => exact tk e s' (XE.of_call I (fun _ _ _ h => h) (cx_fz (E := fun cls d H' => W cls d σ H') fC hc (fun b o e => (hB b o e).2) hq))
  | ok fl =>
    cases fl with
    | ret u => exact I.after (ce_fz' fC hc hq)
    | next => exact False.elim hq
    | brk => exact False.elim hq
    | cont => exact False.elim hq
/-- a def is called -/
theorem run_fnA {pins : List (Addr × Obj)} {σ : L2.St} {H : Hp} {s : Shared} {Q : VK} {zs : List AV} {zv : List V} {zu : List Value} {ρ : List Addr} {S : Sto} {ls : Lo} {k : Nat} {fn : Fn} {f : Addr} {ps : List Str} {a : Args} {A : Around} (hN : X.N.Nodup) (hcb : CBx X) (tk : Takes X W)
    (Fc : FnC X.prog X.w X.K X.mg X.base G k f ps fn) (hr : Room k A) (I : Inv X pins σ H s) (e0 : Env0 X.prog X.w X.K X.mg X.base A X.stack s H) (T : Stt G (fm X) ρ S ls σ H) (rv : RVs G ρ H zs zv) (r : Vals zv zu) (b : ArgsOk ps a zu) (hl : zs.length = ps.length)
    (h : (offR ls (fn zs (onL ls S))).Sat (PostV G (fm X) ρ ls σ H Q) (PostX G (fm X) W ρ H)) : codeAny (model X.prog X.w) A (.call (.ref f) a) (fun r s' => match r with
      | .ok (.ret u) => EP X pins σ Q u s'
      | .ok _ => False
      | .error e => X.xe e s') s := by
  obtain ⟨fd, Fk, pl⟩ := Fc.ok
  exact run_callA hN hcb tk I e0 T h fun C Q' E' e0 x R K z => Fk.run A X.stack s (fz H C) a zu zv Q' E' hr e0 (b.bind pl) r ⟨ρ, _, zs, R, K, rv.mono x zs, hl, z⟩
theorem code_wp {pins : List (Addr × Obj)} {σ : L2.St} {s : Shared} {Q : VK} {f : Value} {us : List Value} {kw : List (Str × Value)} (h : codeAny (model X.prog X.w) X.A (.call f ⟨us, kw⟩) (fun r s' => match r with
      | .ok (.ret u) => EP X pins σ Q u s'
      | .ok _ => False
      | .error e => X.xe e s') s) : wpAny (model X.prog X.w) X.A (call f us kw) (EP X pins σ Q) X.xe s := wpAny_call (codeAny_mono h fun r s' hq => by
      cases r with
      | error e => exact hq
      | ok fl => cases fl <;> exact hq)
/-- f(a, .., k = v, ..) -/
def callA (f : Fn) (zs : List AV) (ls : Lo) (S : Sto) : Out AV := offR ls (f zs (onL ls S))
def mCallK (ps ks : List Str) (f : Fn) (m mk : AM) : EM := fun ls S => (kwArgs ps ks m mk ls S).bind fun zs S1 => callA f zs ls S1
theorem me_callK {x : Str} {k : Nat} {ps ks : List Str} {f : Fn} {ad : Addr} {m mk : AM} {isS : Pos} (hN : X.N.Nodup) (hcb : CBx X) (tk : Takes X W) (Fc : FnC X.prog X.w X.K X.mg X.base G k ad ps f) (hr : Room k X.A) (hm : X.mg x = some (.ref ad))
    (ha : PA X es (tA G (fm X) W m)) (h0 : es = [] → m = mNil) (hst : noStars es = true) (hkw : PK X kws (tA G (fm X) W mk)) (hks : kwNm kws = some ks) (hg : Gl X x) (hdb : (x == ("__debug__" : Str)) = false) :
    PE X (.Call (.Name x isS) es kws pos) (tE G (fm X) W (mCallK ps ks f m mk)) := by
  refine ⟨fun pins s σ H Q I ⟨ρ, S, ls, T, h⟩ => ?_⟩
  refine wpAny_Call_Name_kw
        (ld_glob I hg hm ?_ hdb)
  refine run_argsK I Fc.kp ha hst hkw hks T h h0 fun us ws s1 H1 ρ1 S1 zs zv zu I1 T1 x1 rv r b hl z => ?_
  exact code_wp (run_fnA hN hcb tk Fc hr I1 I1.env0 T1 rv r b hl (Out.sat_mono (fun _ _ z => z.ext x1) (fun _ _ _ z => z.ext x1) z))
end
end Sh

end

noncomputable section
namespace Sh
open PySem PySem.Spec PyProof.Rows L2 LamX He
/-! ### fields of own instances -/
section
variable {G : Gd} {ρ : List Addr} {H : Hp}
theorem FR_none (hn : NmInj G) {f : Nat} : ∀ {fs : List (Nat × AV)} {gs : List (Str × V)}, FR G ρ H fs gs → lookF f fs = none → gs.lookup (G.nm f) = none
  | [], gs, h, _ => by
    unfold FR at h
    subst h
    rfl
  | (g, w) :: r, gs, hr, h => by
    obtain ⟨x, hs, e, rw_, rr⟩ := hr
    subst e
    unfold lookF at h
    cases q : Nat.beq g f with
    | true => rw [q] at h; cases h
    | false =>
      rw [q] at h
      have ne : (G.nm f == G.nm g) = false := by
        rw [beq_eq_false_iff_ne]
        intro z
        have := hn _ _ z
        rw [this] at q
        simp [Nat.beq_refl] at q
      simp only [List.lookup, ne]
      exact FR_none hn rr h
def putFA (f : Nat) (v : AV) : List (Nat × AV) → List (Nat × AV)
  | [] => [(f, v)]
  | (g, w) :: r => match Nat.beq g f with
    | true => (g, v) :: r
    | false => (g, w) :: putFA f v r
theorem FR_put (hn : NmInj G) {f : Nat} {v : AV} {x : V} (rv : RV G ρ H v x) : ∀ {fs : List (Nat × AV)} {gs : List (Str × V)}, FR G ρ H fs gs → FR G ρ H (putFA f v fs) (putF (G.nm f) x gs)
  | [], gs, h => by
    unfold FR at h
    subst h
    exact ⟨x, [], rfl, rv, rfl⟩
  | (g, w) :: r, gs, hr => by
    obtain ⟨y, hs, e, ry, rr⟩ := hr
    subst e
    unfold putFA putF
    cases q : Nat.beq g f with
    | true =>
      rw [if_pos (by rw [Nat.eq_of_beq_eq_true q])]
      exact ⟨x, hs, rfl, rv, rr⟩
    | false =>
      rw [if_neg (fun z => by rw [hn _ _ z, Nat.beq_refl] at q; cases q)]
      exact ⟨y, _, rfl, ry, FR_put hn rv rr⟩
theorem FR_len : ∀ {fs : List (Nat × AV)} {gs : List (Str × V)}, FR G ρ H fs gs → gs.length = fs.length
  | [], gs, h => by unfold FR at h; subst h; rfl
  | (g, w) :: r, gs, ⟨y, hs, e, _, rr⟩ => by subst e; rw [List.length_cons, List.length_cons, FR_len rr]
end
def insOf (S : Sto) : AV → Option (Nat × Nat × List (Nat × AV))
  | .ref i => match S.get i with
    | some (.ins c fs) => some (i, c, fs)
    | _ => none
  | _ => none
theorem insOf_ok {G : Gd} {F : Fm} {ρ : List Addr} {S : Sto} {ls : Lo} {σ : L2.St} {H : Hp} {a : AV} {x : V} {i c : Nat} {fs : List (Nat × AV)} (T : Stt G F ρ S ls σ H) (r : RV G ρ H a x) (h : insOf S a = some (i, c, fs)) :
    ∃ p dx gs, a = .ref i ∧ S.get i = some (.ins c fs) ∧ ρ[i]? = some p ∧ x = .ref p ∧ H p = some (.ins (G.ca c) dx gs) ∧ FR G ρ H fs gs := by
  cases a with
  | ref j =>
    unfold insOf at h
    unfold RV at r
    obtain ⟨p, hp, e⟩ := r
    cases q : S.get j with
    | none => simp only [q] at h; cases h
    | some o =>
      cases o with
      | ins c' fs' =>
        simp only [q] at h
        cases h
        obtain ⟨dx, gs, e2, fr⟩ := T.rel.obj _ p _ hp q
        exact ⟨p, dx, gs, rfl, q, hp, e, e2, fr⟩
      | _ => simp only [q] at h; cases h
  | _ => cases h
/-- class, field: what may be asked of instances -/
abbrev FldT := Nat → Nat → Bool
def FldOk (G : Gd) (t : FldT) : Prop := ∀ c k, t c k = true → Cls G.K (G.ca c) ∧ NoAttr G.K (G.ca c) (G.nm k)
section
variable {X : Cx} {G : Gd} {W : WX} {F : Fm} {e o : Expr} {pos : Pos} {ma mo : EM}
def mFld (t : FldT) (k : Nat) (m : EM) : EM := fun ls S => (m ls S).bind fun v S1 => match insOf S1 v with
  | some (_, c, fs) => match t c k, lookF k fs with
    | true, some w => .ok w S1
    | _, _ => .bad
  | none => .bad
theorem me_fld {t : FldT} {k : Nat} {f : Str} (hk : X.K = G.K) (ht : FldOk G t) (hn : NmInj G) (hf : G.nm k = f) (ha : PE X e (tE G F W ma)) (hb : attributeBase e f X.env (eval e X.env) = eval e X.env) : PE X (.Attribute e f pos) (tE G F W (mFld t k ma)) := by
  refine PE_imp (pe_fld ha hb) fun σ H Q ⟨ρ, S, ls, T, h⟩ => ?_
  refine tE_bind T h fun v S1 ρ1 H1 x h1 x1 T1 r1 => ?_
  split at h1
  · rename_i i c fs q
    obtain ⟨p, dx, gs, _, _, _, e3, e4, fr⟩ := insOf_ok T1 r1 q
    split at h1
    · rename_i w q1 q2
      obtain ⟨c1, c2⟩ := ht c k q1
      obtain ⟨y, l1, ry⟩ := FR_look hn fr q2
      rw [hf] at c2 l1
      rw [hk]
      exact ⟨p, _, dx, gs, y, e3, e4, c1, c2, l1, h1 ρ1 H1 x1 T1 y ry⟩
    · exact h1.elim
  · exact h1.elim
/-- o.f = v: the store -/
def setF (t : FldT) (k : Nat) (v o : AV) (S : Sto) : Option Sto := match insOf S o with
  | some (i, c, fs) => match t c k, Nat.blt fs.length 1000 with
    | true, true => some (S.put i (.ins c (putFA k v fs)))
    | _, _ => none
  | none => none
theorem setF_ok {t : FldT} {k : Nat} {v ov : AV} {ρ : List Addr} {S S' : Sto} {ls : Lo} {σ : L2.St} {H : Hp} {x y : V} (ht : FldOk G t) (hn : NmInj G) (T : Stt G F ρ S ls σ H) (rv : RV G ρ H v y) (ro : RV G ρ H ov x) (h : setF t k v ov S = some S') :
    ∃ a C dx fs, x = .ref a ∧ H a = some (.ins C dx fs) ∧ Cls G.K C ∧ NoAttr G.K C (G.nm k) ∧ fs.length < 1000 ∧ Stt G F ρ S' ls σ (upd H a (.ins C dx (putF (G.nm k) y fs))) ∧ Ext ρ H ρ (upd H a (.ins C dx (putF (G.nm k) y fs))) := by
  unfold setF at h
  split at h
  · rename_i i c fs q
    obtain ⟨p, dx, gs, e1, e2, e3, e4, e5, fr⟩ := insOf_ok T ro q
    split at h
    · rename_i q1 q2
      cases h
      obtain ⟨c1, c2⟩ := ht c k q1
      obtain ⟨T2, x2⟩ := T.upd (o := .ins (G.ca c) dx (putF (G.nm k) y gs)) (ao := .ins c (putFA k v fs)) e3 e2 e5 (fun z => z) (fun ps z => by cases z) rfl rfl fun x => ⟨dx, _, upd_same, (FR_put hn rv fr).mono x⟩
      exact ⟨p, _, dx, gs, e4, e5, c1, c2, by rw [FR_len fr]; exact Nat.le_of_ble_eq_true q2, T2, x2⟩
    · cases h
  · cases h
def mSetF (t : FldT) (k : Nat) (mv mo : EM) : SM := fun ls S => (mv ls S).bind fun v S1 => (mo ls S1).bind fun o S2 => match setF t k v o S2 with
  | some S3 => .ok (.nx, ls) S3
  | none => .bad
theorem ms_setF {t : FldT} {k : Nat} {f : Str} {pos' : Pos} (hk : X.K = G.K) (ht : FldOk G t) (hn : NmInj G) (hf : G.nm k = f) (ho : PE X o (tE G F W mo)) (ha : PE X e (tE G F W ma)) (hs : swapsWith e (some (.Attribute o f pos')) pos.line X.env = pure false) :
    PS X (.Assign [.Attribute o f pos'] e pos) (tS G F W (mSetF t k ma mo)) := by
  refine PS_imp (ps_fld ho ha hs) fun D σ H ⟨ρ, S, ls, T, h⟩ => ?_
  refine tE_bind T h fun v S1 ρ1 H1 y h1 x1 T1 r1 => ?_
  refine tE_bind T1 h1 fun w S2 ρ2 H2 x h2 x2 T2 r2 => ?_
  split at h2
  · rename_i S3 q
    obtain ⟨a, C, dx, fs, e1, e2, e3, e4, e5, T3, x3⟩ := setF_ok ht hn T2 (r1.mono x2 v) r2 q
    rw [hf] at e4 T3 x3
    rw [hk]
    exact ⟨a, C, dx, fs, e1, e2, e3, e4, e5, h2 ρ2 _ σ (x1.trans (x2.trans x3)) T3⟩
  · exact h2.elim
/-- an attribute as a target -/
theorem pg_fld {f : Str} {to : TE} (ho : PE X o to) : PG X (.Attribute o f pos) (fun v σ H Q => to σ H fun x H1 => ∃ a C dx fs, x = .ref a ∧ H1 a = some (.ins C dx fs) ∧ Cls X.K C ∧ NoAttr X.K C f ∧ fs.length < 1000 ∧ Q σ (upd H1 a (.ins C dx (putF f v fs)))) := by
  refine ⟨fun pins s σ H v u Q I r h =>
        ?_⟩
  rw [assign_Attribute]
  refine wpAny_bind (wpAny_holding (thn (ho.run pins s σ H _ I h) fun ov s1 ⟨x, H1, I1, rx, a, C, dx, fs, ex, ea, c, n, l, q⟩ => ?_))
  subst ex
  obtain rfl : ov = Value.ref a :=
        rx
  refine wpAny_bind (wpAny_standAt (wpAny_bind (wpAny_holding (setattr_ok I1 ea c n l r fun s3 I3 => ?_))))
  exact wpAny_release ⟨σ, _, I3, q⟩
def onlyOk {α : Type} : Out α → Out α
  | .ok a S => .ok a S
  | _ => .bad
theorem onlyOk_sat {α : Type} {m : Out α} {P : α → Sto → Prop} {E E' : AE → Lo → Sto → Prop} (h : (onlyOk m).Sat P E) : m.Sat P E' := by
  cases m with
  | ok a S => exact h
  | _ => exact h.elim
def gFld (t : FldT) (k : Nat) (mo : EM) : GM := fun v ls S => (onlyOk (mo ls S)).bind fun o S1 => match setF t k v o S1 with
  | some S2 => .ok ls S2
  | none => .bad
theorem mg_fld {t : FldT} {k : Nat} {f : Str} (hk : X.K = G.K) (ht : FldOk G t) (hn : NmInj G) (hf : G.nm k = f) (ho : PE X o (tE G F W mo)) : PG X (.Attribute o f pos) (tGm G F (gFld t k mo)) := by
  refine PG_imp (pg_fld ho) fun v σ H Q ⟨ρ, S, ls, a, T, r, h⟩ => ?_
  unfold gFld at h
  have h := onlyOk_sat (E' := PostX G F W ρ H) (Out.sat_bind.mp h)
  refine ⟨ρ, S, ls, T, Out.sat_mono (fun w S1 z ρ1 H1 x1 T1 x rx => ?_) (fun _ _ _ z => z) h⟩
  split at z
  · rename_i S2 q
    obtain ⟨a', C, dx, fs, e1, e2, e3, e4, e5, T3, x3⟩ := setF_ok ht hn T1 (r.mono x1 a) rx q
    rw [hf] at e4 T3 x3
    rw [hk]
    exact ⟨a', C, dx, fs, e1, e2, e3, e4, e5, z ρ1 _ σ (x1.trans x3) T3⟩
  · exact z.elim
end
/-! ### own instances are made, their methods called -/
section
variable {X : Cx} {G : Gd} {W : WX} {F : Fm} {es : List Expr} {kws : List Keyword} {pos : Pos} {o : Expr} {mo : EM}
def mMake (c : Nat) (ps ks : List Str) (f : Fn) (m mk : AM) : EM := fun ls S => (kwArgs ps ks m mk ls S).bind fun zs S1 => match S1.ok with
  | true => (callA f (.ref S1.n :: zs) ls (S1.new (.ins c []))).bind fun v S2 => match v with
    | .non => .ok (.ref S1.n) S2
    | _ => .bad
  | false => .bad
theorem me_make {x : Str} {k c : Nat} {p0 : Str} {ps ks : List Str} {f : Fn} {ad : Addr} {m mk : AM} {isS : Pos} (hN : X.N.Nodup) (hcb : CBx X) (tk : Takes X W) (M : Mk X.K (G.ca c) ad) (Fc : FnC X.prog X.w X.K X.mg X.base G k ad (p0 :: ps) f) (hr : Room (k + 1) X.A) (hm : X.mg x = some (.ref (G.ca c)))
    (ha : PA X es (tA G (fm X) W m)) (h0 : es = [] → m = mNil) (hst : noStars es = true) (hkw : PK X kws (tA G (fm X) W mk)) (hks : kwNm kws = some ks) (hg : Gl X x) (hdb : (x == ("__debug__" : Str)) = false) :
    PE X (.Call (.Name x isS) es kws pos) (tE G (fm X) W (mMake c ps ks f m mk)) := by
  refine ⟨fun pins s σ H Q I ⟨ρ, S, ls, T, h⟩ => ?_⟩
  refine wpAny_Call_Name_kw
        (ld_glob I hg hm ?_ hdb)
  refine run_argsK I M.kp ha hst hkw hks T h h0 fun us ws s1 H1 ρ1 S1 zs zv zu I1 T1 x1 rv r b hl z => ?_
  cases q : S1.ok with
  | false => rw [q] at z; exact z.elim
  | true =>
    rw [q] at z
    have hx : H1 (s1.heap.objs.size + 1) = none := I1.hok.fresh (Nat.le_succ _)
    have hd : H1 s1.heap.objs.size = none := I1.hok.fresh (Nat.le_refl _)
    have ne : s1.heap.objs.size ≠ s1.heap.objs.size + 1 := Nat.ne_of_lt (Nat.lt_succ_self _)
    have I2 := Inv.made (C := G.ca c) I1
    obtain ⟨T2, x2⟩ := T1.side (o := .own (s1.heap.objs.size + 1)) hd
    obtain ⟨T3, x3⟩ := T2.new (p := s1.heap.objs.size + 1) (o := .ins (G.ca c) s1.heap.objs.size []) (ao := .ins c []) q (by rw [upd_ne (Ne.symm ne)]; exact hx) rfl ⟨_, _, upd_same, rfl⟩
    have rx : RV G (ρ1 ++ [s1.heap.objs.size + 1]) (upd (upd H1 s1.heap.objs.size (.own (s1.heap.objs.size + 1))) (s1.heap.objs.size + 1) (.ins (G.ca c) s1.heap.objs.size [])) (.ref S1.n) (.ref (s1.heap.objs.size + 1)) := by
      unfold RV
      exact ⟨_, by rw [← T1.rel.len]; simp, rfl⟩
    have xx := x2.trans x3
    refine wpAny_call (make_map (f := ad) I1.kIn M.makes M.init (beq_iff_eq.mp M.fn) (codeAny_mono (run_fnA (X := X) (Q := fun v H2 => v = .non ∧ Q (.ref (s1.heap.objs.size + 1)) H2) hN hcb tk Fc (hr.make (G.ca c) us (ks.zip ws)) I2 (I2.env0.make (G.ca c) us (ks.zip ws)) T3
      (zs := .ref S1.n :: zs) (zv := .ref (s1.heap.objs.size + 1) :: zv) (zu := .ref (s1.heap.objs.size + 1) :: zu) (a := ⟨.ref (s1.heap.objs.size + 1) :: us, ks.zip ws⟩) (by unfold RVs; exact ⟨_, _, rfl, rx, rv.mono xx zs⟩) (.cons rfl r) b.cons (by rw [List.length_cons, List.length_cons, hl]) ?_) fun r' s' hq' => ?_))
    · refine Out.sat_mono (fun v S2 y ρ2 H2 x4 T4 w rw_ => ?_) (fun _ _ _ y => y.ext (x1.trans xx)) (Out.sat_bind.mp z)
      cases v with
      | non =>
        unfold RV at rw_
        exact ⟨rw_, y ρ2 H2 (x1.trans (xx.trans x4)) T4 _ (rx.mono x4 _)⟩
      | _ => exact y.elim
    · cases r' with
      | error e => exact hq'
      | ok fl =>
        cases fl with
        | ret u =>
          obtain ⟨v, H', I3, rv', ev, q3⟩ := hq'
          subst ev
          exact ⟨rv', ⟨V.ref (s1.heap.objs.size + 1), H', I3, rfl, q3⟩⟩
        | next =>
              exact False.elim hq'
        | brk => exact False.elim hq'
        | cont =>
              exact False.elim hq'
theorem wp_mcall {M : Model} {A : Around} {E : Value → Shared → Prop} {s : Shared} {env : Env} {o : Expr} {name : Str} {apos pos : Pos} {args : List Expr} {kws : List Keyword} {Q : Value → Shared → Prop} (hbase : attributeBase o name env (eval o env) = eval o env)
    (hform : methodCallForm (args.length + kws.length) (backTo pos (starEach args env)) (backToKw pos (keywordEach kws env)) = true) (hline : (apos.endLine == pos.line) = true)
    (h : wpAny M A (eval o env) (fun ov s₁ => ∀ pl, wpAny M A (getMethod ov name pl) (fun fx s₂ => wpAny M A (callWith pos fx.1 fx.2 (backTo pos (starEach args env)) (backToKw pos (keywordEach kws env))) Q E s₂) E s₁) E s) :
    wpAny M A (eval (.Call (.Attribute o name apos) args kws pos) env) Q E s :=
          by
  rw [arm_eval_Call, hbase]
  refine wpAny_bind (wpAny_mono h (fun ov s₁ h₁ =>
        ?_) fun _ _ e => e)
  refine wpAny_bind
        (wpAny_standAt ?_)
  have hpos : methodCallPos true o env apos pos = pure pos :=
        by unfold methodCallPos; simp [hline]
  unfold methodCall
  rw [hform]
  refine wpAny_bind (wpAny_holding (wpAny_mono (h₁ _) (fun fx s₂ h₂ => ?_) fun _ _ e => e))
  exact wpAny_bind (wpAny_of_eq hpos h₂)
theorem form_ok {env : Env} (hst : noStars es = true) {ks : List Str} (hks : kwNm kws = some ks) (hl : es.length + kws.length < 29) : methodCallForm (es.length + kws.length) (backTo pos (starEach es env)) (backToKw pos (keywordEach kws env)) = true := by
  obtain ⟨k1, k2, k3⟩ := kwNm_ok (env := env) (pos := pos) hks
  have a : (backTo pos (starEach es env)).all (fun x => !x.1) = true := by
    induction es with
    | nil => rfl
    | cons e r ih =>
      unfold noStars at hst
      rw [Bool.and_eq_true] at hst
      rw [star_cons hst.1]
      show ((!false) && (backTo pos (starEach r env)).all (fun x => !x.1)) = true
      rw [ih hst.2 (by rw [List.length_cons] at hl; omega)]
      rfl
  unfold methodCallForm
  rw [a, k1]
  simp only [Bool.true_and, decide_eq_true_eq]
  split <;> omega
abbrev MT := Nat → Nat → Option (List Str × Fn)
def MOk (X : Cx) (G : Gd) (k : Nat) (M : MT) : Prop := ∀ c m ps f, M c m = some (ps, f) → Cls G.K (G.ca c) ∧ ∃ ad p0, Meth G.K (G.ca c) (G.nm m) ad ∧ FnC X.prog X.w X.K X.mg X.base G k ad (p0 :: ps) f
def mMth (M : MT) (k : Nat) (ks : List Str) (mo : EM) (m mk : AM) : EM := fun ls S => (mo ls S).bind fun o S1 => match insOf S1 o with
  | some (_, c, fs) => match M c k, lookF k fs with
    | some (ps, f), none => (kwArgs ps ks m mk ls S1).bind fun zs S2 => callA f (o :: zs) ls S2
    | _, _ => .bad
  | none => .bad
theorem me_mth {name : Str} {kk k : Nat} {ks : List Str} {M : MT} {m mk : AM} {apos : Pos} (hk : X.K = G.K) (hN : X.N.Nodup) (hcb : CBx X) (tk : Takes X W) (hM : MOk X G kk M) (hn : NmInj G) (hf : G.nm k = name) (hr : Room kk X.A) (ho : PE X o (tE G (fm X) W mo))
    (ha : PA X es (tA G (fm X) W m)) (h0 : es = [] → m = mNil) (hst : noStars es = true) (hkw : PK X kws (tA G (fm X) W mk)) (hks : kwNm kws = some ks) (hl : es.length + kws.length < 29) (hbase : attributeBase o name X.env (eval o X.env) = eval o X.env) (hline : (apos.endLine == pos.line) = true) :
    PE X (.Call (.Attribute o name apos) es kws pos) (tE G (fm X) W (mMth M k ks mo m mk)) := by
  refine ⟨fun pins s σ H Q I ⟨ρ, S, ls, T, h⟩ => ?_⟩
  have ht : tE G (fm X) W mo σ H (fun x H1 => ∃ ρ1 S1 v, Stt G (fm X) ρ1 S1 ls σ H1 ∧ Ext ρ H ρ1 H1 ∧ RV G ρ1 H1 v x ∧ ((fun o S1 => match insOf S1 o with
      | some (_, c, fs) => match M c k, lookF k fs with
        | some (ps, f), none => (kwArgs ps ks m mk ls S1).bind fun zs S2 => callA f (o :: zs) ls S2
        | _, _ => .bad
      | none => .bad : AV → Sto → Out AV) v S1).Sat (PostV G (fm X) ρ ls σ H Q) (PostX G (fm X) W ρ H)) :=
    ⟨ρ, S, ls, T, Out.sat_mono (fun v S1 z ρ1 H1 x1 T1 x r1 => ⟨ρ1, S1, v, T1, x1, r1, z⟩) (fun _ _ _ z => z) (Out.sat_bind.mp h)⟩
  refine wp_mcall hbase (form_ok hst hks hl) hline (thn (ho.run pins s σ H _ I ht) fun u s1 ⟨x, H1, I1, rx, ρ1, S1, v, T1, x1, r1, z⟩ pl => ?_)
  dsimp only at z
  split at z
  · rename_i i c fs q
    obtain ⟨p, dx, gs, e1, e2, e3, e4, e5, fr⟩ := insOf_ok T1 r1 q
    split at z
    · rename_i ps f q1 q2
      subst e4
      obtain rfl : u = Value.ref p :=
            rx
      obtain ⟨c1, ad, p0, c2, Fc⟩ := hM c k ps f q1
      rw [← hk] at c1 c2
      have ln := FR_none hn fr q2
      rw [hf] at ln c2
      refine getmeth_ok I1 e5 c1 c2 ln ?_
      have z := Out.sat_mono (fun _ _ z => z.ext x1) (fun _ _ _ z => z.ext x1) z
      refine run_argsK (first := [.ref p]) I1 Fc.kp ha hst hkw hks T1 z h0 fun us ws s2 H2 ρ2 S2 zs zv zu I2 T2 x2 rv r b hl2 z2 => ?_
      have rp : RV G ρ2 H2 v (.ref p) := r1.mono x2 v
      exact code_wp (run_fnA (zs := v :: zs) (zv := .ref p :: zv) (zu := .ref p :: zu) (a := ⟨.ref p :: us, ks.zip ws⟩) hN hcb tk Fc hr I2 I2.env0 T2 (by unfold RVs; exact ⟨_, _, rfl, rp, rv⟩) (.cons rfl r) b.cons (by rw [List.length_cons, List.length_cons, hl2]) (Out.sat_mono (fun _ _ z => z.ext x2) (fun _ _ _ z => z.ext x2) z2))
    · exact z.elim
  · exact z.elim
end
end Sh

end

noncomputable section
namespace Sh
open PySem PySem.Spec PyProof.Rows L2 LamX He
/-! ### from the text to plain functions: what a compilation knows -/
/-- a global name: a def of the text (its number, its parameters); an own class (its __init__'s number, its own, the parameters); a built-in; a constant; a table of texts; an own error (its class's number, its field's) -/
inductive GI where
  | fn (j : Nat) (ps : List Str)
  | cls (j c : Nat) (ps : List Str)
  | bt
  | cst (a : AV)
  | tbl (j : Nat) (t : Tbl)
  | exc (c : Nat) (f : Option Nat)
def veBm : List Value := [.type "ValueError", .type "Exception", .type "BaseException", .type "object"]
structure CF where
  N : List Str
  sc : Scope
  q : Str
  glob : List (Str × GI)
  lam : Nat → LamD
  lamNo : List ((Nat × Nat) × Nat)
  fnc : Str → Bool
  calm : Bool
  top : Bool
  lamk : Bool
  nm : Nat → Str
  nc : Nat
  fld : FldT
  no : Str → Option Nat
/-- the tables that a body runs over: defs by number, what is called by value -/
structure Tb where
  f : Nat → Fn
  d : DT
  l : LT
  m : MT
def look {α : Type} : List (Str × α) → Str → Option α
  | [], _ => none
  | (y, a) :: r, x => match decide (y = x) with
    | true => some a
    | false => look r x
def okName (x : Str) : Bool := !(x == ("__debug__" : Str)) && (!(x == ("__classdict__" : Str)) && !decide (x = ("__name__" : Str)))
theorem okName_ok {x : Str} (h : okName x = true) : (x == ("__debug__" : Str)) = false ∧ (x == ("__classdict__" : Str)) = false ∧ x ≠ "__name__" := by
  unfold okName at h
  simp only [Bool.and_eq_true,
        Bool.not_eq_true'] at h
  exact ⟨h.1, h.2.1, of_decide_eq_false h.2.2⟩
def GIOkP (P : Program) (w : World) (K : PySem.W.Frag) (mg : Str → Option Value) (base : Heap) (G : Gd) (T : Tb) (kk : Nat) (x : Str) : GI → Prop
  | .fn j ps => mg x = some (.ref (G.fa j)) ∧ FnC P w K mg base G kk (G.fa j) ps (T.f j)
  | .cls j c ps => mg x = some (.ref (G.ca c)) ∧ Mk K (G.ca c) (G.fa j) ∧ ∃ p0, FnC P w K mg base G (kk - 1) (G.fa j) (p0 :: ps) (T.f j)
  | .bt => mg x = none
  | .cst a => ∃ v u, mg x = some u ∧ RelV v u ∧ ∀ ρ H, RV G ρ H a v
  | .tbl j t => mg x = some (.ref (G.fa j)) ∧ (∃ es n, KDict K w (G.fa j) es n) ∧ TblOk K (G.fa j) t
  | .exc c f => mg x = some (.ref (G.ca c)) ∧ match f with
    | some f => ∃ fI, PySem.OXn.OTxt K mg x (G.nm f) (G.ca c) fI
    | none => PySem.W.excIn K (G.ca c) veBm "ValueError.__new__" = true ∧ PySem.W.keepIn K (.ref (G.ca c)) = true ∧ PySem.W.subIn K (.ref (G.ca c)) (.type "BaseException") = some true ∧ PySem.W.typeIn K (.ref (G.ca c)) = some (.type "type")
section
variable (X : Cx) (G : Gd) (W : WX)
abbrev GIOk (T : Tb) (kk : Nat) (x : Str) (gi : GI) : Prop := GIOkP X.prog X.w X.K X.mg X.base G T kk x gi
structure FrOk (cfg : CF) : Prop where
  N : X.N = cfg.N
  sc : X.env.scope = cfg.sc
  q : X.env.qual = cfg.q
  K : X.K = G.K
  nd : X.N.Nodup
  cb : CBx X
  tk : Takes X W
  lam : G.lam = cfg.lam
  nm : G.nm = cfg.nm
  fnc : ∀ x, cfg.fnc x = true → X.fn x = true
  calm : cfg.calm = true → X.calm = true
  top : cfg.top = true → X.stack = X.env :: X.outer ∧ X.env.frame = some X.env.locals
  po : cfg.top = true → PassesOwn (model X.prog X.w) X.A X.env X.xe
  lamk : cfg.lamk = true → ∃ cp P, TabB X.base X.mg cp P ∧ X.env.code = .ref cp ∧ (P, cfg.q ++ "<lambda>") ∈ G.T ∧ ∀ p ∈ G.T, p.1 = P → p.2 = cfg.q ++ "<lambda>"
structure GlOk (cfg : CF) (T : Tb) (kk : Nat) : Prop where
  glob : ∀ x gi, look cfg.glob x = some gi → GIOk X G T kk x gi
  d : DOk X G kk T.d
  l : LOk X G kk T.l
  room : cfg.calm = true → Room kk X.A
  kit : KitOk G.K
  exm : ExmOk G cfg.nc
  nm : NmInj G
  fld : FldOk G cfg.fld
  m : MOk X G kk T.m
  pos : 1 ≤ kk
end
structure Lv where
  E : CF → Expr → Option (Tb → EM)
  T : CF → Expr → Option (Tb → TM)
  S : CF → Stmt → Option (Tb → SM)
structure LvOk (L : Lv) : Prop where
  E : ∀ {cfg e m}, L.E cfg e = some m → ∀ {X G W T kk}, FrOk X G W cfg → GlOk X G cfg T kk → PE X e (tE G (fm X) W (m T))
  T : ∀ {cfg e m}, L.T cfg e = some m → ∀ {X G W T kk}, FrOk X G W cfg → GlOk X G cfg T kk → PT X e (tT G (fm X) W (m T))
  S : ∀ {cfg e m}, L.S cfg e = some m → ∀ {X G W T kk}, FrOk X G W cfg → GlOk X G cfg T kk → PS X e (tS G (fm X) W (m T))
/-! ### looks at the text alone -/
def envD (sc : Scope) : Env := { scope := sc, locals := 0, globals := 0, cells := [] }
theorem kind_eq {env : Env} {sc : Scope} (h : env.scope = sc) (x : Str) : env.kindOf x = (envD sc).kindOf x := by
  unfold Env.kindOf
  rw [h]
  rfl
theorem block_eq {env : Env} {sc : Scope} (h : env.scope = sc) : env.blockKind = (envD sc).blockKind := by
  unfold Env.blockKind
  rw [h]
  rfl
theorem swaps_eq {env : Env} {sc : Scope} (h : env.scope = sc) (v : Expr) (t : Option Expr) (l : Nat) : swapsWith v t l env = swapsWith v t l (envD sc) := by
  have k := kind_eq h
  have b := block_eq h
  unfold swapsWith
  simp only [k, b, h]
  rfl
theorem stores_eq {env : Env} {sc : Scope} (h : env.scope = sc) (ts : List Expr) (v : Expr) : swappedStores ts v env = swappedStores ts v (envD sc) := by
  have k := kind_eq h
  have b := block_eq h
  unfold swappedStores
  simp only [k, b]
def plainT : Expr → Bool
  | .UnaryOp _ _ _ => false
  | .BoolOp _ _ _ => false
  | .IfExp _ _ _ _ => false
  | .Compare _ _ _ _ => false
  | _ => true
theorem plainT_ok {a : Expr} {env : Env} (h : plainT a = true) : ∀ whole, isTrue a env whole = (do let v ← whole; standAt a.pos; holding [v] (truthy v)) := by
  intro whole
  cases a with
  | UnaryOp _ _ _ => cases h
  | BoolOp _ _ _ => cases h
  | IfExp _ _ _ _ => cases h
  | Compare _ _ _ _ => cases h
  | _ => rfl
def notSuper : Expr → Bool
  | .Call (.Name _ _) [] [] _ => false
  | _ => true
theorem notSuper_ok {o : Expr} {n : Str} {env : Env} (h : notSuper o = true) : attributeBase o n env (eval o env) = eval o env := by
  unfold attributeBase
  split
  · rename_i id p pos
    cases h
  · rfl
def notSlice : Expr → Bool
  | .Slice _ _ none _ => false
  | _ => true
theorem notSlice_ok {b : Expr} (h : notSlice b = true) : PlainIx b := by
  intro o i
  unfold subscripted
  split
  · cases h
  · rename_i q; cases q
  · rfl
def notSet : Expr → Bool
  | .Set _ _ _ => false
  | _ => true
theorem notSet_it {e : Expr} {env : Env} (h : notSet e = true) : ∀ x, foldedSetIterable e env x = pure x := by
  intro x
  unfold foldedSetIterable
  split
  · cases h
  · rfl
theorem notSet_mark {op : CmpOp} {b : Expr} (h : notSet b = true) : behindInMarks op b = false := by
  cases b <;> first
    | rfl
    | cases h
/-- few arguments, no stars, no keywords -/
theorem few_ok {es : List Expr} {env : Env} {pos : Pos} (h : noStars es = true) (hl : es.length < 30) : ((backTo pos (starEach es env)).all (fun x => !x.1) && (backToKw pos (keywordEach [] env)).all (fun x => x.1.isSome)
      && decide (es.length + ([] : List Keyword).length + (if ([] : List Keyword).isEmpty then 0 else 1) < 30)) = true := by
  have a : (backTo pos (starEach es env)).all (fun x => !x.1) = true := by
    induction es with
    | nil => rfl
    | cons e r ih =>
      unfold noStars at h
      rw [Bool.and_eq_true] at h
      rw [star_cons h.1]
      show ((!false) && (backTo pos (starEach r env)).all (fun x => !x.1)) = true
      rw [ih h.2 (Nat.lt_of_succ_lt hl)]
      rfl
  rw [a]
  show (true && true && decide _) = true
  simpa using hl
end Sh

end

noncomputable section
namespace Sh
open PySem PySem.Spec PyProof.Rows L2 LamX He
section
variable {X : Cx} {G : Gd} {W : WX} {F : Fm} {e : Expr} {es : List Expr} {p pos : Pos}
/-! ### *e in a display, in a call -/
def mStar (m : EM) (n : AM) : AM := fun ls S => (m ls S).bind fun v S1 => match seqOf S1 v with
  | some ys => (n ls S1).bind fun zs S2 => .ok (ys ++ zs) S2
  | none => .bad
theorem RVs_mono {ρ ρ' : List Addr} {H H' : Hp} (x : Ext ρ H ρ' H') : ∀ {xs : List AV} {vs : List V}, RVs G ρ H xs vs → RVs G ρ' H' xs vs := fun {xs vs} r => r.mono x xs
theorem ma_star {ma : EM} {mr : AM} (hk : X.K = G.K) (ha : PE X e (tE G F W ma)) (hr : PA X es (tA G F W mr)) (hs : starEach (.Starred e p :: es) X.env = (true, eval e X.env) :: starEach es X.env) : PA X (.Starred e p :: es) (tA G F W (mStar ma mr)) := by
  refine PA_imp (StX.pa_star ha hr hs) fun σ H Q ⟨ρ, S, ls, T, h⟩ => ?_
  refine tE_bind T h fun v S1 ρ1 H1 x h1 x1 T1 r1 => ?_
  cases q : seqOf S1 v with
  | none => rw [q] at h1; exact h1.elim
  | some ys =>
    rw [q] at h1
    obtain ⟨a, ws, rfl, rs, k⟩ := seqOf_ok T1 r1 q
    refine ⟨a, ws, rfl, ?_, tA_bind T1 h1 fun vs S2 ρ2 H2 xs h2 x2 T2 r2 => h2 ρ2 H2 (x1.trans x2) T2 (ws ++ xs) (RVs_app (RVs_mono x2 rs) r2)⟩
    rcases k with ⟨_, _, _, _, z⟩ | ⟨_, z⟩
    · exact .inr (SqL.of z)
    · exact .inl (by rw [hk]; exact z)
/-! ### tuple(x) -/
def fTuple : List AV → Sto → Out AV := fun xs S => match xs with
  | [.tup ys] => .ok (.tup ys) S
  | [.ref i] => match S.get i with
    | some (.lst ys) => .ok (.tup ys) S
    | _ => .bad
  | _ => .bad
theorem cs_tuple (hk : X.K = G.K) : CallS G F W (fun xs H Q => ∃ p ys, xs = [.ref p] ∧ ((SqL X.K H p ys ∧ ∀ l, H l = none → Q (.ref l) (upd H l (.tup ys))) ∨ (SqT X.K H p ys ∧ Q (.ref p) H))) fTuple := fun ρ S ls σ H xs vs Q T r h => by
  unfold fTuple at h
  split at h
  · obtain ⟨v, rfl, rv⟩ := rvs1 r
    have rv0 := rv
    unfold RV at rv
    obtain ⟨p, ws, rfl, e, rs, k⟩ := rv
    exact ⟨p, ws, rfl, .inr ⟨by rw [hk]; exact e, h ρ H (Ext.refl _ _) T (.ref p) rv0⟩⟩
  · rename_i i
    obtain ⟨v, rfl, rv⟩ := rvs1 r
    unfold RV at rv
    obtain ⟨p, hp, rfl⟩ := rv
    split at h
    · rename_i ys hg
      obtain ⟨ws, e, rs⟩ := T.rel.obj i p _ hp hg
      refine ⟨p, ws, rfl, .inl ⟨SqL.of e, fun l hl => ?_⟩⟩
      obtain ⟨T2, x2⟩ := T.side (o := .tup ws) hl
      refine h ρ _ x2 T2 (.ref l) ?_
      unfold RV
      exact ⟨l, ws, rfl, SqT.of upd_same, RVs_mono x2 rs, .inl upd_same⟩
    · exact h.elim
  · exact h.elim
/-! ### + -/
def fAdd (x y : AV) (S : Sto) : Out AV := match x, y with
  | .int i, .int j => .ok (.int (i + j)) S
  | .str s, .str t => match Nat.ble (s.length + t.length) 10000000 with
    | true => .ok (.str (s ++ t)) S
    | false => .bad
  | .tup xs, .tup ys => match Nat.ble (xs.length + ys.length) 10000000 with
    | true => .ok (.tup (xs ++ ys)) S
    | false => .bad
  | .ref i, .ref j => match S.get i, S.get j with
    | some (.lst xs), some (.lst ys) => newL (xs ++ ys) S
    | _, _ => .bad
  | _, _ => .bad
def rAdd (K : PySem.W.Frag) : R2 := fun x y H Q => (rI0 (fun i j => .int (i + j)) x y H Q ∨ (∃ i j, x = .str i ∧ y = .str j ∧ i.length + j.length ≤ sizeLine ∧ Q (.str (i ++ j)) H)) ∨ (rCatA K x y H Q ∨ rCat x y H Q)
theorem op_addB : OpR X (binaryOp .Add) (rAdd X.K) := (op_add.or op_add_str).or (op_catA.or op_cat)
theorem toS_app (s t : List Nat) : toS s ++ toS t = toS (s ++ t) := by
  show (⟨s.toArray ++ t.toArray⟩ : Str) = ⟨(s ++ t).toArray⟩
  simp
theorem le_line {n : Nat} (h : Nat.ble n 10000000 = true) : n ≤ sizeLine := Nat.le_trans (Nat.le_of_ble_eq_true h) (by rw [sizeLine_eq]; decide)
theorem os_addB (hk : X.K = G.K) : OpS G F W (rAdd X.K) fAdd := fun ρ S ls σ H x y v w Q T rx ry h => by
  unfold fAdd at h
  split at h
  · rename_i i j
    unfold RV at rx ry
    subst rx ry
    exact .inl (.inl ⟨i, j, rfl, rfl, h ρ H (Ext.refl _ _) T _ rv_int⟩)
  · rename_i s t
    unfold RV at rx ry
    subst rx ry
    cases q : Nat.ble (s.length + t.length) 10000000 with
    | false => rw [q] at h; exact h.elim
    | true =>
      rw [q] at h
      refine .inl (.inr ⟨toS s, toS t, rfl, rfl, le_line q, ?_⟩)
      rw [toS_app]
      exact h ρ H (Ext.refl _ _) T _ rv_str
  · rename_i xs ys
    unfold RV at rx ry
    obtain ⟨a, vs, rfl, sa, ra, ka⟩ := rx
    obtain ⟨b, ws, rfl, sb, rb, kb⟩ := ry
    cases q : Nat.ble (xs.length + ys.length) 10000000 with
    | false => rw [q] at h; exact h.elim
    | true =>
      rw [q] at h
      have l1 := RVs_len ra
      have l2 := RVs_len rb
      refine .inr (.inl ⟨a, b, vs, ws, rfl, rfl, by rw [hk]; exact sa, by rw [hk]; exact sb, by rw [l1, l2]; exact le_line q, fun e => ?_, fun e1 e2 => ?_, fun e1 e2 p hp => ?_⟩)
      · subst e
        have z : xs = [] := List.eq_nil_of_length_eq_zero (by rw [← l1]; rfl)
        subst z
        refine h ρ H (Ext.refl _ _) T _ ?_
        unfold RV
        exact ⟨b, ws, rfl, sb, rb, kb⟩
      · subst e2
        have z : ys = [] := List.eq_nil_of_length_eq_zero (by rw [← l2]; rfl)
        subst z
        refine h ρ H (Ext.refl _ _) T _ ?_
        rw [List.append_nil]
        unfold RV
        exact ⟨a, vs, rfl, sa, ra, ka⟩
      · obtain ⟨T2, x2⟩ := T.side (o := .tup (vs ++ ws)) hp
        refine h ρ _ x2 T2 (.ref p) ?_
        unfold RV
        exact ⟨p, _, rfl, SqT.of upd_same, RVs_mono x2 (RVs_app ra rb), .inl upd_same⟩
  · rename_i i j
    unfold RV at rx ry
    obtain ⟨a, ha, rfl⟩ := rx
    obtain ⟨b, hb, rfl⟩ := ry
    split at h
    · rename_i xs ys q1 q2
      obtain ⟨vs, e1, r1⟩ := T.rel.obj i a _ ha q1
      obtain ⟨ws, e2, r2⟩ := T.rel.obj j b _ hb q2
      have ra := RVs_app r1 r2
      obtain ⟨z1, k2⟩ := newL_ok (Q := Q) T ra h
      refine .inr (.inr ⟨a, b, vs, ws, rfl, rfl, e1, e2, by rw [List.length_append] at z1; exact z1, fun l hl => ?_⟩)
      obtain ⟨ρ', S', T2, x2, q, r⟩ := k2 l hl
      exact q ρ' _ x2 T2 _ r
    · exact h.elim
  · exact h.elim
/-! ### * -/
def inW (i : Int) : Bool := decide (-9223372036854775808 ≤ i) && decide (i < 9223372036854775808)
theorem inW_ok {i : Int} (h : inW i = true) : -(2 ^ 63) ≤ i ∧ i < 2 ^ 63 := by
  unfold inW at h
  obtain ⟨h1, h2⟩ := ba h
  have a := of_decide_eq_true h1
  have b := of_decide_eq_true h2
  constructor
  · have e : (-(2 ^ 63) : Int) = -9223372036854775808 := by decide
    rw [e]; exact a
  · have e : ((2 ^ 63) : Int) = 9223372036854775808 := by decide
    rw [e]; exact b
def fMul (x y : AV) (S : Sto) : Out AV := match x, y with
  | .int i, .int j => match inW i with
    | true => .ok (.int (i * j)) S
    | false => .bad
  | .ref i, .int k => match S.get i, inW k with
    | some (.lst xs), true => match Nat.ble (xs.length * k.toNat) 10000000 with
      | true => newL (List.replicate k.toNat xs).flatten S
      | false => .bad
    | _, _ => .bad
  | _, _ => .bad
def rMulB : R2 := fun x y H Q => rI CMul (fun i j => .int (i * j)) x y H Q ∨ rRep x y H Q
theorem op_mulB : OpR X (binaryOp .Mult) rMulB := op_mul.or op_rep
theorem RVs_rep {ρ : List Addr} {H : Hp} {xs : List AV} {vs : List V} (r : RVs G ρ H xs vs) : ∀ n, RVs G ρ H (List.replicate n xs).flatten (List.replicate n vs).flatten
  | 0 => by
    show RVs G ρ H [] []
    unfold RVs
    rfl
  | n + 1 => by
    rw [List.replicate_succ,
          List.replicate_succ, List.flatten_cons, List.flatten_cons]
    exact RVs_app r (RVs_rep r n)
theorem os_mulB : OpS G F W rMulB fMul := fun ρ S ls σ H x y v w Q T rx ry h => by
  unfold fMul at h
  split at h
  · rename_i i j
    unfold RV at rx ry
    subst rx ry
    cases q : inW i with
    | false => rw [q] at h; exact h.elim
    | true =>
      rw [q] at h
      obtain ⟨b1, b2⟩ := inW_ok q
      refine .inl ⟨i, j, rfl, rfl, .inl ⟨?_, ?_⟩, h ρ H (Ext.refl _ _) T _ rv_int⟩
      · omega
      · omega
  · rename_i i k
    unfold RV at rx ry
    obtain ⟨a, ha, rfl⟩ := rx
    subst ry
    split at h
    · rename_i xs q1 q2
      cases q3 : Nat.ble (xs.length * k.toNat) 10000000 with
      | false => rw [q3] at h; exact h.elim
      | true =>
        rw [q3] at h
        obtain ⟨b1, b2⟩ := inW_ok q2
        obtain ⟨vs, e1, r1⟩ := T.rel.obj i a _ ha q1
        obtain ⟨z1, k2⟩ := newL_ok (Q := Q) T (RVs_rep r1 k.toNat) h
        refine .inr ⟨a, k, vs, rfl, rfl, e1, b1, b2, by rw [RVs_len r1]; exact le_line q3, fun l hl => ?_⟩
        obtain ⟨ρ', S', T2, x2, q, r⟩ := k2 l hl
        exact q ρ' _ x2 T2 _ r
    · exact h.elim
  · exact h.elim
/-! ### % and // -/
def gMod (i j : Int) : Option AV := match decide (0 < j) with
  | true => some (.int (i % j))
  | false => none
def gDiv (i j : Int) : Option AV := match decide (0 < j), decide (j < 1073741824) with
  | true, true => some (.int (i / j))
  | _, _ => none
theorem os_mod : OpS G F W (rI (fun _ j => 0 < j) fun i j => .int (i % j)) (fI gMod) := os_I fun i j a h => by
  unfold gMod at h
  split at h
  · rename_i q
    cases h
    exact ⟨of_decide_eq_true q, fun _ _ => rv_int⟩
  · cases h
theorem os_div : OpS G F W (rI CDiv fun i j => .int (i / j)) (fI gDiv) := os_I fun i j a h => by
  unfold gDiv at h
  split at h
  · rename_i q1 q2
    cases h
    exact ⟨⟨of_decide_eq_true q1, of_decide_eq_true q2⟩, fun _ _ => rv_int⟩
  · cases h
end
end Sh

end

noncomputable section
namespace Sh
open PySem PySem.Spec PyProof.Rows L2 LamX He
/-! ### == and != of data at any depth -/
def mapO {α β : Type} (f : α → Option β) : List α → Option (List β)
  | [] => some []
  | a :: r => match f a with
    | some b => match mapO f r with
      | some q => some (b :: q)
      | none => none
    | none => none
def scOk (s : List Nat) : Bool := s.all fun c => Nat.blt c 1114112
def toD (S : Sto) : Nat → AV → Option PyData
  | 0, _ => none
  | n + 1, x => match x with
    | .non => some .none
    | .bl b => some (.bool b)
    | .int i => some (.int i)
    | .str s => match scOk s with
      | true => some (.str (toS s))
      | false => none
    | .tup xs => match mapO (toD S n) xs with
      | some ds => some (.tuple ds)
      | none => none
    | .ref i => match S.get i with
      | some (.lst xs) => match mapO (toD S n) xs with
        | some ds => some (.list ds)
        | none => none
      | _ => none
    | _ => none
/-- two rows of data, item by item -/
def eqAll (f : PyData → PyData → Bool) : List PyData → List PyData → Bool
  | [], [] => true
  | x :: xs, y :: ys => match f x y with
    | true => eqAll f xs ys
    | false => false
  | _, _ => false
def dEq : Nat → PyData → PyData → Bool
  | 0, _, _ => false
  | n + 1, x, y => match x, y with
    | .none, .none => true
    | .bool a, .bool b => (match a, b with
      | true, true => true
      | false, false => true
      | _, _ => false)
    | .bool a, .int j => decide ((match a with
      | true => (1 : Int)
      | false => 0) = j)
    | .int i, .bool b => decide (i = match b with
      | true => (1 : Int)
      | false => 0)
    | .int i, .int j => decide (i = j)
    | .str x, .str y => eqL x.cps.toList y.cps.toList
    | .list xs, .list ys => eqAll (dEq n) xs ys
    | .tuple xs, .tuple ys => eqAll (dEq n) xs ys
    | _, _ => false
theorem depth_all {n : Nat} : ∀ {ds : List PyData}, PyData.depthAll ds ≤ n → ∀ d ∈ ds, d.depth ≤ n
  | x :: xs, h, d, hd => by
    simp only [PyData.depthAll] at h
    rcases List.mem_cons.mp hd with e | e
    · rw [e]; omega
    · exact depth_all (by omega) d e
theorem eqAll_ok {f : PyData → PyData → Bool} : ∀ {xs ys : List PyData}, (∀ x ∈ xs, ∀ y, f x y = PyData.eqv x y) → eqAll f xs ys = PyData.eqvAll xs ys
  | [], [], _ => by simp only [eqAll, PyData.eqvAll]
  | [], _ :: _, _ => by simp only [eqAll, PyData.eqvAll]
  | _ :: _, [], _ => by simp only [eqAll, PyData.eqvAll]
  | x :: xs, y :: ys, h => by
    simp only [eqAll, PyData.eqvAll]
    rw [h x List.mem_cons_self y, eqAll_ok fun z hz => h z (List.mem_cons_of_mem _ hz)]
    cases PyData.eqv x y <;> rfl
theorem eqL_str (x y : Str) : eqL x.cps.toList y.cps.toList = (x == y) := by
  obtain ⟨⟨a⟩⟩ := x
  obtain ⟨⟨b⟩⟩ := y
  show eqL a b = (toS a == toS b)
  rw [← toS_dec]
  by_cases h : toS a = toS b <;> simp [h]
theorem dI (i j : Int) : decide (i = j) = (i == j) := by
  by_cases h : i = j
  · rw [h]; simp
  · rw [decide_eq_false h]
    exact (beq_eq_false_iff_ne.mpr h).symm
theorem dEq_ok : ∀ (n : Nat) (d e : PyData), d.depth < n → dEq n d e = PyData.eqv d e
  | 0, _, _, h =>
        absurd h (Nat.not_lt_zero _)
  | n + 1, d, e, h => by
    cases d with
    | none => cases e <;> simp only [dEq, PyData.eqv]
    | bool a => cases e <;> simp only [dEq, PyData.eqv]
                · rename_i b; cases a <;> cases b <;> rfl
                · rename_i j; cases a <;> exact dI _ _
    | int i => cases e <;> simp only [dEq, PyData.eqv]
               · rename_i b; cases b <;> exact dI _ _
               · exact dI _ _
    | str x => cases e <;> simp only [dEq, PyData.eqv]
               exact eqL_str _ _
    | list xs =>
      cases e <;> simp only [dEq, PyData.eqv]
      refine eqAll_ok fun x hx y => dEq_ok n x y ?_
      simp only [PyData.depth] at h
      have := depth_all (Nat.le_refl _) x hx
      omega
    | tuple xs =>
      cases e <;> simp only [dEq, PyData.eqv]
      refine eqAll_ok fun x hx y => dEq_ok n x y ?_
      simp only [PyData.depth] at h
      have := depth_all (Nat.le_refl _) x hx
      omega
    | dict kvs => cases e <;> simp only [dEq, PyData.eqv]
theorem scOk_ok {s : List Nat} (h : scOk s = true) : PyData.canLay0 (.str (toS s)) = true := by
  unfold PyData.canLay0 PyData.strOk
  show (s.toArray).all (fun c => decide (c < 0x110000)) = true
  rw [List.all_toArray, List.all_eq_true]
  intro c hc
  exact decide_eq_true (Nat.le_of_ble_eq_true (List.all_eq_true.mp h c hc))
section
variable {X : Cx} {G : Gd} {W : WX} {F : Fm}
/-- data told of: it reads so, it is shaped, not deep -/
structure DatD (K : PySem.W.Frag) (H : Hp) (n : Nat) (v : V) (d : PyData) : Prop where
  dp : Dp K H v d
  lay : d.canLay0 = true
  deep : d.depth ≤ n
theorem mapO_ok {ρ : List Addr} {H : Hp} {f : AV → Option PyData} {n : Nat} : ∀ {xs : List AV} {ds : List PyData} {vs : List V}, (∀ x ∈ xs, ∀ d v, f x = some d → RV G ρ H x v → DatD G.K H n v d) → mapO f xs = some ds → RVs G ρ H xs vs → DpAll G.K H vs ds ∧ PyData.canLayAll0 ds = true ∧ PyData.depthAll ds ≤ n
  | [], ds, vs, _, h, r => by
    unfold mapO at h
    cases h
    unfold RVs at r
    subst r
    exact ⟨.nil, by simp only [PyData.canLayAll0], by simp only [PyData.depthAll]; omega⟩
  | x :: xs, ds, vs, hf, h, r => by
    unfold mapO at h
    unfold RVs at r
    obtain ⟨v, ws, rfl, r1, r2⟩ := r
    cases q : f x with
    | none => rw [q] at h; cases h
    | some d =>
      rw [q] at h
      dsimp only at h
      cases q2 : mapO f xs with
      | none => rw [q2] at h; cases h
      | some es =>
        rw [q2] at h
        cases h
        obtain ⟨a1, a2, a3⟩ := hf x List.mem_cons_self d v q r1
        obtain ⟨b1, b2, b3⟩ := mapO_ok (fun y hy => hf y (List.mem_cons_of_mem _ hy)) q2 r2
        exact ⟨.cons a1 b1, by simp only [PyData.canLayAll0, a2, b2]; rfl, by simp only [PyData.depthAll]; omega⟩
theorem toD_ok {ρ : List Addr} {S : Sto} {ls : Lo} {σ : L2.St} {H : Hp} (T : Stt G F ρ S ls σ H) : ∀ (n : Nat) (x : AV) (d : PyData) (v : V), toD S n x = some d → RV G ρ H x v → DatD G.K H n v d
  | 0, _, _, _, h, _ => by cases h
  | n + 1, x, d, v, h, r => by
    have ih := toD_ok T n
    unfold toD at h
    cases x with
    | non => cases h; unfold RV at r; subst r; exact ⟨.non, by simp only [PyData.canLay0], by simp only [PyData.depth]; omega⟩
    | bl b => cases h; unfold RV at r; subst r; exact ⟨.bl b, by simp only [PyData.canLay0], by simp only [PyData.depth]; omega⟩
    | int i => cases h; unfold RV at r; subst r; exact ⟨.int i, by simp only [PyData.canLay0], by simp only [PyData.depth]; omega⟩
    | str s =>
      dsimp only at h
      cases q : scOk s with
      | false => rw [q] at h; cases h
      | true =>
        rw [q] at h
        cases h
        unfold RV at r
        subst r
        exact ⟨.str _, scOk_ok q, by simp only [PyData.depth]; omega⟩
    | tup xs =>
      dsimp only at h
      cases q : mapO (toD S n) xs with
      | none => rw [q] at h; cases h
      | some ds =>
        rw [q] at h
        cases h
        unfold RV at r
        obtain ⟨a, vs, rfl, sa, ra, _⟩ := r
        obtain ⟨b1, b2, b3⟩ := mapO_ok (fun x _ d v => ih x d v) q ra
        refine ⟨.tup sa b1, by simp only [PyData.canLay0]; exact b2, ?_⟩
        simp only [PyData.depth]
        omega
    | ref i =>
      dsimp only at h
      split at h
      · rename_i xs hg
        cases q : mapO (toD S n) xs with
        | none => rw [q] at h; cases h
        | some ds =>
          rw [q] at h
          cases h
          unfold RV at r
          obtain ⟨a, ha, rfl⟩ := r
          obtain ⟨vs, e1, ra⟩ := T.rel.obj i a _ ha hg
          obtain ⟨b1, b2, b3⟩ := mapO_ok (fun x _ d v => ih x d v) q ra
          refine ⟨.lst (SqL.of e1) b1, by simp only [PyData.canLay0]; exact b2, ?_⟩
          simp only [PyData.depth]
          omega
      · cases h
    | _ => cases h
def eqDO (S : Sto) (x y : AV) : Option Bool := match toD S 60 x, toD S 60 y with
  | some d, some e => some (dEq 61 d e)
  | _, _ => none
def fEqD (x y : AV) (S : Sto) : Out AV := match eqDO S x y with
  | some k => .ok (.bl k) S
  | none => .bad
def fNeD (x y : AV) (S : Sto) : Out AV := match eqDO S x y with
  | some k => .ok (.bl (!k)) S
  | none => .bad
theorem eqDO_ok {ρ : List Addr} {S : Sto} {ls : Lo} {σ : L2.St} {H : Hp} {x y : AV} {v w : V} {k : Bool} (T : Stt G F ρ S ls σ H) (rx : RV G ρ H x v) (ry : RV G ρ H y w) (h : eqDO S x y = some k) :
    ∃ d e, Dp G.K H v d ∧ Dp G.K H w e ∧ SeqAt.shaped d = true ∧ SeqAt.shaped e = true ∧ PyData.eqv d e = k := by
  unfold eqDO at h
  split at h
  · rename_i d e q1 q2
    cases h
    have a := toD_ok T 60 x d v q1 rx
    have b := toD_ok T 60 y e w q2 ry
    have a3 := a.deep
    have b3 := b.deep
    refine ⟨d, e, a.dp, b.dp, ?_, ?_, (dEq_ok 61 d e (by omega)).symm⟩
    · unfold SeqAt.shaped
      rw [a.lay, decide_eq_true (show d.depth ≤ 64 by omega)]
      rfl
    · unfold SeqAt.shaped
      rw [b.lay, decide_eq_true (show e.depth ≤ 64 by omega)]
      rfl
  · cases h
theorem os_eqD (hk : X.K = G.K) : OpS G F W (rEqD X.K) fEqD := fun ρ S ls σ H x y v w Q T rx ry h => by
  unfold fEqD at h
  cases q : eqDO S x y with
  | none => rw [q] at h; exact h.elim
  | some k =>
    rw [q] at h
    obtain ⟨d, e, h1, h2, h3, h4, h5⟩ := eqDO_ok T rx ry q
    exact ⟨d, e, by rw [hk]; exact h1, by rw [hk]; exact h2, h3, h4, by rw [h5]; exact h ρ H (Ext.refl _ _) T _ rv_bl⟩
theorem os_neD (hk : X.K = G.K) : OpS G F W (rNeD X.K) fNeD := fun ρ S ls σ H x y v w Q T rx ry h => by
  unfold fNeD at h
  cases q : eqDO S x y with
  | none => rw [q] at h; exact h.elim
  | some k =>
    rw [q] at h
    obtain ⟨d, e, h1, h2, h3, h4, h5⟩ := eqDO_ok T rx ry q
    exact ⟨d, e, by rw [hk]; exact h1, by rw [hk]; exact h2, h3, h4, by rw [h5]; exact h ρ H (Ext.refl _ _) T _ rv_bl⟩
end
end Sh

end

noncomputable section
namespace Sh
open PySem PySem.Spec PyProof.Rows L2 LamX He
section
variable {X : Cx} {G : Gd} {W : WX} {F : Fm} {e : Expr} {pos : Pos}
/-! ### xs[::-1] -/
def mRev (m : EM) : EM := fun ls S => (m ls S).bind fun v S1 => match v with
  | .ref i => match S1.get i with
    | some (.lst xs) => newL xs.reverse S1
    | _ => .bad
  | _ => .bad
theorem RVs_rev {ρ : List Addr} {H : Hp} : ∀ {xs : List AV} {vs : List V}, RVs G ρ H xs vs → RVs G ρ H xs.reverse vs.reverse
  | [], vs, r => by
    unfold RVs at r
    subst r
    show RVs G ρ H [] []
    unfold RVs
    rfl
  | x :: xs, vs, r => by
    unfold RVs at r
    obtain ⟨v, ws, rfl, r1, r2⟩ := r
    rw [List.reverse_cons,
          List.reverse_cons]
    refine RVs_app (RVs_rev r2) ?_
    unfold RVs
    exact ⟨v, [], rfl, r1, by unfold RVs; rfl⟩
theorem me_rev {k : Nat} {p1 p2 p3 : Pos} {ma : EM} (ha : PE X e (tE G F W ma)) : PE X (.Subscript e (.Slice none none (some (.UnaryOp .USub (.Constant (.int 1) k p1) p2)) p3) pos) (tE G F W (mRev ma)) := by
  refine PE_imp (pe_revL ha) fun σ H Q ⟨ρ, S, ls, T, h⟩ => ?_
  refine tE_bind T h fun v S1 ρ1 H1 x h1 x1 T1 r1 => ?_
  split at h1
  · rename_i i
    unfold RV at r1
    obtain ⟨a, ha, rfl⟩ := r1
    split at h1
    · rename_i xs hg
      obtain ⟨vs, e1, rs⟩ := T1.rel.obj i a _ ha hg
      obtain ⟨_, k2⟩ := newL_ok (Q := Q) T1 (RVs_rev rs) h1
      refine ⟨a, vs, rfl, SqL.of e1, fun l hl => ?_⟩
      obtain ⟨ρ', S', T2, x2, q, r⟩ := k2 l hl
      exact q ρ' _ (x1.trans x2) T2 _ r
    · exact h1.elim
  · exact h1.elim
/-! ### sorted(xs): ints; tuples of ints -/
theorem code_inj {B : Int} : ∀ {a b : List Int}, a.length = b.length → TS.Bd B a → TS.Bd B b → TS.code B a = TS.code B b → a = b
  | [], [], _, _, _, _ => rfl
  | x :: xs, y :: ys, hl, ha, hb, h => by
    have hl2 : xs.length = ys.length := by simpa using hl
    rcases Int.lt_trichotomy x y with z | z | z
    · have := TS.code_lt (B := B) hl2 ha.tail hb.tail z
      omega
    · subst z
      have h2 : TS.code B xs = TS.code B ys := by
        unfold TS.code at h
        rw [hl2] at h
        omega
      rw [code_inj hl2 ha.tail hb.tail h2]
    · have := TS.code_lt (B := B) hl2.symm hb.tail ha.tail z
      omega
def insC {α : Type} (le : α → α → Bool) (x : α) : List α → List α
  | [] => [x]
  | y :: r => match le x y with
    | true => x :: y :: r
    | false => y :: insC le x r
def srtC {α : Type} (le : α → α → Bool) : List α → List α
  | [] => []
  | x :: r => insC le x (srtC le r)
theorem insC_perm {α : Type} {le : α → α → Bool} {x : α} : ∀ {l : List α}, (insC le x l).Perm (x :: l)
  | [] => .refl _
  | y :: r => by
    unfold insC
    split
    · exact .refl _
    · exact (List.Perm.cons y insC_perm).trans (.swap x y r)
theorem srtC_perm {α : Type} {le : α → α → Bool} : ∀ {l : List α}, (srtC le l).Perm l
  | [] => .refl _
  | x :: r => insC_perm.trans (List.Perm.cons x srtC_perm)
theorem insC_pw {α : Type} {f : α → Int} {x : α} : ∀ {l : List α}, l.Pairwise (fun a b => f a ≤ f b) → (insC (fun a b => decide (f a ≤ f b)) x l).Pairwise (fun a b => f a ≤ f b)
  | [], _ => List.pairwise_singleton _ _
  | y :: r, h => by
    unfold insC
    rw [List.pairwise_cons] at h
    split
    · rename_i q
      have q := of_decide_eq_true q
      rw [List.pairwise_cons, List.pairwise_cons]
      refine ⟨fun z hz => ?_, h.1, h.2⟩
      rcases List.mem_cons.mp hz with e | e
      · rw [e]; exact q
      · have := h.1 z e; omega
    · rename_i q
      have q := of_decide_eq_false q
      rw [List.pairwise_cons]
      refine ⟨fun z hz => ?_, insC_pw h.2⟩
      rcases List.mem_cons.mp (insC_perm.mem_iff.mp hz) with e | e
      · rw [e]; omega
      · exact h.1 z e
theorem srtC_pw {α : Type} {f : α → Int} : ∀ {l : List α}, (srtC (fun a b => decide (f a ≤ f b)) l).Pairwise (fun a b => f a ≤ f b)
  | [] => List.Pairwise.nil
  | x :: r => insC_pw srtC_pw
def asI : AV → Option Int
  | .int i => some i
  | _ => none
def asT : AV → Option (List Int)
  | .tup xs => mapO asI xs
  | _ => none
def bigB : Int := 1099511627776
def bdB (ns : List Int) : Bool := ns.all fun m => decide (0 ≤ m) && decide (m < bigB)
theorem bdB_ok {ns : List Int} (h : bdB ns = true) : TS.Bd bigB ns := fun m hm => by
  obtain ⟨a, b⟩ := ba (List.all_eq_true.mp h m hm)
  exact ⟨of_decide_eq_true a, of_decide_eq_true b⟩
def lenB (d : Nat) (L : List (List Int)) : Bool := L.all fun ns => Nat.beq ns.length d && bdB ns
def fSorted : List AV → Sto → Out AV := fun xs S => match xs with
  | [.ref i] => match S.get i with
    | some (.lst ys) => match mapO asI ys with
      | some ns => newL ((srtC (fun a b => decide (a ≤ b)) ns).map .int) S
      | none => match mapO asT ys with
        | some L => match L with
          | l :: r => match Nat.blt 0 l.length && (Nat.blt (l :: r).length 64 && lenB l.length (l :: r)) with
            | true => newL ((srtC (fun a b => decide (TS.code bigB a ≤ TS.code bigB b)) (l :: r)).map fun ns => .tup (ns.map .int)) S
            | false => .bad
          | [] => .bad
        | none => .bad
    | _ => .bad
  | _ => .bad
def rSrt (K : PySem.W.Frag) : List V → Hp → VK → Prop := fun vs H Q => rSortedI K vs H Q ∨ ∃ d, 1 ≤ d ∧ rSortU K d bigB vs H Q
theorem cr_srt : CallR X (.builtin "sorted") (rSrt X.K) := by
  intro
        pins s σ H xs us Q I r h
  rcases h with h | ⟨d, hd, h⟩
  · exact cr_sortedI pins s σ H xs us Q I r h
  · exact cr_sortT hd pins s σ H xs us Q I r h
theorem asI_all {ρ : List Addr} {H : Hp} : ∀ {xs : List AV} {ns : List Int} {vs : List V}, mapO asI xs = some ns → RVs G ρ H xs vs → vs = ns.map V.int
  | [], ns, vs, h, r => by
    unfold mapO at h
    cases h
    unfold RVs at r
    exact r
  | x :: xs, ns, vs, h, r => by
    unfold mapO at h
    unfold RVs at r
    obtain ⟨v, ws, rfl, r1, r2⟩ := r
    cases x with
    | int i =>
      dsimp only [asI] at h
      cases q : mapO asI xs with
      | none => rw [q] at h; cases h
      | some ms =>
        rw [q] at h
        cases h
        unfold RV at r1
        rw [r1, asI_all q r2]
        rfl
    | _ => cases h
theorem asI_map : ∀ {xs : List AV} {ns : List Int}, mapO asI xs = some ns → xs = ns.map .int
  | [], ns, h => by
    unfold mapO at h
    cases h
    rfl
  | x :: xs, ns, h => by
    unfold mapO at h
    cases x with
    | int i =>
      dsimp only [asI] at h
      cases q : mapO asI xs with
      | none => rw [q] at h; cases h
      | some ms =>
        rw [q] at h
        cases h
        rw [asI_map q]
        rfl
    | _ => cases h
theorem rvs_ints {ρ : List Addr} {H : Hp} : ∀ ns : List Int, RVs G ρ H (ns.map .int) (ns.map V.int)
  | [] => by unfold RVs; rfl
  | n :: r => by
    rw [List.map_cons,
          List.map_cons]
    unfold RVs
    exact ⟨_, _, rfl, rv_int, rvs_ints r⟩
theorem asT_all {ρ : List Addr} {H : Hp} : ∀ {xs : List AV} {L : List (List Int)} {vs : List V}, mapO asT xs = some L → RVs G ρ H xs vs → ∃ l : List (V × List Int), l.map (·.1) = vs ∧ l.map (·.2) = L ∧ ∀ p ∈ l, TupI G.K H p.1 p.2 ∧ RV G ρ H (.tup (p.2.map .int)) p.1
  | [], L, vs, h, r => by
    unfold mapO at h
    cases h
    unfold RVs at r
    exact ⟨[], r.symm, rfl, fun p h => by cases h⟩
  | x :: xs, L, vs, h, r => by
    unfold mapO at h
    unfold RVs at r
    obtain ⟨v, ws, rfl, r1, r2⟩ := r
    cases x with
    | tup ys =>
      dsimp only [asT] at h
      cases q0 : mapO asI ys with
      | none => rw [q0] at h; cases h
      | some ns =>
        rw [q0] at h
        dsimp only at h
        cases q : mapO asT xs with
        | none => rw [q] at h; cases h
        | some ms =>
          rw [q] at h
          cases h
          obtain ⟨l, e1, e2, e3⟩ := asT_all q r2
          have r0 := r1
          unfold RV at r1
          obtain ⟨a, us, rfl, sa, ra, _⟩ := r1
          rw [asI_all q0 ra] at sa
          rw [asI_map q0] at r0
          refine ⟨(.ref a, ns) :: l, by rw [List.map_cons, e1], by rw [List.map_cons, e2], fun p hp => ?_⟩
          rcases
                List.mem_cons.mp hp with e | e
          · rw [e]; exact ⟨⟨a, rfl, sa⟩, r0⟩
          · exact e3 p e
    | _ => cases h
theorem rvs_tups {ρ : List Addr} {H : Hp} : ∀ l : List (V × List Int), (∀ p ∈ l, RV G ρ H (.tup (p.2.map .int)) p.1) → RVs G ρ H (l.map fun p => .tup (p.2.map .int)) (l.map (·.1))
  | [], _ => by unfold RVs; rfl
  | p :: r, h => by
    rw [List.map_cons,
          List.map_cons]
    unfold RVs
    exact ⟨_, _, rfl, h p List.mem_cons_self, rvs_tups r fun q hq => h q (List.mem_cons_of_mem _ hq)⟩
theorem cs_sorted (hk : X.K = G.K) : CallS G F W (rSrt X.K) fSorted := fun ρ S ls σ H xs vs Q T r h => by
  unfold fSorted at h
  split at h
  · rename_i i
    obtain ⟨v, rfl, rv⟩ := rvs1 r
    unfold RV at rv
    obtain ⟨a, ha, rfl⟩ := rv
    split at h
    · rename_i ys hg
      obtain ⟨ws, e1, rs⟩ := T.rel.obj i a _ ha hg
      split at h
      · rename_i ns q
        have e := asI_all q rs
        subst e
        refine .inl ⟨a, ns, rfl, SqL.of e1, fun ns' p hp hs hl => ?_⟩
        have e2 : ns' = srtC (fun a b => decide (a ≤ b)) ns := List.Perm.eq_of_pairwise (le := (· ≤ ·)) (fun a b _ _ h1 h2 => Int.le_antisymm h1 h2) hs (srtC_pw (f := id)) (hp.trans srtC_perm.symm)
        rw [e2]
        obtain ⟨_, k2⟩ := newL_ok (Q := Q) T (rvs_ints _) h
        obtain ⟨ρ', S', T2, x2, q, r⟩ := k2 p hl
        exact q ρ' _ x2 T2 _ r
      · split at h
        · rename_i L q
          split at h
          · rename_i l0 r0
            split at h
            · rename_i q2
              obtain ⟨c1, c2⟩ := ba q2
              obtain ⟨c2, c3⟩ := ba c2
              obtain ⟨l, f1, f2, f3⟩ := asT_all q rs
              have hL : ∀ p ∈ l, p.2.length = l0.length ∧ TS.Bd bigB p.2 := fun p hp => by
                have hm : p.2 ∈ l0 :: r0 := by rw [← f2]; exact List.mem_map.mpr ⟨p, hp, rfl⟩
                obtain ⟨g1, g2⟩ := ba (List.all_eq_true.mp c3 p.2 hm)
                exact ⟨Nat.eq_of_beq_eq_true g1, bdB_ok g2⟩
              refine .inr ⟨l0.length, Nat.le_of_ble_eq_true c1, a, ws, rfl, SqL.of e1, ?_, fun x hx => ?_, fun ys' p hp hs hl => ?_⟩
              · have e : ws.length = (l0 :: r0).length := by rw [← f1, ← f2, List.length_map, List.length_map]
                rw [e]
                exact Nat.le_of_ble_eq_true c2
              · rw [← f1] at hx
                obtain ⟨p, hp, rfl⟩ := List.mem_map.mp hx
                exact ⟨p.2, by rw [hk]; exact (f3 p hp).1, (hL p hp).1, (hL p hp).2⟩
              · obtain ⟨l', p1, p2⟩ := perm_lift (fun p : V × List Int => p.1) hp l f1
                have p2' : l'.map (·.1) = ys' := p2
                subst p2'
                have t3 : ∀ p ∈ l', TupI G.K H p.1 p.2 := fun p hp => (f3 p (p1.mem_iff.mp hp)).1
                have t4 : ∀ p ∈ l', RV G ρ H (.tup (p.2.map .int)) p.1 := fun p hp => (f3 p (p1.mem_iff.mp hp)).2
                have tb : ∀ p ∈ l', p.2.length = l0.length ∧ TS.Bd bigB p.2 := fun p hp => hL p (p1.mem_iff.mp hp)
                have e2 : l'.map (·.2) = srtC (fun a b => decide (TS.code bigB a ≤ TS.code bigB b)) (l0 :: r0) := by
                  refine List.Perm.eq_of_pairwise (le := fun a b => TS.code bigB a ≤ TS.code bigB b) (fun a b ha hb h1 h2 => ?_) ?_ srtC_pw ?_
                  · obtain ⟨p, hp, rfl⟩ := List.mem_map.mp ha
                    have hb2 : b ∈ l.map (·.2) := by rw [f2]; exact srtC_perm.mem_iff.mp hb
                    obtain ⟨q, hq, rfl⟩ := List.mem_map.mp hb2
                    exact code_inj ((tb p hp).1.trans (hL q hq).1.symm) (tb p hp).2 (hL q hq).2 (Int.le_antisymm h1 h2)
                  · rw [List.pairwise_map]
                    rw [List.pairwise_map] at hs
                    exact hs.imp_of_mem fun {p q} hp hq z => z p.2 q.2 (by rw [hk]; exact t3 p hp) (by rw [hk]; exact t3 q hq)
                  · have z := p1.map (·.2)
                    rw [f2] at z
                    exact z.trans srtC_perm.symm
                rw [← e2, List.map_map] at h
                obtain ⟨_, k2⟩ := newL_ok (Q := Q) T (rvs_tups l' t4) h
                obtain ⟨ρ', S', T2, x2, q, r⟩ := k2 p hl
                exact q ρ' _ x2 T2 _ r
            · exact h.elim
          · exact h.elim
        · exact h.elim
    · exact h.elim
  · exact h.elim
end
end Sh

end

noncomputable section
namespace Sh
open PySem PySem.Spec PyProof.Rows L2 LamX He
/-! ### keys -/
def keyOfT : AV → Option (List Key)
  | .tup ks => mapO keyOf ks
  | _ => none
def k1 : AV → AV → Bool
  | .int i, .int j => decide (i = j)
  | .str s, .str t => eqL s t
  | _, _ => false
def kAll : List AV → List AV → Bool
  | [], [] => true
  | x :: xs, y :: ys => match k1 x y with
    | true => kAll xs ys
    | false => false
  | _, _ => false
def kEq : AV → AV → Bool
  | .tup xs, .tup ys => kAll xs ys
  | x, y => k1 x y
theorem k1_ok {a b : AV} {x y : Key} (ha : keyOf a = some x) (hb : keyOf b = some y) : k1 a b = decide (x = y) := by
  cases a <;> first
    | (cases ha; done)
    | skip
  all_goals
    cases b <;> first
      | (cases hb; done)
      | skip
  · cases ha; cases hb
    unfold k1
    rw [key_ll]
    exact dI _ _
  · cases ha; cases hb
    rw [key_lr]
    rfl
  · cases ha; cases hb
    rw [key_rl]
    rfl
  · cases ha; cases hb
    unfold k1
    rw [key_rr, toS_dec]
theorem kAll_ok : ∀ {a b : List AV} {x y : List Key}, mapO keyOf a = some x → mapO keyOf b = some y → kAll a b = decide (x = y)
  | [], [], x, y, ha, hb => by
    unfold mapO at ha hb
    cases ha; cases hb
    rfl
  | [], b :: bs, x, y, ha, hb => by
    unfold mapO at ha hb
    cases ha
    cases q : keyOf b with
    | none => rw [q] at hb; cases hb
    | some k =>
      rw [q] at hb
      dsimp only at hb
      cases q2 : mapO keyOf bs with
      | none => rw [q2] at hb; cases hb
      | some ks => rw [q2] at hb; cases hb; rfl
  | a :: as, [], x, y, ha, hb => by
    unfold mapO at ha hb
    cases hb
    cases q : keyOf a with
    | none => rw [q] at ha; cases ha
    | some k =>
      rw [q] at ha
      dsimp only at ha
      cases q2 : mapO keyOf as with
      | none => rw [q2] at ha; cases ha
      | some ks => rw [q2] at ha; cases ha; rfl
  | a :: as, b :: bs, x, y, ha, hb => by
    unfold mapO at ha hb
    cases q : keyOf a with
    | none => rw [q] at ha; cases ha
    | some k =>
      rw [q] at ha
      dsimp only at ha
      cases q2 : mapO keyOf as with
      | none => rw [q2] at ha; cases ha
      | some ks =>
        rw [q2] at ha
        cases ha
        cases p : keyOf b with
        | none => rw [p] at hb; cases hb
        | some l =>
          rw [p] at hb
          dsimp only at hb
          cases p2 : mapO keyOf bs with
          | none => rw [p2] at hb; cases hb
          | some ls =>
            rw [p2] at hb
            cases hb
            unfold kAll
            rw [k1_ok q p, kAll_ok q2 p2]
            by_cases e : k = l
            · by_cases e2 : ks = ls <;> simp [e, e2]
            · simp [e]
theorem kEq_s {a b : AV} {x y : Key} (ha : keyOf a = some x) (hb : keyOf b = some y) : kEq a b = decide (x = y) := by
  have e : kEq a b = k1 a b := by
    cases a <;> first
      | (cases ha; done)
      | rfl
  rw [e, k1_ok ha hb]
theorem kEq_t {a b : AV} {x y : List Key} (ha : keyOfT a = some x) (hb : keyOfT b = some y) : kEq a b = decide (x = y) := by
  cases a <;> first
    | (cases ha; done)
    | skip
  cases b <;> first
    | (cases hb; done)
    | skip
  exact kAll_ok ha hb
/-! ### a dict's pairs -/
def getA : List (AV × AV) → AV → Option AV
  | [], _ => none
  | (a, v) :: r, k => match kEq a k with
    | true => some v
    | false => getA r k
def anyA : List (AV × AV) → AV → Bool
  | [], _ => false
  | (a, _) :: r, k => match kEq a k with
    | true => true
    | false => anyA r k
def repA (k v : AV) : List (AV × AV) → List (AV × AV)
  | [] => []
  | (a, w) :: r => match kEq a k with
    | true => (a, v) :: repA k v r
    | false => (a, w) :: repA k v r
def putA (kvs : List (AV × AV)) (k v : AV) : List (AV × AV) := match anyA kvs k with
  | true => repA k v kvs
  | false => kvs ++ [(k, v)]
section
variable {κ : Type} [DecidableEq κ] {G : Gd} {ρ : List Addr} {H : Hp}
def KG (G : Gd) (ρ : List Addr) (H : Hp) (ko : AV → Option κ) : List (AV × AV) → List (κ × V) → Prop
  | [], ps => ps = []
  | (k, v) :: r, ps => ∃ k' x qs, ps = (k', x) :: qs ∧ ko k = some k' ∧ RV G ρ H v x ∧ KG G ρ H ko r qs
def KoOk (ko : AV → Option κ) : Prop := ∀ {a b : AV} {x y : κ}, ko a = some x → ko b = some y → kEq a b = decide (x = y)
theorem kg_get {ko : AV → Option κ} (hk : KoOk ko) {k : AV} {k' : κ} (e : ko k = some k') : ∀ {kvs : List (AV × AV)} {ps : List (κ × V)}, KG G ρ H ko kvs ps → match getA kvs k with
    | some v => ∃ x, valV ps k' = some x ∧ RV G ρ H v x
    | none => valV ps k' = none
  | [], ps, h => by
    unfold KG at h
    subst h
    rfl
  | (a, v) :: r, ps, h => by
    unfold KG at h
    obtain ⟨a', x, qs, rfl, ha, hv, hr⟩ := h
    unfold getA
    rw [hk ha e]
    by_cases z : a' = k'
    · rw [decide_eq_true z]
      exact ⟨x, valV_pos z, hv⟩
    · rw [decide_eq_false z, valV_neg z]
      exact kg_get hk e hr
theorem kg_any {ko : AV → Option κ} (hk : KoOk ko) {k : AV} {k' : κ} (e : ko k = some k') : ∀ {kvs : List (AV × AV)} {ps : List (κ × V)}, KG G ρ H ko kvs ps → (ps.any fun kv => decide (kv.1 = k')) = anyA kvs k
  | [], ps, h => by
    unfold KG at h
    subst h
    rfl
  | (a, v) :: r, ps, h => by
    unfold KG at h
    obtain ⟨a', x, qs, rfl, ha, hv, hr⟩ := h
    unfold anyA
    rw [hk ha e, List.any_cons]
    by_cases z : a' = k'
    · rw [decide_eq_true z]; rfl
    · rw [decide_eq_false z, kg_any hk e hr]; rfl
theorem kg_rep {ko : AV → Option κ} (hk : KoOk ko) {k v : AV} {k' : κ} {x : V} (e : ko k = some k') (rv : RV G ρ H v x) : ∀ {kvs : List (AV × AV)} {ps : List (κ × V)}, KG G ρ H ko kvs ps → KG G ρ H ko (repA k v kvs) (ps.map fun kv => if kv.1 = k' then (kv.1, x) else kv)
  | [], ps, h => by
    unfold KG at h
    subst h
    show KG G ρ H ko [] []
    unfold KG
    rfl
  | (a, w) :: r, ps, h => by
    unfold KG at h
    obtain ⟨a', y, qs, rfl, ha, hv, hr⟩ := h
    unfold repA
    rw [hk ha e, List.map_cons]
    by_cases z : a' = k'
    · rw [decide_eq_true z, if_pos z]
      unfold KG
      exact ⟨a', x, _, rfl, ha, rv, kg_rep hk e rv hr⟩
    · rw [decide_eq_false z, if_neg z]
      unfold KG
      exact ⟨a', y, _, rfl, ha, hv, kg_rep hk e rv hr⟩
theorem kg_app {ko : AV → Option κ} {k v : AV} {k' : κ} {x : V} (e : ko k = some k') (rv : RV G ρ H v x) : ∀ {kvs : List (AV × AV)} {ps : List (κ × V)}, KG G ρ H ko kvs ps → KG G ρ H ko (kvs ++ [(k, v)]) (ps ++ [(k', x)])
  | [], ps, h => by
    unfold KG at h
    subst h
    show KG G ρ H ko [(k, v)] [(k', x)]
    unfold KG
    exact ⟨k', x, [], rfl, e, rv, by unfold KG; rfl⟩
  | (a, w) :: r, ps, h => by
    unfold KG at h
    obtain ⟨a', y, qs, rfl, ha, hv, hr⟩ := h
    rw [List.cons_append, List.cons_append]
    unfold KG
    exact ⟨a', y, _, rfl, ha, hv, kg_app e rv hr⟩
theorem kg_put {ko : AV → Option κ} (hk : KoOk ko) {k v : AV} {k' : κ} {x : V} (e : ko k = some k') (rv : RV G ρ H v x) {kvs : List (AV × AV)} {ps : List (κ × V)} (h : KG G ρ H ko kvs ps) : KG G ρ H ko (putA kvs k v) (putK ps k' x) := by
  unfold putA putK
  rw [kg_any hk e h]
  cases anyA kvs k with
  | true => rw [if_pos rfl]; exact kg_rep hk e rv h
  | false => rw [if_neg (by decide)]; exact kg_app e rv h
theorem kg_len {ko : AV → Option κ} : ∀ {kvs : List (AV × AV)} {ps : List (κ × V)}, KG G ρ H ko kvs ps → ps.length = kvs.length
  | [], ps, h => by unfold KG at h; rw [h]; rfl
  | _ :: r, ps, h => by
    unfold KG at h
    obtain ⟨_, _, _, rfl, _, _, hr⟩ := h
    rw [List.length_cons, List.length_cons, kg_len hr]
end
theorem mapM_mapO : ∀ l : List AV, l.mapM keyOf = mapO keyOf l
  | [] => rfl
  | a :: r => by
    have e : mapO keyOf (a :: r) = match keyOf a with
        | some b => match mapO keyOf r with
          | some q => some (b :: q)
          | none => none
        | none => none := by
      rw [mapO]
      cases keyOf a with
      | none => rfl
      | some k => cases mapO keyOf r <;> rfl
    rw [List.mapM_cons, mapM_mapO r, e]
    cases keyOf a with
    | none => rfl
    | some k => cases mapO keyOf r <;> rfl
section
variable {G : Gd} {ρ : List Addr} {H : Hp}
theorem kr_kg : ∀ {kvs : List (AV × AV)} {ps : List (Key × V)}, KR G ρ H kvs ps ↔ KG G ρ H keyOf kvs ps
  | [], ps => by unfold KR KG; exact Iff.rfl
  | (k, v) :: r, ps => by
    unfold KR KG
    constructor
    · rintro ⟨k', x, qs, h1, h2, h3, h4⟩; exact ⟨k', x, qs, h1, h2, h3, kr_kg.mp h4⟩
    · rintro ⟨k', x, qs, h1, h2, h3, h4⟩; exact ⟨k', x, qs, h1, h2, h3, kr_kg.mpr h4⟩
theorem ktr_kg : ∀ {kvs : List (AV × AV)} {ps : List (List Key × V)}, KTR G ρ H kvs ps ↔ KG G ρ H keyOfT kvs ps
  | [], ps => by unfold KTR KG; exact Iff.rfl
  | (k, v) :: r, ps => by
    unfold KTR KG
    constructor
    · rintro ⟨ks, k', x, qs, h1, h2, h3, h4, h5⟩
      refine ⟨k', x, qs, h1, ?_, h4, ktr_kg.mp h5⟩
      rw [h2]
      show mapO keyOf ks = _
      rw [← mapM_mapO]; exact h3
    · rintro ⟨k', x, qs, h1, h2, h3, h4⟩
      cases k with
      | tup ks => exact ⟨ks, k', x, qs, h1, rfl, by rw [mapM_mapO]; exact h2, h3, ktr_kg.mpr h4⟩
      | _ => cases h2
theorem keyOf_V {a : AV} {k : Key} {v : V} (h : keyOf a = some k) (r : RV G ρ H a v) : v = kV k := by
  cases a with
  | int i => cases h; unfold RV at r; exact r
  | str s => cases h; unfold RV at r; exact r
  | _ => cases h
theorem keyOf_Vs : ∀ {as : List AV} {ks : List Key} {vs : List V}, mapO keyOf as = some ks → RVs G ρ H as vs → vs = ks.map kV
  | [], ks, vs, h, r => by
    unfold mapO at h
    cases h
    unfold RVs at r
    exact r
  | a :: as, ks, vs, h, r => by
    unfold mapO at h
    unfold RVs at r
    obtain ⟨v, ws, rfl, r1, r2⟩ := r
    cases q : keyOf a with
    | none => rw [q] at h; cases h
    | some k =>
      rw [q] at h
      dsimp only at h
      cases q2 : mapO keyOf as with
      | none => rw [q2] at h; cases h
      | some ls =>
        rw [q2] at h
        cases h
        rw [keyOf_V q r1, keyOf_Vs q2 r2]
        rfl
end
/-! ### d[k], k in d, by values -/
def sKey (k : AV) : Bool := (keyOf k).isSome
def tKey (k : AV) : Bool := (keyOfT k).isSome && (match k with
  | .tup ks => !ks.all isStr
  | _ => false)
/-- what the dict at i holds at k; none: bad -/
def dget (S : Sto) (x k : AV) : Option (Option AV) := match x with
  | .ref i => match S.get i with
    | some (.dct kvs) => match sKey k with
      | true => some (getA kvs k)
      | false => none
    | some (.dtp kvs) => match tKey k with
      | true => some (getA kvs k)
      | false => none
    | some (.ldk kvs) => match sKey k with
      | true => some (getA kvs k)
      | false => none
    | _ => none
  | _ => none
section
variable {X : Cx} {G : Gd} {W : WX} {F : Fm} {ρ : List Addr} {S : Sto} {ls : Lo} {σ : L2.St} {H : Hp}
theorem isSome_of {α : Type} {o : Option α} (h : o.isSome = true) : ∃ a, o = some a := by
  cases o with
  | none => cases h
  | some a => exact ⟨a, rfl⟩
theorem tKey_ok {k : AV} {y : V} (h : tKey k = true) (ry : RV G ρ H k y) : ∃ k' b, keyOfT k = some k' ∧ y = .ref b ∧ H b = some (.tup (k'.map kV)) := by
  unfold tKey at h
  obtain ⟨h1, h2⟩ := ba h
  obtain ⟨k', hk⟩ := isSome_of h1
  cases k with
  | tup ks =>
    unfold RV at ry
    obtain ⟨b, vs, rfl, _, rs, q⟩ := ry
    have e := keyOf_Vs hk rs
    subst e
    rcases q with q | q
    · exact ⟨k', b, hk, rfl, q⟩
    · have h3 : (!ks.all isStr) = true := h2
      rw [q] at h3
      cases h3
  | _ => cases hk
theorem dget_ok {x k : AV} {v y : V} {o : Option AV} (T : Stt G F ρ S ls σ H) (rx : RV G ρ H x v) (ry : RV G ρ H k y) (h : dget S x k = some o) : ∃ a o', v = .ref a ∧ DGet H a y o' ∧ match (generalizing := false) o with
    | some w => ∃ u, o' = some u ∧ RV G ρ H w u
    | none => o' = none := by
  unfold dget at h
  cases x with
  | ref i =>
    unfold RV at rx
    obtain ⟨a, ha, rfl⟩ := rx
    dsimp only at h
    split at h
    · rename_i kvs hg
      cases q : sKey k with
      | false => rw [q] at h; cases h
      | true =>
        rw [q] at h
        cases h
        obtain ⟨ps, e, kr⟩ := T.rel.obj i a _ ha hg
        obtain ⟨k', hk⟩ := isSome_of q
        have ey := keyOf_V hk ry
        subst ey
        refine ⟨a, _, rfl, DGet.k e, ?_⟩
        have z := kg_get (@kEq_s) hk (kr_kg.mp kr)
        cases q2 : getA kvs k with
        | none => rw [q2] at z; exact z
        | some w => rw [q2] at z; exact z
    · rename_i kvs hg
      cases q : tKey k with
      | false => rw [q] at h; cases h
      | true =>
        rw [q] at h
        cases h
        obtain ⟨ps, e, kr⟩ := T.rel.obj i a _ ha hg
        obtain ⟨k', b, hk, rfl, eb⟩ := tKey_ok q ry
        refine ⟨a, _, rfl, DGet.t e eb, ?_⟩
        have z := kg_get (@kEq_t) hk (ktr_kg.mp kr)
        cases q2 : getA kvs k with
        | none => rw [q2] at z; exact z
        | some w => rw [q2] at z; exact z
    · rename_i kvs hg
      cases q : sKey k with
      | false => rw [q] at h; cases h
      | true =>
        rw [q] at h
        cases h
        obtain ⟨ob, ps, e, kr⟩ := T.rel.obj i a _ ha hg
        obtain ⟨k', hk⟩ := isSome_of q
        have ey := keyOf_V hk ry
        subst ey
        refine ⟨a, _, rfl, .inl ⟨ps, k', .inr ⟨ob, e⟩, rfl, rfl⟩, ?_⟩
        have z := kg_get (@kEq_s) hk (kr_kg.mp kr)
        cases q2 : getA kvs k with
        | none => rw [q2] at z; exact z
        | some w => rw [q2] at z; exact z
    · cases h
  | _ => cases h
def rInDct (neg : Bool) : R2 := fun y x H Q => ∃ a o, x = .ref a ∧ DGet H a y o ∧ Q (.bl (if neg then !o.isSome else o.isSome)) H
theorem op_inDct (hu : X.A.units + 1 < cLine) : OpR X (compareOp .In) (rInDct false) := by
  intro pins s σ H y x u v Q I ry rx h
  obtain ⟨a, o, rfl, g, q⟩ := h
  cases rx
  exact d_in hu I g ry fun s' I' => ⟨.bl _, H, I', rfl, q⟩
theorem op_notInDct (hu : X.A.units + 1 < cLine) : OpR X (compareOp .NotIn) (rInDct true) := by
  intro pins s σ H y x u v Q I ry rx h
  obtain ⟨a, o, rfl, g, q⟩ := h
  cases rx
  exact d_notIn hu I g ry fun s' I' => ⟨.bl _, H, I', rfl, q⟩
def fInDct (neg : Bool) (k x : AV) (S : Sto) : Out AV := match dget S x k with
  | some o => .ok (.bl (if neg then !o.isSome else o.isSome)) S
  | none => .bad
theorem os_inDct {neg : Bool} : OpS G F W (rInDct neg) (fInDct neg) := fun ρ S ls σ H k x y v Q T ry rx h => by
  unfold fInDct at h
  cases q : dget S x k with
  | none => rw [q] at h; exact h.elim
  | some o =>
    rw [q] at h
    obtain ⟨a, o', rfl, g, z⟩ := dget_ok T rx ry q
    refine ⟨a, o', rfl, g, ?_⟩
    have e : o'.isSome = o.isSome := by
      cases o with
      | none => rw [z]; rfl
      | some w => obtain ⟨u, rfl, _⟩ := z; rfl
    rw [e]
    exact h ρ H (Ext.refl _ _) T _ rv_bl
/-- one of two: the second where the first is bad -/
def orBad {α : Type} : Out α → Out α → Out α
  | .bad, n => n
  | m, _ => m
theorem orBad_sat {α : Type} {P : α → Sto → Prop} {E : AE → Lo → Sto → Prop} {m n : Out α} (h : (orBad m n).Sat P E) : m.Sat P E ∨ n.Sat P E := by
  cases m with
  | bad => exact .inr h
  | _ => exact .inl h
theorem os_or {r r' : R2} {f f' : AV → AV → Sto → Out AV} (h : OpS G F W r f) (h' : OpS G F W r' f') : OpS G F W (fun x y H Q => r x y H Q ∨ r' x y H Q) (fun x y S => orBad (f x y S) (f' x y S)) := fun ρ S ls σ H x y v w Q T rx ry z =>
  (orBad_sat z).imp (fun z => h ρ S ls σ H x y v w Q T rx ry z) fun z => h' ρ S ls σ H x y v w Q T rx ry z
/-- d[k], there -/
def rIxDct : R2 := fun x y H Q => ∃ a v, x = .ref a ∧ DGet H a y (some v) ∧ Q v H
theorem ix_dct (hu : X.A.units + 1 < cLine) : IxR X rIxDct := by
  intro
        value slice pins s σ H x y v u Q I rx ry h hs
  obtain ⟨a, w, rfl, g, q⟩ := h
  cases rx
  exact tail_any (dict_typeIs I g) slot_dict_getitem.lookup (d_getItem hu I g ry fun w' s' I' r => ⟨w, H, I', r, q⟩) hs
def fIxDct (x k : AV) (S : Sto) : Out AV := match dget S x k with
  | some (some v) => .ok v S
  | _ => .bad
theorem os_ixDct : OpS G F W rIxDct fIxDct := fun ρ S ls σ H x k v y Q T rx ry h => by
  unfold fIxDct at h
  cases q : dget S x k with
  | none => rw [q] at h; exact h.elim
  | some o =>
    cases o with
    | none => rw [q] at h; exact h.elim
    | some w =>
      rw [q] at h
      obtain ⟨a, o', rfl, g, u, rfl, ru⟩ := dget_ok T rx ry q
      exact ⟨a, u, rfl, g, h ρ H (Ext.refl _ _) T u ru⟩
theorem IxR_or {r r' : R2} (h : IxR X r) (h' : IxR X r') : IxR X (fun x y H Q => r x y H Q ∨ r' x y H Q) := fun value slice pins s σ H x y v u Q I rx ry z hs => z.elim (fun z => h value slice pins s σ H x y v u Q I rx ry z hs) fun z => h' value slice pins s σ H x y v u Q I rx ry z hs
end
end Sh

end

noncomputable section
namespace Sh
open PySem PySem.Spec PyProof.Rows L2 LamX He
section
variable {X : Cx} {G : Gd} {W : WX} {F : Fm} {ρ : List Addr} {S : Sto} {ls : Lo} {σ : L2.St} {H : Hp}
/-! ### d[k] = v -/
def putD (S : Sto) (x k v : AV) : Option Sto := match x with
  | .ref i => match S.get i with
    | some (.dct kvs) => match sKey k && Nat.blt kvs.length 10000000 with
      | true => some (S.put i (.dct (putA kvs k v)))
      | false => none
    | some (.dtp kvs) => match tKey k && Nat.blt kvs.length 10000000 with
      | true => some (S.put i (.dtp (putA kvs k v)))
      | false => none
    | _ => none
  | _ => none
theorem lt_line {n : Nat} (h : Nat.blt n 10000000 = true) : n < sizeLine := Nat.lt_of_lt_of_le (Nat.le_of_ble_eq_true h) (by rw [sizeLine_eq]; decide)
theorem putD_ok {x k v : AV} {a y z : V} {S' : Sto} (T : Stt G F ρ S ls σ H) (rx : RV G ρ H x a) (ry : RV G ρ H k y) (rz : RV G ρ H v z) (h : putD S x k v = some S') :
    ∃ p H', a = .ref p ∧ DPut H p y z H' ∧ Stt G F ρ S' ls σ H' ∧ Ext ρ H ρ H' := by
  unfold putD at h
  cases x with
  | ref i =>
    unfold RV at rx
    obtain ⟨p, hp, rfl⟩ := rx
    dsimp only at h
    split at h
    · rename_i kvs hg
      cases q : sKey k && Nat.blt kvs.length 10000000 with
      | false => rw [q] at h; cases h
      | true =>
        rw [q] at h
        cases h
        obtain ⟨q1, q2⟩ := ba q
        obtain ⟨ps, e, kr⟩ := T.rel.obj i p _ hp hg
        obtain ⟨k', hk⟩ := isSome_of q1
        have ey := keyOf_V hk ry
        subst ey
        have kr := kr_kg.mp kr
        obtain ⟨T2, x2⟩ := T.upd (o := .dK (putK ps k' z)) (ao := .dct (putA kvs k v)) hp hg e (fun z => z) (fun _ z => by cases z) rfl rfl fun x => ⟨_, upd_same, KR.mono x (kr_kg.mpr (kg_put (@kEq_s) hk rz kr))⟩
        exact ⟨p, _, rfl, DPut.k e (by rw [kg_len kr]; exact lt_line q2), T2, x2⟩
    · rename_i kvs hg
      cases q : tKey k && Nat.blt kvs.length 10000000 with
      | false => rw [q] at h; cases h
      | true =>
        rw [q] at h
        cases h
        obtain ⟨q1, q2⟩ := ba q
        obtain ⟨ps, e, kr⟩ := T.rel.obj i p _ hp hg
        obtain ⟨k', b, hk, rfl, eb⟩ := tKey_ok q1 ry
        have kr := ktr_kg.mp kr
        obtain ⟨T2, x2⟩ := T.upd (o := .dT (putK ps k' z)) (ao := .dtp (putA kvs k v)) hp hg e (fun z => z) (fun _ z => by cases z) rfl rfl fun x => ⟨_, upd_same, KTR.mono x (ktr_kg.mpr (kg_put (@kEq_t) hk rz kr))⟩
        exact ⟨p, _, rfl, DPut.t e eb (by rw [kg_len kr]; exact lt_line q2), T2, x2⟩
    · cases h
  | _ => cases h
/-! ### {k: v for .. in ..} -/
theorem dictSet_any {pins : List (Addr × Obj)} {s : Shared} {E : Value → Shared → Prop} {D : Addr} {y v : V} {u r : Value} {H' : Hp} {Q : Unit → Shared → Prop} (hu : X.A.units + 1 < cLine) (I : Inv X pins σ H s) (g : DPut H D y v H') (ry : RelV y u) (rv : RelV v r) (h : ∀ s', Inv X pins σ H' s' → Q () s') :
    wpAny (model X.prog X.w) X.A (dictSet D u r) Q E s := by
  rcases g with ⟨kvs, k, e, rfl, l, rfl⟩ | ⟨kvs, k, b, e, rfl, eb, l, rfl⟩
  · exact d_dictSet I e l ry rv h
  · cases ry
    obtain ⟨z, hd, xs, rel, dd⟩ :=
          dt_of I.hok e
    have hz : xs.length ≤ sizeLine :=
          by rw [← Paired.length rel]; exact z
    refine wpAny_dictSet_heap (hsz := hz) (show (tupleKind (mixKind X.prog X.w)).room X.A from Nat.lt_of_succ_lt hu) (key_of I.hok eb) dd fun h' d' sb => h _ ?_
    obtain ⟨q, es, ep, c1, c2, c3, c4, _, c5⟩ := d'
    refine d_write I (by rw [e]; exact True.intro) sb ⟨q, c1⟩ ⟨by have := length_putK kvs k v; omega, hd, _, (rel.put k eb rv).keeps fun c ys ec => ?_, q, es, ep, c1, c2, c3, c4, c5⟩
    rw [upd_ne (ne_of ec e (fun z =>
          nomatch z))]
    exact ec
def efD (mk mv : EM) : EF := fun r l S => (mk l S).bind fun k S2 => (mv l S2).bind fun v S3 => match putD S3 (.ref r) k v with
  | some S4 => .ok () S4
  | none => .bad
def elD (tk tv : TE) (D : Addr) (σ : L2.St) (H : Hp) (Nx : Hp → Prop) : Prop := tk σ H fun y H4 => tv σ H4 fun z H5 => ∃ H6, DPut H5 D y z H6 ∧ Nx H6
theorem el_dict {mk mv : EM} : ElR G (elD (tE G F0 W0 mk) (tE G F0 W0 mv)) (efD mk mv) := fun {r D σ H Nx ρ S l} T hD h => by
  unfold efD at h
  refine ⟨ρ, S, l, T, Out.sat_mono (fun k S2 h2 ρ2 H2 x2 T2 y ry => ?_) (fun _ _ _ z => z.elim) (Out.sat_bind.mp h)⟩
  refine ⟨ρ2, S2, l, T2, Out.sat_mono (fun v S3 h3 ρ3 H3 x3 T3 z rz => ?_) (fun _ _ _ z => z.elim) (Out.sat_bind.mp h2)⟩
  cases q : putD S3 (.ref r) k v with
  | none => rw [q] at h3; exact h3.elim
  | some S4 =>
    rw [q] at h3
    have hD3 : RV G ρ3 H3 (.ref r) (.ref D) := by
      unfold RV
      exact ⟨D, (x2.trans x3).at hD, rfl⟩
    obtain ⟨p, H', e, g, T4, x4⟩ := putD_ok T3 hD3 (ry.mono x3 k) rz q
    cases e
    exact ⟨H', g, h3 ρ3 H' ((x2.trans x3).trans x4) T4.rel T4.known⟩
theorem dc_el {kx vx : Expr} {tk tv : TE} {vs : List Nat} {s : Shared} {H : Hp} {scope : Scope} {ce : Env} {fp : List Addr} (hu : X.A.units + 1 < cLine) (hk : PE (X.blk s H scope ce fp) kx tk) (hv : PE (X.blk s H scope ce fp) vx tv) :
    CzEl X (elD tk tv) (fun D env P Ex s => wpAny (model X.prog X.w) X.A (eval kx env) (fun kv s4 => wpAny (model X.prog X.w) X.A (eval vx env) (fun vv s5 => wpAny (model X.prog X.w) X.A (dictSet D kv vv) (fun _ s6 => P s6) Ex s5) Ex s4) Ex s) vs s H scope ce fp :=
  fun pins s2 σ2 H2 D Nx P Ex I h hP hE => wpAny_mono (hk.run pins s2 σ2 H2 _ I h) (fun u sL ⟨y, H4, I4, ry, h4⟩ => wpAny_mono (hv.run pins sL σ2 H4 _ I4 h4) (fun r sM ⟨z, H5, I5, rz, H6, g, nx⟩ => dictSet_any (X := X.blk s H scope ce fp) hu I5 g ry rz fun sN I6 => hP sN _ H6 rfl I6 nx) hE) hE
theorem dc_kind {kx vx tg iter : Expr} {ifs : List Expr} {scope : Scope} {pos : Pos} {uN : HO} (hn : uN = .dK [] ∨ uN = .dT []) : CzKind X (.DictComp kx vx [⟨tg, iter, ifs, 0⟩] scope pos) tg iter ifs newDict { cls := .type "dict", data := .dict #[] } uN
    (fun D env P Ex s => wpAny (model X.prog X.w) X.A (eval kx env) (fun kv s4 => wpAny (model X.prog X.w) X.A (eval vx env) (fun vv s5 => wpAny (model X.prog X.w) X.A (dictSet D kv vv) (fun _ s6 => P s6) Ex s5) Ex s4) Ex s) where
  cls := ⟨_, rfl⟩
  loop := fun R s it D env I turn n h => compLoop_anyD I turn n h
  start := fun h0 h => codeAny_compStart_dict h0 h
  new := fun h => wpAny_newObj_type h
  obj := fun h H hb => by
    rcases hn with e | e
    · rw [e]; exact dk_empty h hb
    · rw [e]; exact dt_empty h hb
def newDk (S : Sto) : Out AV := match S.ok with
  | true => .ok (.ref S.n) (S.new (.dct []))
  | false => .bad
def newDt (S : Sto) : Out AV := match S.ok with
  | true => .ok (.ref S.n) (S.new (.dtp []))
  | false => .bad
theorem newD_rel : NewR G (.dK []) newDk := fun {ρ S H P E} R K h {D} hD => by
  unfold newDk at h
  cases q : S.ok with
  | false => rw [q] at h; exact h.elim
  | true =>
    rw [q] at h
    have T : Stt G F0 ρ S [] [] H := ⟨R, rfl, fun i => trivial, K, fun i j k a b e => (by cases e)⟩
    obtain ⟨T2, x2⟩ := T.new (o := .dK []) (ao := .dct []) q hD rfl ⟨[], upd_same, rfl⟩
    exact ⟨_, _, T2.rel, T2.known, x2, h, by rw [← T.rel.len]; simp⟩
theorem newT_rel : NewR G (.dT []) newDt := fun {ρ S H P E} R K h {D} hD => by
  unfold newDt at h
  cases q : S.ok with
  | false => rw [q] at h; exact h.elim
  | true =>
    rw [q] at h
    have T : Stt G F0 ρ S [] [] H := ⟨R, rfl, fun i => trivial, K, fun i j k a b e => (by cases e)⟩
    obtain ⟨T2, x2⟩ := T.new (o := .dT []) (ao := .dtp []) q hD rfl ⟨[], upd_same, rfl⟩
    exact ⟨_, _, T2.rel, T2.known, x2, h, by rw [← T.rel.len]; simp⟩
end
end Sh

end

noncomputable section
namespace Sh
open PySem PySem.Spec PyProof.Rows L2 LamX He
section
variable {X : Cx} {G : Gd} {W : WX} {F : Fm} {e tg iter : Expr} {pos : Pos}
def mOrB (m n : EM) : EM := fun ls S => orBad (m ls S) (n ls S)
theorem me_orB {m n : EM} (h1 : PE X e (tE G F W m)) (h2 : PE X e (tE G F W n)) : PE X e (tE G F W (mOrB m n)) := ⟨fun pins s σ H Q I ⟨ρ, S, ls, T, h⟩ =>
  (orBad_sat h).elim (fun h => h1.run pins s σ H Q I ⟨ρ, S, ls, T, h⟩) fun h => h2.run pins s σ H Q I ⟨ρ, S, ls, T, h⟩⟩
theorem pe_dcZ {kx vx : Expr} {ifs : List Expr} {scope : Scope} {own : List (Str × Nat)} {wi : TI} {g : TG} {tt : TT} {tk tv : TE} {uN : HO} (hn : uN = .dK [] ∨ uN = .dT []) (hu : X.A.units + 1 < cLine) (hcb : CBx X) (hc : X.calm = true) (hN : X.N.Nodup) (hi : PI X tg iter wi) (ok : BlkOk X.N X.env.scope scope own)
    (hg : ∀ (s : Shared) (H : Hp) (L : Addr) (cl : List (Str × Addr)) (fp : List Addr), CellsOut X cl → PG (X.blk s H scope (compEnvC scope cl L X.env) fp) tg g)
    (ht : ∀ (s : Shared) (H : Hp) (L : Addr) (cl : List (Str × Addr)) (fp : List Addr), CellsOut X cl → PTs (X.blk s H scope (compEnvC scope cl L X.env) fp) ifs tt)
    (hk : ∀ (s : Shared) (H : Hp) (L : Addr) (cl : List (Str × Addr)) (fp : List Addr), CellsOut X cl → PE (X.blk s H scope (compEnvC scope cl L X.env) fp) kx tk)
    (hv : ∀ (s : Shared) (H : Hp) (L : Addr) (cl : List (Str × Addr)) (fp : List Addr), CellsOut X cl → PE (X.blk s H scope (compEnvC scope cl L X.env) fp) vx tv) (hs : ∀ x, foldedSetIterable iter X.env x = pure x) :
    PE X (.DictComp kx vx [⟨tg, iter, ifs, 0⟩] scope pos) (tCz X scope wi g tt uN (elD tk tv) (own.map (·.2))) := by
  refine ⟨fun pins s σ H Q I h =>
        ?_⟩
  rw [arm_eval_DictComp]
  refine cz_core hcb hc hN I hi ok hg ht (dc_kind hn) (fun s H L cl fp out => dc_el hu (hk s H L cl fp out) (hv s H L cl fp out)) hs h fun D L s' m H' I' q hm f => ⟨m, hm, fun h'' sb => ?_⟩
  obtain ⟨f0, f1, f2, f3, f4, f5⟩ :=
        f
  exact ⟨.ref D, H', I'.turned (t' :=
        s'.toks) (fun b o hb e => (sb.2 b hb).trans e) f0 f1 f3 f4 f5, rfl, q⟩
/-- {k: v for ..}: keys ints and texts, or tuples of them -/
def mDc (i : IM) (vs cap : List Nat) (g : GM) (t : Option TM) (mk mv : EM) : EM := mOrB (mCz newDk i vs cap g t (efD mk mv)) (mCz newDt i vs cap g t (efD mk mv))
theorem me_dc {i : IM} {g : GM} {t : Option TM} {mk mv : EM} {kx vx : Expr} {ifs : List Expr} {scope : Scope} (own : List (Str × Nat)) (cap : List Nat) (hu : X.A.units + 1 < cLine) (hcb : CBx X) (hc : X.calm = true) (hN : X.N.Nodup) (hi : PI X tg iter (tI G (fm X) W i)) (ok : BlkOk X.N X.env.scope scope own)
    (hcap : ∀ (j : Nat) (n : Str), X.N[j]? = some n → scope.names.lookup n = some .free → j ∈ cap)
    (hg : ∀ (s : Shared) (H : Hp) (L : Addr) (cl : List (Str × Addr)) (fp : List Addr), CellsOut X cl → PG (X.blk s H scope (compEnvC scope cl L X.env) fp) tg (tGv G F0 (own.map (·.2)) g))
    (ht : ∀ (s : Shared) (H : Hp) (L : Addr) (cl : List (Str × Addr)) (fp : List Addr), CellsOut X cl → PTs (X.blk s H scope (compEnvC scope cl L X.env) fp) ifs (tT G F0 W0 (tYesM t)))
    (hk : ∀ (s : Shared) (H : Hp) (L : Addr) (cl : List (Str × Addr)) (fp : List Addr), CellsOut X cl → PE (X.blk s H scope (compEnvC scope cl L X.env) fp) kx (tE G F0 W0 mk))
    (hv : ∀ (s : Shared) (H : Hp) (L : Addr) (cl : List (Str × Addr)) (fp : List Addr), CellsOut X cl → PE (X.blk s H scope (compEnvC scope cl L X.env) fp) vx (tE G F0 W0 mv)) (hs : ∀ x, foldedSetIterable iter X.env x = pure x) :
    PE X (.DictComp kx vx [⟨tg, iter, ifs, 0⟩] scope pos) (tE G (fm X) W (mDc i (own.map (·.2)) cap g t mk mv)) :=
  me_orB (PE_imp (pe_dcZ (.inl rfl) hu hcb hc hN hi ok hg ht hk hv hs) fun _ _ _ h => cz_read newD_rel el_dict own cap hN hcap h)
    (PE_imp (pe_dcZ (.inr rfl) hu hcb hc hN hi ok hg ht hk hv hs) fun _ _ _ h => cz_read newT_rel el_dict own cap hN hcap h)
/-! ### dict(d), d.update(e) -/
def dctAt (S : Sto) : AV → Option (Nat × List (AV × AV))
  | .ref i => match S.get i with
    | some (.dct kvs) => some (i, kvs)
    | _ => none
  | _ => none
theorem dctAt_ok {ρ : List Addr} {S : Sto} {ls : Lo} {σ : L2.St} {H : Hp} {x : AV} {v : V} {i : Nat} {kvs : List (AV × AV)} (T : Stt G F ρ S ls σ H) (r : RV G ρ H x v) (h : dctAt S x = some (i, kvs)) :
    ∃ a ps, x = .ref i ∧ v = .ref a ∧ ρ[i]? = some a ∧ S.get i = some (.dct kvs) ∧ H a = some (.dK ps) ∧ KR G ρ H kvs ps := by
  unfold dctAt at h
  cases x with
  | ref j =>
    dsimp only at h
    split at h
    · rename_i l hg
      cases h
      unfold RV at r
      obtain ⟨a, ha, rfl⟩ := r
      obtain ⟨ps, e, kr⟩ := T.rel.obj i a _ ha hg
      exact ⟨a, ps, rfl, rfl, ha, hg, e, kr⟩
    · cases h
  | _ => cases h
def fDict : List AV → Sto → Out AV := fun xs S => match xs with
  | [x] => match dctAt S x, S.ok with
    | some (_, kvs), true => .ok (.ref S.n) (S.new (.dct kvs))
    | _, _ => .bad
  | _ => .bad
abbrev rDictD : List V → Hp → VK → Prop := fun xs H Q => ∃ (a : Addr) (kvs : List (Key × V)), xs = [.ref a] ∧ Rd H a (.dK kvs) ∧ ∀ p, H p = none → Q (.ref p) (upd H p (.dK kvs))
theorem cs_dict : CallS G F W rDictD fDict := fun ρ S ls σ H xs vs Q T r h => by
  unfold fDict at h
  split at h
  · obtain ⟨v, rfl, rv⟩ := rvs1 r
    split at h
    · rename_i i kvs q1 q2
      obtain ⟨a, ps, rfl, rfl, ha, hg, e, kr⟩ := dctAt_ok T rv q1
      refine ⟨a, ps, rfl, .inl e, fun p hp => ?_⟩
      obtain ⟨R, x⟩ := T.rel.newK (H' := upd H p (.dK ps)) (ao := .dct kvs) q2 hp (fun b o e => by
        rw [upd_ne (fun z => by rw [z, hp] at e; cases e)]; exact e) rfl ⟨ps, upd_same, KR.mono (ρ' := ρ ++ [p]) ⟨⟨[p], rfl⟩, fun b o e _ => by
          rw [upd_ne (fun z => by rw [z, hp] at e; cases e)]; exact e⟩ kr⟩
      refine h _ _ x (T.newC q2 (fun _ z => by cases z) x R) _ ?_
      unfold RV
      exact ⟨p, by rw [← T.rel.len]; simp, rfl⟩
    · exact h.elim
  · exact h.elim
/-- all pairs of more, one by one -/
def mrgA : List (AV × AV) → List (AV × AV) → List (AV × AV)
  | kvs, [] => kvs
  | kvs, (k, v) :: r => mrgA (putA kvs k v) r
theorem kg_mrg {ρ : List Addr} {H : Hp} : ∀ {more : List (AV × AV)} {qs : List (Key × V)} {kvs : List (AV × AV)} {ps : List (Key × V)}, KR G ρ H more qs → KR G ρ H kvs ps → KR G ρ H (mrgA kvs more) (mergeK ps qs)
  | [], qs, kvs, ps, h, k => by
    unfold KR at h
    subst h
    exact k
  | (a, v) :: r, qs, kvs, ps, h, k => by
    unfold KR at h
    obtain ⟨a', x, rs, rfl, ha, hv, hr⟩ := h
    have z := kg_mrg (kvs := putA kvs a v) (ps := putK ps a' x) hr (kr_kg.mpr (kg_put (@kEq_s) ha hv (kr_kg.mp k)))
    exact z
def rUpdD : V → List V → Hp → VK → Prop := fun x xs H Q => ∃ (a b : Addr) (ps qs : List (Key × V)), x = .ref a ∧ xs = [.ref b] ∧ a ≠ b ∧ H a = some (.dK ps) ∧ H b = some (.dK qs) ∧ ps.length + qs.length ≤ sizeLine ∧ Q .non (upd H a (.dK (mergeK ps qs)))
theorem mt_updD : MtR X "dict.update" rUpdD := by
  intro pins s σ H x xs v us Q I rx rv h
  obtain ⟨a, b, ps, qs, rfl, rfl, ne, ea, eb, hz, q⟩ := h
  cases rx
  obtain ⟨u, rfl, ru⟩ := vals1 rv
  cases ru
  obtain ⟨z1, d1, vs, r1, dd1⟩ := dk_of I.hok ea
  obtain ⟨z2, d2, ws, r2, dd2⟩ := dk_of I.hok eb
  have l1 : ps.length = vs.length := r1.length
  have l2 : qs.length = ws.length := r2.length
  refine call_meetsIn PySem.F.slot_dict_update dd1.typeIs PySem.F.entry_dict_update (PySem.F.args_dict_update_2 _ _) (meets_dict_update (mixKind X.prog X.w) a b ne d2) ⟨vs, ws, dd1, dd2, by omega, fun h' e1 _ hs => ?_⟩
  have he : ∃ q, h'.get? a = some q := let ⟨q, _, _, hq, _⟩ := e1; ⟨q, hq⟩
  refine ⟨.non, _, d_write I (by rw [ea]; exact True.intro) hs he (dk_new ?_ d1 (KV.merge r2 r1) e1), rfl, q⟩
  have := length_mergeK qs ps
  omega
def isDk : AV → Sto → Bool := fun x S => (dctAt S x).isSome
def fUpdate : AV → List AV → Sto → Out AV := fun x xs S => match xs with
  | [y] => match dctAt S x, dctAt S y with
    | some (i, kvs), some (j, more) => match Nat.beq i j, Nat.ble (kvs.length + more.length) 10000000 with
      | false, true => .ok .non (S.put i (.dct (mrgA kvs more)))
      | _, _ => .bad
    | _, _ => .bad
  | _ => .bad
theorem isDk_ok : TypS G F "dict" isDk := fun ρ S ls σ H x v T r h => by
  obtain ⟨⟨i, kvs⟩, e⟩ := isSome_of h
  obtain ⟨a, ps, _, rfl, _, _, e, _⟩ := dctAt_ok T r e
  exact .inr (.inr (.inl ⟨rfl, .inl ⟨_, e⟩⟩))
theorem ms_updD : MethS G F W "dict" rUpdD fUpdate := fun ρ S ls σ H x xs v vs Q T rx rv h => by
  unfold fUpdate at h
  split at h
  · rename_i y
    obtain ⟨u, rfl, ru⟩ := rvs1 rv
    split at h
    · rename_i i kvs j more q1 q2
      obtain ⟨a, ps, rfl, rfl, ha, hg, e, kr⟩ := dctAt_ok T rx q1
      obtain ⟨b, qs, rfl, rfl, hb, hg2, e2, kr2⟩ := dctAt_ok T ru q2
      split at h
      · rename_i c1 c2
        have ne : a ≠ b := fun z => by
          subst z
          have := T.rel.nd i j a _ _ ha hb hg hg2 rfl (fun z => by cases z) fun z => by cases z
          rw [this, Nat.beq_refl] at c1
          cases c1
        obtain ⟨T2, x2⟩ := T.upd (o := .dK (mergeK ps qs)) (ao := .dct (mrgA kvs more)) ha hg e (fun z => z) (fun _ z => by cases z) rfl rfl fun x => ⟨_, upd_same, KR.mono x (kg_mrg kr2 kr)⟩
        exact ⟨a, b, ps, qs, rfl, rfl, ne, e, e2, by rw [KR_len kr, KR_len kr2]; exact le_line c2, h ρ _ x2 T2 _ rv_non⟩
      · exact h.elim
    · exact h.elim
  · exact h.elim
theorem me_update {o : Expr} {apos : Pos} {mo : EM} {m : AM} (hk : X.K = G.K) (ho : PE X o (tE G F W mo)) (ha : PA X [e] (tA G F W m))
    (hbase : attributeBase o "update" X.env (eval o X.env) = eval o X.env)
    (hfew : ((backTo pos (starEach (e :: []) X.env)).all (fun x => !x.1) && (backToKw pos (keywordEach [] X.env)).all (fun x => x.1.isSome)
      && decide ((e :: []).length + ([] : List Keyword).length + (if ([] : List Keyword).isEmpty then 0 else 1) < 30)) = true)
    (hline : (apos.endLine == pos.line) = true) (hs : starEach (e :: []) X.env = (false, eval e X.env) :: starEach [] X.env) (hplain : (backTo pos (starEach [] X.env)).any (·.1) = false) :
    PE X (.Call (.Attribute o "update" apos) [e] [] pos) (tE G F W (mMeth isDk fUpdate mo m)) :=
  me_bm (id := "dict.update") hk (pe_bm PySem.F.plainAttrs_dict PySem.F.slot_dict_update PySem.F.type_dict_update mt_updD ho ha hbase hfew hline hs hplain) isDk_ok ms_updD
end
end Sh

end

noncomputable section
namespace Sh
open PySem PySem.Spec PyProof.Rows L2 LamX He
section
variable {X : Cx} {G : Gd} {W : WX} {F : Fm} {elt tg iter tg1 iter1 : Expr} {ifs ifs1 : List Expr} {scope : Scope} {pos : Pos}
/-! ### [e for a in x if .. for b in y if ..] -/
/-- the inner clause's loop, behind which Nx -/
def elIn (wi : TI) (g : TG) (tt : TT) (el : Addr → L2.St → Hp → (Hp → Prop) → Prop) (vs : List Nat) (D : Addr) (σ : L2.St) (H : Hp) (Nx : Hp → Prop) : Prop := wi σ H fun J H1 => ∃ Wl : Nat → Nat → Hp → Prop, (∃ m, Wl 0 m H1) ∧ ∀ j k H2, Wl j k H2 →
  (J.stop j H2 ∧ Nx H2) ∨ (J.go j H2 ∧ ∃ Ny : Hp → Prop, (∀ H', Ny H' → ∃ k', k' < k ∧ Wl (j + 1) k' H') ∧ ∀ x H', J.yld j H2 x H' → g x (wipe σ vs) H' fun σ3 H3 => wipe σ3 vs = wipe σ vs ∧ tt σ3 H3 fun b H4 => if b = true then el D σ3 H4 Ny else Ny H4)
abbrev lc2x (elt tg iter : Expr) (ifs : List Expr) (tg1 iter1 : Expr) (ifs1 : List Expr) (scope : Scope) (pos : Pos) : Expr := .ListComp elt [⟨tg, iter, ifs, 0⟩, ⟨tg1, iter1, ifs1, 0⟩] scope pos
abbrev EW2 (X : Cx) (xc iter1 : Expr) : Addr → Env → (Shared → Prop) → (Value → Shared → Prop) → Shared → Prop := fun D env P Ex s => wpAny (model X.prog X.w) X.A (eval iter1 env) (fun x s4 => wpAny (model X.prog X.w) X.A (pyIter x) (fun it1 s5 =>
  codeAny (model X.prog X.w) X.A (.compStart xc 1 it1 (.ref D) env) (fun r s' => match r with
    | .ok _ => P s'
    | .error _ => False) s5) Ex s4) Ex s
theorem lc2_kind (hs : ∀ env x, foldedSetIterable iter1 env x = pure x) : CzKind X (lc2x elt tg iter ifs tg1 iter1 ifs1 scope pos) tg iter ifs (newList []) { cls := .type "list", data := .seq ([] : List Value).toArray } (.lst []) (EW2 X (lc2x elt tg iter ifs tg1 iter1 ifs1 scope pos) iter1) where
  cls := ⟨_, rfl⟩
  loop := fun R s it D env I turn n h => compLoop2_out (hs env) I turn n h
  start := fun h0 h => codeAny_compStart_list h0 h
  new := fun h => wpAny_newObj_type h (by show 0 ≤ sizeLine; decide)
  obj := fun h H hb => ⟨Nat.zero_le _, [], 0, .nil, Heap.get?_push_size _ rfl⟩
theorem wipe_in {vs1 vs : List Nat} {σ : L2.St} (hv : ∀ i ∈ vs1, i ∈ vs) : wipe (wipe σ vs1) vs = wipe σ vs := by
  have one : ∀ (vs : List Nat) (σ : L2.St) (v : Nat), v ∈ vs → wipe (σ.set v none) vs = wipe σ vs := by
    intro vs
    induction vs with
    | nil => intro σ v h; cases h
    | cons w r ih =>
      intro σ v h
      unfold wipe
      by_cases e : v = w
      · subst e
        by_cases hm : v ∈ r
        · rw [ih σ v hm]
        · have sw : ∀ (r : List Nat) (σ : L2.St), v ∉ r → wipe (σ.set v none) r = (wipe σ r).set v none := by
            intro r
            induction r with
            | nil => intro σ _; rfl
            | cons u t ih2 =>
              intro σ hn
              unfold wipe
              rw [ih2 σ fun z => hn (List.mem_cons_of_mem _ z)]
              exact List.set_comm _ _ fun z => hn (by rw [z]; exact List.mem_cons_self)
          rw [sw r σ hm, List.set_set]
      · rcases List.mem_cons.mp h with z | z
        · exact absurd z e
        · rw [ih σ v z]
  induction vs1 with
  | nil => rfl
  | cons v r ih =>
    show wipe ((wipe σ r).set v none) vs = _
    rw [one vs _ v (hv v List.mem_cons_self)]
    exact ih fun i hi => hv i (List.mem_cons_of_mem _ hi)
theorem lc2_el {s : Shared} {H : Hp} {ce : Env} {fp : List Addr} {vs vs1 : List Nat} {wi : TI} {g : TG} {tt : TT} {te : TE} (hc : X.calm = true) (hv : ∀ i ∈ vs1, i ∈ vs) (hi : PI (X.blk s H scope ce fp) tg1 iter1 wi) (hg : PG (X.blk s H scope ce fp) tg1 g) (ht : PTs (X.blk s H scope ce fp) ifs1 tt) (he : PE (X.blk s H scope ce fp) elt te) :
    CzEl X (elIn wi g tt (elL te) vs1) (EW2 X (lc2x elt tg iter ifs tg1 iter1 ifs1 scope pos) iter1) vs s H scope ce fp := by
  intro pins s2 σ2 H2 D Nx P Ex I h hP hE
  refine wpAny_mono (hi.run pins s2 σ2 H2 _ I h) (fun xv s3 hx => wpAny_mono hx (fun itv s4 h4 => ?_) hE) hE
  obtain ⟨it, fq, tn, J, H4, e, I4, Tn, st4, ok4, Wl, ⟨m0, w0⟩, turn⟩ := h4
  subst e
  have loop : codeAny (model X.prog X.w) X.A (.compLoop (lc2x elt tg iter ifs tg1 iter1 ifs1 scope pos) 1 (.ref it) (.ref D) ce) (fun r s' => match r with
      | .ok _ => P s'
      | .error _ => False) s4 := by
    refine compLoop2_in (fun k s' => ∃ j H', Inv (X.blk s H scope ce fp) pins (wipe σ2 vs1) H' s' ∧ tn j s'.heap ∧ (∀ b ∈ fq, H' b = none) ∧ Wl j k H') ?_ m0 ⟨0, H4, I4.weak (wipe_length _ _) (fun j v q => (wipe_some q).1), st4, fun b hb => (ok4 b hb).1, w0⟩
    rintro k s5 ⟨j, H5, I5, st5, n5, w5⟩
    have fq5 : ∀ {Hx : Hp}, (∀ b ∈ fq, Hx b = none) → ∀ b ∈ fq, FpOk (X.blk s H scope ce fp) pins Hx b := fun hn b hb => ⟨hn b hb, (ok4 b hb).2⟩
    rcases turn j k H5 w5 with ⟨stop, nx⟩ | ⟨go, Ny, hNy, step⟩
    · refine wpAny_mono (Tn.done (X.blk s H scope ce fp) rfl rfl rfl hc j _ s5 _ H5 (fun _ _ => False) I5 (fq5 n5) st5 stop) (fun r s6 ⟨hr, I6⟩ => ?_) fun _ _ z => z.elim
      subst hr
      exact hP s6 _ H5 (wipe_in hv) I6 nx
    · refine wpAny_mono (Tn.item (X.blk s H scope ce fp) rfl rfl rfl hc j _ s5 _ H5 (fun _ _ => False) I5 (fq5 n5) st5 go) (fun r s6 ⟨u, hr, h6⟩ => ?_) fun _ _ z => z.elim
      subst hr
      refine wpAny_mono h6 (fun _ s7 ⟨x, H7, I7, r7, y7, st7, n7⟩ => ?_) fun _ _ z => z.elim
      refine wpAny_mono (hg.run _ s7 _ H7 x u _ (I7.pinned (fq5 n7) (Tn.obj _ _ st7)) r7 (step x H7 y7)) (fun _ s8 ⟨σ8, H8, I8, w8, h8⟩ => ?_) fun _ _ z => z.elim
      refine wpAny_mono (ht.run _ s8 σ8 H8 _ I8 h8) (fun b s9 ⟨H9, I9, h9⟩ => ?_) fun _ _ z => z.elim
      have next : ∀ {s' : Shared} {Hx : Hp}, Inv (X.blk s H scope ce fp) (pins ++ pinsAt fq s7.heap) σ8 Hx s' → Ny Hx → ∃ m, m < k ∧ ∃ j H', Inv (X.blk s H scope ce fp) pins (wipe σ2 vs1) H' s' ∧ tn j s'.heap ∧ (∀ b ∈ fq, H' b = none) ∧ Wl j m H' := fun {s' Hx} Ix ny => by
        obtain ⟨k', hk, w'⟩ := hNy Hx ny
        have held : ∀ b ∈ fq, ∀ o, s7.heap.get? b = some o → s'.heap.get? b = some o ∧ Hx b = none := fun b hb o q =>
          let z := Ix.pin (b, o) (List.mem_append_right _ (List.mem_append_right _ (mem_pinsAt hb q)))
          ⟨z.1, z.2.1⟩
        refine ⟨k', hk, j + 1, Hx, Ix.unpinned.weak (by rw [← w8, wipe_length]) (fun i v q => by rw [← w8] at q; exact (wipe_some q).1), Tn.keep _ _ _ st7 fun b hb o q => (held b hb o q).1, fun b hb => ?_, w'⟩
        obtain ⟨o, q, _⟩ := Tn.obj _ _ st7 b hb
        exact (held b hb o q).2
      cases b with
      | false =>
        simp only [Bool.false_eq_true, if_false] at h9 ⊢
        exact next I9 h9
      | true =>
        simp only [if_true] at h9 ⊢
        refine wpAny_mono (he.run _ s9 σ8 H9 _ I9 h9) (fun z s10 ⟨yv, H10, I10, r10, acc, hD, hz, ny⟩ => ?_) fun _ _ z => z.elim
        exact app_ok (X := X.blk s H scope ce fp) I10 hD hz r10 fun s11 I11 => next I11 ny
  exact compStart1_ok loop (Tn.self X.A 0 _ _ _ st4 loop)
/-! the plain form -/
def mBlkI (i : IM) : IM := fun ls S => match noC ls with
  | true => xBad (i ls S)
  | false => .bad
theorem mi_blk {i : IM} (h : PI X tg iter (tI G (fm X) W0 i)) {F : Fm} : PI X tg iter (tI G F W0 (mBlkI i)) := by
  refine ⟨fun pins s σ H R I ⟨ρ, S, ls, T, z⟩ => ?_⟩
  unfold mBlkI at z
  cases hn : noC ls with
  | false => simp only [hn] at z; exact z.elim
  | true =>
    simp only [hn] at z
    exact h.run pins s σ H R I ⟨ρ, S, ls, T.any hn, Out.sat_mono (fun J S2 z ρ2 H2 K y T2 ri => z ρ2 H2 K y (T2.any hn) ri) (fun _ _ _ z => z) (xBad_sat z)⟩
def loopI (g : GM) (t : Option TM) (m : EF) (I : IT) (r : Nat) (l0 : Lo) : Nat → Nat → Sto → Out Unit
  | 0, _, _ => .bad
  | f + 1, k, S => match nxt I k S with
    | none => .bad
    | some none => .ok () S
    | some (some v) => match g v l0 S with
      | .ok l1 S1 => (match t with
        | none => Out.ok true S1
        | some t => t l1 S1).bind fun b S2 => match b with
          | true => (m r l1 S2).bind fun _ S3 => loopI g t m I r l0 f (k + 1) S3
          | false => loopI g t m I r l0 f (k + 1) S2
      | _ => .bad
def efIn (i : IM) (vs : List Nat) (g : GM) (t : Option TM) (m : EF) : EF := fun r l S => (i l S).bind fun I S1 => match noC l with
  | true => xBad (loopI g t m I r (wipeC (wipeL l vs)) fuel 0 S1)
  | false => .bad
theorem el_in {i : IM} {g : GM} {t : Option TM} {m : EF} {el : Addr → L2.St → Hp → (Hp → Prop) → Prop} (vs : List Nat) (hel : ElR G el m) : ElR G (elIn (tI G F0 W0 i) (tGv G F0 vs g) (tT G F0 W0 (tYesM t)) el vs) (efIn i vs g t m) := fun {r D σ H Nx ρ S l} T hD h => by
  unfold efIn at h
  refine ⟨ρ, S, l, T, Out.sat_mono (fun I S1 q ρ1 H1 J x1 T1 ri => ?_) (fun _ _ _ z => z.elim) (Out.sat_bind.mp h)⟩
  cases hn : noC l with
  | false => rw [hn] at q; exact q.elim
  | true =>
  rw [hn] at q
  have q := xBad_sat (E' := fun _ _ _ => False) q
  refine ⟨fun k m' H' => ∃ ρ0 S0, Ext ρ1 H1 ρ0 H' ∧ Rel G ρ0 S0 H' ∧ AllKnown G ρ0 S0 H' ∧ (loopI g t m I r (wipeC (wipeL l vs)) m' k S0).Sat (fun _ S' => ∀ ρ' H', Ext ρ H ρ' H' → Rel G ρ' S' H' → AllKnown G ρ' S' H' → Nx H') (fun _ _ _ => False), ⟨fuel, ρ1, S1, Ext.refl _ _, T1.rel, T1.known, q⟩, ?_⟩
  rintro k m' H2 ⟨ρ2, S2, x2, R2, K2, h2⟩
  have blk : ∀ {F' : Fm} {ρ' : List Addr} {S' : Sto} {H' : Hp}, Ext ρ1 H1 ρ' H' → Rel G ρ' S' H' → AllKnown G ρ' S' H' → Stt G F' ρ' S' (wipeC (wipeL l vs)) (wipe σ vs) H' := fun {F' ρ' S' H'} y R K => blk_stt _ T1 y R K
  cases m' with
  | zero => exact h2.elim
  | succ m' =>
    obtain ⟨ra, rb⟩ := ri F0 ρ2 H2 S2 _ _ k x2 (blk x2 R2 K2)
    unfold loopI at h2
    cases qn : nxt I k S2 with
    | none => rw [qn] at h2; exact h2.elim
    | some o =>
      cases o with
      | none =>
        rw [qn] at h2
        exact .inl ⟨ra qn, h2 ρ2 H2 (x1.trans x2) R2 K2⟩
      | some v =>
        rw [qn] at h2
        obtain ⟨go, yl⟩ := rb v qn
        refine .inr ⟨go, fun H' => ∃ ρ0 S0, Ext ρ1 H1 ρ0 H' ∧ Rel G ρ0 S0 H' ∧ AllKnown G ρ0 S0 H' ∧ (loopI g t m I r (wipeC (wipeL l vs)) m' (k + 1) S0).Sat (fun _ S' => ∀ ρ' H', Ext ρ H ρ' H' → Rel G ρ' S' H' → AllKnown G ρ' S' H' → Nx H') (fun _ _ _ => False), fun H' n => ⟨m', Nat.lt_succ_self _, n⟩, fun y H4 hy => ?_⟩
        obtain ⟨ρ4, x4, T4, rv⟩ := yl y H4 hy
        dsimp only at h2
        cases qg : g v (wipeC (wipeL l vs)) S2 with
        | ok l2 S5 =>
          rw [qg] at h2
          refine ⟨ρ4, S2, _, v, blk (x2.trans x4) T4.rel T4.known, rv, ?_⟩
          rw [qg]
          intro ρ5 H5 σ5 x5 T5 w5
          refine ⟨w5.trans (wipe_wipe _ _), ?_⟩
          refine ⟨ρ5, S5, l2, T5, Out.sat_mono (fun b S6 z ρ6 H6 x6 T6 => ?_) (fun _ _ _ z => z.elim) (Out.sat_bind.mp h2)⟩
          have x26 := x2.trans (x4.trans (x5.trans x6))
          cases b with
          | false => exact iteF ⟨ρ6, _, x26, T6.rel, T6.known, z⟩
          | true =>
            refine iteT (hel T6 ((x1.trans x26).at hD) (Out.sat_mono (fun _ S7 z7 ρ7 H7 x7 R7 K7 => ?_) (fun _ _ _ z => z) (Out.sat_bind.mp z)))
            exact ⟨ρ7, S7, x26.trans x7, R7, K7, z7⟩
        | _ => rw [qg] at h2; exact h2.elim
/-- [e for a in x if .. for b in y if ..] -/
theorem pe_lcZ2 {own : List (Str × Nat)} {vs1 : List Nat} {wi wi1 : TI} {g g1 : TG} {tt tt1 : TT} {te : TE} (hcb : CBx X) (hc : X.calm = true) (hN : X.N.Nodup) (hi : PI X tg iter wi) (ok : BlkOk X.N X.env.scope scope own) (hv : ∀ i ∈ vs1, i ∈ own.map (·.2))
    (hg : ∀ (s : Shared) (H : Hp) (L : Addr) (cl : List (Str × Addr)) (fp : List Addr), CellsOut X cl → PG (X.blk s H scope (compEnvC scope cl L X.env) fp) tg g)
    (ht : ∀ (s : Shared) (H : Hp) (L : Addr) (cl : List (Str × Addr)) (fp : List Addr), CellsOut X cl → PTs (X.blk s H scope (compEnvC scope cl L X.env) fp) ifs tt)
    (hi1 : ∀ (s : Shared) (H : Hp) (L : Addr) (cl : List (Str × Addr)) (fp : List Addr), CellsOut X cl → PI (X.blk s H scope (compEnvC scope cl L X.env) fp) tg1 iter1 wi1)
    (hg1 : ∀ (s : Shared) (H : Hp) (L : Addr) (cl : List (Str × Addr)) (fp : List Addr), CellsOut X cl → PG (X.blk s H scope (compEnvC scope cl L X.env) fp) tg1 g1)
    (ht1 : ∀ (s : Shared) (H : Hp) (L : Addr) (cl : List (Str × Addr)) (fp : List Addr), CellsOut X cl → PTs (X.blk s H scope (compEnvC scope cl L X.env) fp) ifs1 tt1)
    (he : ∀ (s : Shared) (H : Hp) (L : Addr) (cl : List (Str × Addr)) (fp : List Addr), CellsOut X cl → PE (X.blk s H scope (compEnvC scope cl L X.env) fp) elt te) (hs : ∀ x, foldedSetIterable iter X.env x = pure x) (hs1 : ∀ env x, foldedSetIterable iter1 env x = pure x) :
    PE X (lc2x elt tg iter ifs tg1 iter1 ifs1 scope pos) (tCz X scope wi g tt (.lst []) (elIn wi1 g1 tt1 (elL te) vs1) (own.map (·.2))) := by
  refine ⟨fun pins s σ H Q I h =>
        ?_⟩
  rw [eval_ListComp]
  refine cz_core hcb hc hN I hi ok hg ht (lc2_kind hs1) (fun s H L cl fp out => lc2_el hc hv (hi1 s H L cl fp out) (hg1 s H L cl fp out) (ht1 s H L cl fp out) (he s H L cl fp out)) hs h fun D L s' m H' I' q hn f => ⟨m, hn, fun h'' sb => ?_⟩
  obtain ⟨f0, f1, f2, f3, f4, f5⟩ :=
        f
  exact ⟨.ref D, H', I'.turned (t' :=
        s'.toks) (fun b o hb e => (sb.2 b hb).trans e) f0 f1 f3 f4 f5, rfl, q⟩
theorem me_lc2 {i i1 : IM} {g g1 : GM} {t t1 : Option TM} {m : EM} (own : List (Str × Nat)) (vs1 cap : List Nat) (hcb : CBx X) (hc : X.calm = true) (hN : X.N.Nodup) (hi : PI X tg iter (tI G (fm X) W i)) (ok : BlkOk X.N X.env.scope scope own) (hv : ∀ i ∈ vs1, i ∈ own.map (·.2))
    (hcap : ∀ (j : Nat) (n : Str), X.N[j]? = some n → scope.names.lookup n = some .free → j ∈ cap)
    (hg : ∀ (s : Shared) (H : Hp) (L : Addr) (cl : List (Str × Addr)) (fp : List Addr), CellsOut X cl → PG (X.blk s H scope (compEnvC scope cl L X.env) fp) tg (tGv G F0 (own.map (·.2)) g))
    (ht : ∀ (s : Shared) (H : Hp) (L : Addr) (cl : List (Str × Addr)) (fp : List Addr), CellsOut X cl → PTs (X.blk s H scope (compEnvC scope cl L X.env) fp) ifs (tT G F0 W0 (tYesM t)))
    (hi1 : ∀ (s : Shared) (H : Hp) (L : Addr) (cl : List (Str × Addr)) (fp : List Addr), CellsOut X cl → PI (X.blk s H scope (compEnvC scope cl L X.env) fp) tg1 iter1 (tI G F0 W0 i1))
    (hg1 : ∀ (s : Shared) (H : Hp) (L : Addr) (cl : List (Str × Addr)) (fp : List Addr), CellsOut X cl → PG (X.blk s H scope (compEnvC scope cl L X.env) fp) tg1 (tGv G F0 vs1 g1))
    (ht1 : ∀ (s : Shared) (H : Hp) (L : Addr) (cl : List (Str × Addr)) (fp : List Addr), CellsOut X cl → PTs (X.blk s H scope (compEnvC scope cl L X.env) fp) ifs1 (tT G F0 W0 (tYesM t1)))
    (he : ∀ (s : Shared) (H : Hp) (L : Addr) (cl : List (Str × Addr)) (fp : List Addr), CellsOut X cl → PE (X.blk s H scope (compEnvC scope cl L X.env) fp) elt (tE G F0 W0 m)) (hs : ∀ x, foldedSetIterable iter X.env x = pure x) (hs1 : ∀ env x, foldedSetIterable iter1 env x = pure x) :
    PE X (.ListComp elt [⟨tg, iter, ifs, 0⟩, ⟨tg1, iter1, ifs1, 0⟩] scope pos) (tE G (fm X) W (mCz (newL []) i (own.map (·.2)) cap g t (efIn i1 vs1 g1 t1 (efL m)))) :=
  PE_imp (pe_lcZ2 hcb hc hN hi ok hv hg ht hi1 hg1 ht1 he hs hs1) fun _ _ _ h => cz_read newL_rel (el_in vs1 (el_list rfl)) own cap hN hcap h
end
end Sh

end

noncomputable section
namespace Sh
open PySem PySem.Spec PyProof.Rows L2 LamX He
section
variable {X : Cx} {G : Gd} {W : WX} {F : Fm} {e o i : Expr} {es : List Expr} {pos : Pos} {mo mi ma mb : EM}
/-! ### o[i] = v -/
def setIx (o i v : AV) (S : Sto) : Option Sto := match o with
  | .ref r => match S.get r with
    | some (.lst xs) => match i with
      | .int k => match ixN xs.length k with
        | some j => some (S.put r (.lst (xs.set j v)))
        | none => none
      | _ => none
    | _ => putD S o i v
  | _ => none
def rSetB : TSet := fun o i v H Q => rSetL o i v H Q ∨ rSetD o i v H Q
theorem set_B (hu : X.A.units + 1 < cLine) : PSet X rSetB := by
  intro
        pins s σ H o i v ov iv u Q I ro ri rv h
  rcases h with h | h
  · exact set_list pins s σ H o i v ov iv u Q I ro ri rv h
  · exact set_dict hu pins s σ H o i v ov iv u Q I ro ri rv h
theorem RVs_set {ρ : List Addr} {H : Hp} {a : AV} {x : V} (ra : RV G ρ H a x) : ∀ {xs : List AV} {vs : List V} {j : Nat}, RVs G ρ H xs vs → RVs G ρ H (xs.set j a) (vs.set j x)
  | [], vs, j, h => by
    unfold RVs at h
    subst h
    simp [RVs]
  | y :: ys, vs, j, h => by
    unfold RVs at h
    obtain ⟨w, ws, rfl, r1, r2⟩ := h
    cases j with
    | zero =>
      rw [List.set_cons_zero, List.set_cons_zero]
      unfold RVs
      exact ⟨x, ws, rfl, ra, r2⟩
    | succ j =>
      rw [List.set_cons_succ, List.set_cons_succ]
      unfold RVs
      exact ⟨w, _, rfl, r1, RVs_set ra r2⟩
theorem setIx_ok {ov iv v : AV} {ρ : List Addr} {S S' : Sto} {ls : Lo} {σ : L2.St} {H : Hp} {x y z : V} (T : Stt G F ρ S ls σ H) (ro : RV G ρ H ov x) (ri : RV G ρ H iv y) (rv : RV G ρ H v z) (h : setIx ov iv v S = some S') :
    ∃ H', Stt G F ρ S' ls σ H' ∧ Ext ρ H ρ H' ∧ ∀ Q : Hp → Prop, Q H' → rSetB x y z H Q := by
  unfold setIx at h
  cases ov with
  | ref r =>
    dsimp only at h
    split at h
    · rename_i xs q
      split at h
      · rename_i k
        split at h
        · rename_i j q2
          cases h
          unfold RV at ro
          obtain ⟨p, hp, rfl⟩ := ro
          unfold RV at ri
          subst ri
          obtain ⟨vs, e1, rs⟩ := T.rel.obj r p _ hp q
          have rr := RVs_set (j := j) rv rs
          obtain ⟨T2, x2⟩ := T.upd (o := .lst (vs.set j z)) (ao := .lst (xs.set j v)) hp q e1 (fun z => z) (fun ps z => by cases z) rfl rfl fun x => ⟨_, upd_same, rr.mono x _⟩
          exact ⟨_, T2, x2, fun Q hq => .inl ⟨p, vs, k, j, rfl, rfl, e1, by rw [RVs_len rs]; exact q2, hq⟩⟩
        · cases h
      · cases h
    · obtain ⟨p, H', e1, e2, T2, x2⟩ := putD_ok T ro ri rv h
      exact ⟨H', T2, x2, fun Q hq => .inr ⟨p, H', e1, e2, hq⟩⟩
  | _ => cases h
def gSubM (mo mi : EM) : GM := fun v ls S => (onlyOk (mo ls S)).bind fun o S1 => (onlyOk (mi ls S1)).bind fun i S2 => match setIx o i v S2 with
  | some S3 => .ok ls S3
  | none => .bad
theorem asg_sub {env : Env} (h : notSlice i = true) (v : Value) : assign (.Subscript o i pos) env v = (do
      let ov ← holding [v]
            (eval o env)
      let iv ← holding [v,
            ov] (eval i env)
      standAt pos
      holding [v,
            ov, iv] (setItem ov iv v)
      release [v, ov, iv] []) := by
  rw [arm_assign_Subscript]
  cases i with
  | Slice a b c p => cases c with
    | none => cases h
    | some c => rfl
  | _ => rfl
theorem mg_sub (hu : X.A.units + 1 < cLine) (ho : PE X o (tE G F W mo)) (hi : PE X i (tE G F W mi)) (hpl : notSlice i = true) : PG X (.Subscript o i pos) (tGm G F (gSubM mo mi)) := by
  refine PG_imp (pg_sub ho hi (set_B hu) (asg_sub hpl)) fun v σ H Q ⟨ρ, S, ls, a, T, r, h⟩ => ?_
  unfold gSubM at h
  have h := onlyOk_sat (E' := PostX G F W ρ H) (Out.sat_bind.mp h)
  refine ⟨ρ, S, ls, T, Out.sat_mono (fun w S1 z ρ1 H1 x1 T1 x rx => ?_) (fun _ _ _ z => z) h⟩
  have z := onlyOk_sat (E' := PostX G F W ρ1 H1) (Out.sat_bind.mp z)
  refine ⟨ρ1, S1, ls, T1, Out.sat_mono (fun w2 S2 z ρ2 H2 x2 T2 y ry => ?_) (fun _ _ _ z => z) z⟩
  split at z
  · rename_i S3 q
    obtain ⟨H3, T3, x3, k⟩ := setIx_ok T2 (rx.mono x2 w) ry ((r.mono x1 a).mono x2 a) q
    exact k _ (z ρ2 H3 σ (x1.trans (x2.trans x3)) T3)
  · exact z.elim
/-! ### range -/
def rgB (j : Int) : Bool := decide (-4611686018427387904 ≤ j) && decide (j < 4611686018427387904)
theorem rgB_ok {j : Int} (h : rgB j = true) : -(2 ^ 62) ≤ j ∧ j < 2 ^ 62 := by
  obtain ⟨a, b⟩ := ba h
  have a := of_decide_eq_true a
  have b := of_decide_eq_true b
  constructor <;> omega
theorem nxt_rg (lo : Int) (n k : Nat) (S : Sto) : nxt (.rg lo n) k S = match Nat.blt k n with
    | true => some (some (.int (lo + k)))
    | false => some none := rfl
theorem ri_rg {ρ : List Addr} {H : Hp} {lo : Int} {n : Nat} : RI G F (.rg lo n) (Itr lo n) ρ H := fun _ ρ' H' S ls σ k x T => by
  rw [nxt_rg]
  cases q : Nat.blt k n with
  | true =>
    have q := Nat.le_of_ble_eq_true q
    refine ⟨fun z => (by cases z), fun v z => ?_⟩
    cases z
    refine ⟨q, fun y H2 ⟨e1, e2⟩ => ?_⟩
    subst e1 e2
    exact ⟨ρ', Ext.refl _ _, T, rv_int⟩
  | false =>
    refine ⟨fun _ => ?_, fun v z => (by cases z)⟩
    show n ≤ k
    have : ¬ k < n := fun z => by
      have z2 : Nat.blt k n = true := Nat.ble_eq_true_of_le z
      rw [z2] at q; cases q
    omega
def mRg1 (m : AM) : IM := fun ls S => (m ls S).bind fun xs S1 => match xs with
  | [.int j] => match rgB j with
    | true => .ok (.rg 0 j.toNat) S1
    | false => .bad
  | _ => .bad
def mRg2 (m : AM) : IM := fun ls S => (m ls S).bind fun xs S1 => match xs with
  | [.int i, .int j] => match rgB i && rgB j with
    | true => .ok (.rg i (j - i).toNat) S1
    | false => .bad
  | _ => .bad
theorem mi_rg1 {tg : Expr} {m : AM} {p : Pos} (hm : X.mg "range" = none) (ha : PA X [e] (tA G F W m)) (hg : Gl X "range") (hs : starEach [e] X.env = [(false, eval e X.env)]) : PI X tg (.Call (.Name "range" p) [e] [] pos) (tI G F W (mRg1 m)) := by
  refine PI_imp (pi_range1 hg hm ha hs) fun σ H R ⟨ρ, S, ls, T, h⟩ => ?_
  refine tA_bind T h fun vs S1 ρ1 H1 xs h1 x1 T1 r1 => ?_
  split at h1
  · rename_i j
    obtain ⟨v, rfl, rv⟩ := rvs1 r1
    unfold RV at rv
    subst rv
    cases q : rgB j with
    | false => rw [q] at h1; exact h1.elim
    | true =>
      rw [q] at h1
      obtain ⟨b1, b2⟩ := rgB_ok q
      exact ⟨j, rfl, b1, b2, h1 ρ1 H1 _ x1 T1 ri_rg⟩
  · exact h1.elim
theorem mi_rg2 {tg : Expr} {m : AM} {p : Pos} (hm : X.mg "range" = none) (ha : PA X [e, o] (tA G F W m)) (hg : Gl X "range") (hs : starEach [e, o] X.env = [(false, eval e X.env), (false, eval o X.env)]) (hs2 : starEach [o] X.env = [(false, eval o X.env)]) :
    PI X tg (.Call (.Name "range" p) [e, o] [] pos) (tI G F W (mRg2 m)) := by
  refine PI_imp (pi_range2 hg hm ha hs hs2) fun σ H R ⟨ρ, S, ls, T, h⟩ => ?_
  refine tA_bind T h fun vs S1 ρ1 H1 xs h1 x1 T1 r1 => ?_
  split at h1
  · rename_i a b
    obtain ⟨v, w, rfl, rv, rw_⟩ := rvs2 r1
    unfold RV at rv rw_
    subst rv rw_
    cases q : rgB a && rgB b with
    | false => rw [q] at h1; exact h1.elim
    | true =>
      rw [q] at h1
      obtain ⟨q1, q2⟩ := ba q
      obtain ⟨b1, b2⟩ := rgB_ok q1
      obtain ⟨b3, b4⟩ := rgB_ok q2
      exact ⟨a, b, rfl, ⟨b1, b2, b3, b4⟩, h1 ρ1 H1 _ x1 T1 ri_rg⟩
  · exact h1.elim
/-! ### built-ins -/
def lstOf (S : Sto) : AV → Option (List AV)
  | .ref i => lstAt S i
  | _ => none
theorem lstOf_ok {a : AV} {x : V} {ρ : List Addr} {S : Sto} {ls : Lo} {σ : L2.St} {H : Hp} {xs : List AV} (T : Stt G F ρ S ls σ H) (r : RV G ρ H a x) (h : lstOf S a = some xs) : ∃ p vs, x = .ref p ∧ H p = some (.lst vs) ∧ RVs G ρ H xs vs := by
  cases a with
  | ref i =>
    unfold RV at r
    obtain ⟨p, hp, rfl⟩ := r
    obtain ⟨vs, e1, r1⟩ := lst_of T hp h
    exact ⟨p, vs, rfl, e1, r1⟩
  | _ => cases h
def fAny : List AV → Sto → Out AV := fun xs S => match xs with
  | [a] => match lstOf S a with
    | some ys => match blsOf ys with
      | some ks => .ok (.bl (ks.any id)) S
      | none => .bad
    | none => .bad
  | _ => .bad
theorem cs_any (hk : X.K = G.K) : CallS G F W (rAny X.K) fAny := fun ρ S ls σ H xs vs Q T r h => by
  unfold fAny at h
  split at h
  · obtain ⟨v, rfl, rv⟩ := rvs1 r
    split at h
    · rename_i ys q
      obtain ⟨p, ws, rfl, e, rs⟩ := lstOf_ok T rv q
      split at h
      · rename_i ks q2
        rw [blsOf_ok rs q2] at e
        exact ⟨p, ks, rfl, SqL.of e, h ρ H (Ext.refl _ _) T _ rv_bl⟩
      · exact h.elim
    · exact h.elim
  · exact h.elim
def fSum : List AV → Sto → Out AV := fun xs S => match xs with
  | [a] => match lstOf S a with
    | some ys => match mapO asI ys with
      | some ns => .ok (.int ns.sum) S
      | none => .bad
    | none => .bad
  | _ => .bad
theorem cs_sum (hk : X.K = G.K) : CallS G F W (rSum X.K) fSum := fun ρ S ls σ H xs vs Q T r h => by
  unfold fSum at h
  split at h
  · obtain ⟨v, rfl, rv⟩ := rvs1 r
    split at h
    · rename_i ys q
      obtain ⟨p, ws, rfl, e, rs⟩ := lstOf_ok T rv q
      split at h
      · rename_i ns q2
        rw [asI_all q2 rs] at e
        exact ⟨p, ns, rfl, SqL.of e, h ρ H (Ext.refl _ _) T _ rv_int⟩
      · exact h.elim
    · exact h.elim
  · exact h.elim
def minL : Int → List Int → Int
  | m, [] => m
  | m, k :: r => match decide (k < m) with
    | true => minL k r
    | false => minL m r
theorem minL_ok : ∀ {l : List Int} {m : Int}, (minL m l = m ∨ minL m l ∈ l) ∧ minL m l ≤ m ∧ ∀ y ∈ l, minL m l ≤ y
  | [], m => ⟨.inl rfl, Int.le_refl _, fun y z => by cases z⟩
  | k :: r, m => by
    unfold minL
    by_cases h : k < m
    · rw [decide_eq_true h]
      obtain ⟨a, b, c⟩ := minL_ok (l := r) (m := k)
      refine ⟨.inr ?_, by show minL k r ≤ m; omega, fun y hy => ?_⟩
      · show minL k r ∈ _
        rcases a with a | a
        · rw [a]; exact List.mem_cons_self
        · exact List.mem_cons_of_mem _ a
      · rcases List.mem_cons.mp hy with e | hy
        · subst e; exact b
        · exact c y hy
    · rw [decide_eq_false h]
      obtain ⟨a, b, c⟩ := minL_ok (l := r) (m := m)
      refine ⟨?_, b, fun y hy => ?_⟩
      · show minL m r = m ∨ minL m r ∈ _
        rcases a with a | a
        · exact .inl a
        · exact .inr (List.mem_cons_of_mem _ a)
      · show minL m r ≤ y
        rcases
              List.mem_cons.mp hy with e | hy
        · subst e; omega
        · exact c y hy
def fMin : List AV → Sto → Out AV := fun xs S => match xs with
  | [a] => match lstOf S a with
    | some ys => match mapO asI ys with
      | some (n :: ns) => .ok (.int (minL n ns)) S
      | _ => .bad
    | none => .bad
  | [.int i, .int j] => .ok (.int (if j < i then j else i)) S
  | _ => .bad
def rMinB (K : PySem.W.Frag) : List V → Hp → VK → Prop := fun xs H Q => rMin K xs H Q ∨ ∃ i j, xs = [.int i, .int j] ∧ Q (.int (if j < i then j else i)) H
theorem cr_minB (hc : X.calm = true) : CallR X (.builtin "min") (rMinB X.K) := by
  intro
        pins s σ H xs us Q I r h
  rcases h with h | h
  · exact cr_min hc pins s σ H xs us Q I r h
  · exact call_min2 hc pins s σ H xs us Q I r h
theorem min_uniq {ns : List Int} {m m' : Int} (h1 : m ∈ ns) (h2 : ∀ y ∈ ns, m ≤ y) (h3 : m' ∈ ns) (h4 : ∀ y ∈ ns, m' ≤ y) : m = m' := by
  have := h2 _ h3
  have := h4 _ h1
  omega
theorem cs_min (hk : X.K = G.K) : CallS G F W (rMinB X.K) fMin := fun ρ S ls σ H xs vs Q T r h => by
  unfold fMin at h
  split at h
  · obtain ⟨v, rfl, rv⟩ := rvs1 r
    split at h
    · rename_i ys q
      obtain ⟨p, ws, rfl, e, rs⟩ := lstOf_ok T rv q
      split at h
      · rename_i n ns q2
        rw [asI_all q2 rs] at e
        refine .inl ⟨p, _, rfl, SqL.of e, Nat.succ_pos _, fun m h1 h2 => ?_⟩
        obtain ⟨a, b, c⟩ := minL_ok (l := ns) (m := n)
        have e2 : m = minL n ns := min_uniq h1 h2 (by rcases a with a | a; rw [a]; exact List.mem_cons_self; exact List.mem_cons_of_mem _ a) fun y hy => by
          rcases
                List.mem_cons.mp hy with e | hy
          · subst e; exact b
          · exact c y hy
        rw [e2]
        exact h ρ H (Ext.refl _ _) T _ rv_int
      · exact h.elim
    · exact h.elim
  · obtain ⟨v, w, rfl, rv, rw_⟩ := rvs2 r
    unfold RV at rv rw_
    subst rv rw_
    exact .inr ⟨_, _, rfl, h ρ H (Ext.refl _ _) T _ rv_int⟩
  · exact h.elim
def fMax : List AV → Sto → Out AV := fun xs S => match xs with
  | [.int i, .int j] => .ok (.int (if j > i then j else i)) S
  | [a] => match lstOf S a with
    | some ys => match mapO asI ys with
      | some (n :: ns) => .ok (.int (- minL (-n) (ns.map fun k => -k))) S
      | _ => .bad
    | none => .bad
  | _ => .bad
def rMaxB (K : PySem.W.Frag) : List V → Hp → VK → Prop := fun xs H Q => rMax K xs H Q ∨ ∃ i j, xs = [.int i, .int j] ∧ Q (.int (if j > i then j else i)) H
theorem cr_maxB (hc : X.calm = true) : CallR X (.builtin "max") (rMaxB X.K) := by
  intro
        pins s σ H xs us Q I r h
  rcases h with h | h
  · exact cr_max hc pins s σ H xs us Q I r h
  · exact call_max2 hc pins s σ H xs us Q I r h
theorem cs_max (hk : X.K = G.K) : CallS G F W (rMaxB X.K) fMax := fun ρ S ls σ H xs vs Q T r h => by
  unfold fMax at h
  split at h
  · obtain ⟨v, w, rfl, rv, rw_⟩ := rvs2 r
    unfold RV at rv rw_
    subst rv rw_
    exact .inr ⟨_, _, rfl, h ρ H (Ext.refl _ _) T _ rv_int⟩
  · obtain ⟨v, rfl, rv⟩ := rvs1 r
    split at h
    · rename_i ys q
      obtain ⟨p, ws, rfl, e, rs⟩ := lstOf_ok T rv q
      split at h
      · rename_i n ns q2
        rw [asI_all q2 rs] at e
        refine .inl ⟨p, _, rfl, SqL.of e, Nat.succ_pos _, fun m h1 h2 => ?_⟩
        obtain ⟨a, b, c⟩ := minL_ok (l := ns.map fun k => -k) (m := -n)
        have e2 : -m = minL (-n) (ns.map fun k => -k) := min_uniq (ns := (n :: ns).map fun k => -k) (List.mem_map.mpr ⟨m, h1, rfl⟩) (fun y hy => by
          obtain ⟨k, hk, rfl⟩ := List.mem_map.mp hy
          have := h2 k hk
          omega) (by rcases a with a | a; rw [a]; exact List.mem_cons_self; exact List.mem_cons_of_mem _ a) fun y hy => by
          rcases
                List.mem_cons.mp hy with e | hy
          · subst e; exact b
          · exact c y hy
        have e3 : m = - minL (-n) (ns.map fun k => -k) := by omega
        rw [e3]
        exact h ρ H (Ext.refl _ _) T _ rv_int
      · exact h.elim
    · exact h.elim
  · exact h.elim
def fInt : List AV → Sto → Out AV := fun xs S => match xs with
  | [.int i] => .ok (.int i) S
  | [.bl k] => .ok (.int (if k then 1 else 0)) S
  | _ => .bad
theorem cs_int : CallS G F W (fun xs H Q => (∃ i, xs = [.int i] ∧ Q (.int i) H) ∨ ∃ k, xs = [.bl k] ∧ Q (.int (if k then 1 else 0)) H) fInt := fun ρ S ls σ H xs vs Q T r h => by
  unfold fInt at h
  split at h
  · obtain ⟨v, rfl, rv⟩ := rvs1 r
    unfold RV at rv
    subst rv
    exact .inl ⟨_, rfl, h ρ H (Ext.refl _ _) T _ rv_int⟩
  · obtain ⟨v, rfl, rv⟩ := rvs1 r
    unfold RV at rv
    subst rv
    exact .inr ⟨_, rfl, h ρ H (Ext.refl _ _) T _ rv_int⟩
  · exact h.elim
def fStr : List AV → Sto → Out AV := fun xs S => match xs with
  | [.int i] => match decide (i.natAbs.log2 < 1920) with
    | true => .ok (.str (Str.ofString (toString i)).cps.toList) S
    | false => .bad
  | _ => .bad
theorem cs_str : CallS G F W (fun xs H Q => ∃ i : Int, xs = [.int i] ∧ i.natAbs.log2 < 1920 ∧ Q (.str (toString i)) H) fStr := fun ρ S ls σ H xs vs Q T r h => by
  unfold fStr at h
  split at h
  · rename_i i
    obtain ⟨v, rfl, rv⟩ := rvs1 r
    unfold RV at rv
    subst rv
    split at h
    · rename_i q
      refine ⟨i, rfl, of_decide_eq_true q, h ρ H (Ext.refl _ _) T _ ?_⟩
      unfold RV
      congr 1
    · exact h.elim
  · exact h.elim
/-! ### methods of lists -/
def fPopA (x : AV) (as : List AV) (S : Sto) : Out AV := match x, as with
  | .ref r, [.int k] => match lstAt S r with
    | some xs => match decide (-9223372036854775808 ≤ k) && decide (k < 9223372036854775808), ixN xs.length k with
      | true, some j => match xs[j]? with
        | some y => .ok y (S.put r (.lst (xs.eraseIdx j)))
        | none => .bad
      | _, _ => .bad
    | none => .bad
  | _, _ => .bad
theorem RVs_erase {ρ : List Addr} {H : Hp} : ∀ {xs : List AV} {vs : List V} {j : Nat}, RVs G ρ H xs vs → RVs G ρ H (xs.eraseIdx j) (vs.eraseIdx j)
  | [], vs, j, h => by
    unfold RVs at h
    subst h
    simp [RVs]
  | y :: ys, vs, j, h => by
    unfold RVs at h
    obtain ⟨w, ws, rfl, r1, r2⟩ := h
    cases j with
    | zero => exact r2
    | succ j =>
      rw [List.eraseIdx_cons_succ, List.eraseIdx_cons_succ]
      unfold RVs
      exact ⟨w, _, rfl, r1, RVs_erase r2⟩
theorem putLst {r : Nat} {p : Addr} {xs ys : List AV} {vs ws : List V} {ρ : List Addr} {S : Sto} {ls : Lo} {σ : L2.St} {H : Hp} (T : Stt G F ρ S ls σ H) (hp : ρ[r]? = some p) (hg : lstAt S r = some xs) (e : H p = some (.lst vs)) (rr : RVs G ρ H ys ws) : Stt G F ρ (S.put r (.lst ys)) ls σ (upd H p (.lst ws)) ∧ Ext ρ H ρ (upd H p (.lst ws)) := by
  unfold lstAt at hg
  split at hg
  · rename_i xs' q
    cases hg
    exact T.upd (o := .lst ws) (ao := .lst ys) hp q e (fun z => z) (fun ps z => by cases z) rfl rfl fun x => ⟨_, upd_same, rr.mono x _⟩
  · cases hg
theorem ms_popA : MethS G F W "list" rPopAt fPopA := fun ρ S ls σ H x xs v vs Q T r rs h => by
  unfold fPopA at h
  split at h
  · rename_i i k
    obtain ⟨w, rfl, rw_⟩ := rvs1 rs
    unfold RV at rw_
    subst rw_
    unfold RV at r
    obtain ⟨p, hp, rfl⟩ := r
    split at h
    · rename_i ys q
      obtain ⟨ws, e, rr⟩ := lst_of T hp q
      split at h
      · rename_i j q1 q2
        split at h
        · rename_i y q3
          obtain ⟨a, b⟩ := ba q1
          have a := of_decide_eq_true a
          have b := of_decide_eq_true b
          obtain ⟨s1, s2, s3, s4⟩ := ixN_seq q2
          obtain ⟨u, hu, ru⟩ := RVs_get rr q3
          obtain ⟨T2, x2⟩ := putLst T hp q e (RVs_erase (j := j) rr)
          exact ⟨p, ws, k, j, u, rfl, rfl, e, by omega, by omega, by rw [RVs_len rr]; exact s1, hu, h ρ _ x2 T2 u (ru.mono x2 y)⟩
        · exact h.elim
      · exact h.elim
    · exact h.elim
  · exact h.elim
def ixI (k : Int) : List Int → Option Nat
  | [] => none
  | n :: r => match decide (n = k) with
    | true => some 0
    | false => match ixI k r with
      | some j => some (j + 1)
      | none => none
theorem ixI_ok {k : Int} : ∀ {l : List Int} {j : Nat}, ixI k l = some j → l[j]? = some k ∧ ∀ m : Nat, m < j → l[m]? ≠ some k
  | n :: r, j, h => by
    unfold ixI at h
    split at h
    · rename_i e
      cases h
      exact ⟨by rw [of_decide_eq_true e]; rfl, fun m z => by omega⟩
    · rename_i e
      have e := of_decide_eq_false e
      cases q : ixI k r with
      | none => rw [q] at h; cases h
      | some i =>
        rw [q] at h
        cases h
        obtain ⟨h1, h2⟩ := ixI_ok q
        refine ⟨by simpa using h1, fun m z => ?_⟩
        cases m with
        | zero => intro y; simp at y; exact e y
        | succ m => intro y; exact h2 m (by omega) (by simpa using y)
def fRem (x : AV) (as : List AV) (S : Sto) : Out AV := match x, as with
  | .ref r, [.int k] => match lstAt S r with
    | some xs => match mapO asI xs with
      | some ns => match ixI k ns with
        | some j => .ok .non (S.put r (.lst ((ns.eraseIdx j).map .int)))
        | none => .bad
      | none => .bad
    | none => .bad
  | _, _ => .bad
theorem ms_rem : MethS G F W "list" rRemI fRem := fun ρ S ls σ H x xs v vs Q T r rs h => by
  unfold fRem at h
  split at h
  · rename_i i k
    obtain ⟨w, rfl, rw_⟩ := rvs1 rs
    unfold RV at rw_
    subst rw_
    unfold RV at r
    obtain ⟨p, hp, rfl⟩ := r
    split at h
    · rename_i ys q
      obtain ⟨ws, e, rr⟩ := lst_of T hp q
      split at h
      · rename_i ns q1
        split at h
        · rename_i j q2
          rw [asI_all q1 rr] at e
          obtain ⟨h1, h2⟩ := ixI_ok q2
          obtain ⟨T2, x2⟩ := putLst T hp q e (rvs_ints (ns.eraseIdx j))
          exact ⟨p, ns, k, j, rfl, rfl, e, h1, h2, h ρ _ x2 T2 _ rv_non⟩
        · exact h.elim
      · exact h.elim
    · exact h.elim
  · exact h.elim
def ixF (a : AV) : List AV → Option Nat
  | [] => none
  | n :: r => match eqF n a with
    | true => some 0
    | false => match ixF a r with
      | some j => some (j + 1)
      | none => none
theorem ixF_ok {a : AV} {y : V} {ρ : List Addr} {H : Hp} (ra : RV G ρ H a y) (fa : flatA a = true) : ∀ {l : List AV} {vs : List V} {j : Nat}, RVs G ρ H l vs → l.all flatA = true → ixF a l = some j → vs.all flatV = true ∧ (∃ z, vs[j]? = some z ∧ eqV z y = true) ∧ ∀ (m : Nat) (z' : V), m < j → vs[m]? = some z' → eqV z' y = false
  | n :: r, vs, j, rs, hf, h => by
    unfold RVs at rs
    obtain ⟨w, ws, rfl, r1, r2⟩ := rs
    rw [List.all_cons,
          Bool.and_eq_true] at hf
    have e1 := eqF_ok r1 ra hf.1 fa
    have all : ∀ {l : List AV} {vs : List V}, RVs G ρ H l vs → l.all flatA = true → vs.all flatV = true := by
      intro l
      induction l with
      | nil => intro vs rs _; unfold RVs at rs; subst rs; rfl
      | cons b l ih =>
        intro vs rs hf
        unfold RVs at rs
        obtain ⟨w, ws, rfl, r1, r2⟩ := rs
        rw [List.all_cons,
              Bool.and_eq_true] at hf
        rw [List.all_cons, flatA_ok r1 hf.1, ih r2 hf.2]
        rfl
    unfold ixF at h
    split at h
    · rename_i q
      cases h
      rw [q] at e1
      refine ⟨?_, ⟨w, rfl, e1⟩, fun m z' z => by omega⟩
      rw [List.all_cons, flatA_ok r1 hf.1, all r2 hf.2]
      rfl
    · rename_i q
      rw [q] at e1
      cases q2 : ixF a r with
      | none => rw [q2] at h; cases h
      | some i =>
        rw [q2] at h
        cases h
        obtain ⟨h1, ⟨z, h2, h3⟩, h4⟩ := ixF_ok ra fa r2 hf.2 q2
        refine ⟨by rw [List.all_cons, flatA_ok r1 hf.1, h1]; rfl, ⟨z, by simpa using h2, h3⟩, fun m z' hm hz => ?_⟩
        cases m with
        | zero => simp at hz; subst hz; exact e1
        | succ m => exact h4 m z' (by omega) (by simpa using hz)
def fIdx (x : AV) (as : List AV) (S : Sto) : Out AV := match x, as with
  | .ref r, [a] => match lstAt S r with
    | some xs => match flatA a && xs.all flatA, ixF a xs with
      | true, some j => .ok (.int (j : Nat)) S
      | _, _ => .bad
    | none => .bad
  | _, _ => .bad
theorem ms_idx (hk : X.K = G.K) : MethS G F W "list" (rIndex X.K) fIdx := fun ρ S ls σ H x xs v vs Q T r rs h => by
  unfold fIdx at h
  split at h
  · rename_i i a
    obtain ⟨w, rfl, rw_⟩ := rvs1 rs
    unfold RV at r
    obtain ⟨p, hp, rfl⟩ := r
    split at h
    · rename_i ys q
      obtain ⟨ws, e, rr⟩ := lst_of T hp q
      split at h
      · rename_i j q1 q2
        obtain ⟨a1, a2⟩ := ba q1
        obtain ⟨h1, ⟨z, h2, h3⟩, h4⟩ := ixF_ok rw_ a1 rr a2 q2
        exact ⟨p, ws, w, j, z, rfl, rfl, SqL.of e, flatA_ok rw_ a1, h1, h2, h3, h4, h ρ H (Ext.refl _ _) T _ rv_int⟩
      · exact h.elim
    · exact h.elim
  · exact h.elim
end
end Sh

end

noncomputable section
namespace Sh
open PySem PySem.Spec PyProof.Rows L2 LamX He
/-! ### {**a, ..}: one dict goes into another -/
section
variable
      {P : Program} {w : World} {A : Around} {E : Value → Shared → Prop} {s : Shared}
theorem put_ok {κ : Type} [DecidableEq κ] {knd : KeyKind P w κ} {d : Addr} {ps : List (κ × Value)} {k : κ} {key v : Value} {Q : Unit → Shared → Prop} (hk : knd.is k key = true) (hd : s.heap.DictOf knd d ps) (hz : ps.length ≤ sizeLine)
    (h : ∀ h', h'.DictOf knd d (stored ps k v) → Heap.SameBut d s.heap h' → Q () { s with heap := h' }) : wpAny (model P w) A (dictPut d (knd.hash k) key v) Q E s := by
  obtain ⟨o, es, ep, ho, hc, hdt, hks, hp, hn⟩ := hd
  have sz : es.size ≤ sizeLine := by
    have a := hp.length
    have b : es.toList.length = es.size := by simp
    omega
  have same : (es.findIdx? fun e => knd.is k e.key) = ps.findIdx? fun kv => decide (kv.1 = k) := by
    have z := hp.findIdx k
    rw [← z]
    obtain ⟨l⟩ := es
    simp
  unfold dictPut
  refine wpAny_bind (wpAny_dictFind_of hk ho hdt hks ?_)
  cases hi : es.findIdx? fun e =>
        knd.is k e.key with
  | some i =>
    have there := any_of_findIdx_some (same ▸ hi)
    refine wpAny_updateDict ho hdt (h _ ⟨_, _, ep, Heap.get?_update_self _ ho (Obj.isFreed_of_dict (Obj.data_mapDict hdt _)), hc.mapDict _, Obj.data_mapDict hdt _, hks.modify _ _, ?_, ?_⟩ (Heap.SameBut.update ..))
    · have hl : (es.toList.findIdx? fun e => knd.is k e.key) = some i := by rw [← hi]; obtain ⟨l⟩ := es; simp
      have z := hp.modify hn hl v
      rw [stored, if_pos there]
      obtain ⟨l⟩ := es
      simpa using z
    · rw [stored, if_pos there, keys_map_store]
      exact hn
  | none =>
    have out : k ∉ ps.map (·.1) := not_mem_of_findIdx_none (same ▸ hi)
    have none_ : ¬ (ps.any fun kv => decide (kv.1 = k)) = true := fun z => by
      obtain ⟨kv, m, e⟩ := List.any_eq_true.mp z
      exact out (List.mem_map.mpr ⟨kv, m, of_decide_eq_true e⟩)
    refine wpAny_updateDictKeys (hz := sz) ho hdt (h _ ⟨_, _, ep + 1, Heap.get?_update_self _ ho (Obj.isFreed_of_dict (Obj.data_mapDictKeys hdt _)), hc.mapDictKeys _, Obj.data_mapDictKeys hdt _, hks.push hk _, ?_, ?_⟩ (Heap.SameBut.update ..))
    · have z := hp.append hk (knd.hash k) v
      rw [stored, if_neg none_]
      obtain ⟨l⟩ := es
      simpa using z
    · rw [stored, if_neg none_, List.map_append, List.nodup_append]
      refine ⟨hn, by simp, fun a ha b hb e => ?_⟩
      rw [List.map_cons, List.map_nil, List.mem_singleton] at hb
      rw [hb] at e
      have e : a = k := e
      exact out (by rw [← e]; exact ha)
/-- the look at an empty dict's source finds nothing: its keys are no objects -/
theorem keys_plain {κ : Type} [DecidableEq κ] {knd : KeyKind P w κ} (hr : ∀ k a, knd.is k (.ref a) = false) {Q : PUnit → Shared → Prop} {f : DictEntry → PUnit → Sem (ForInStep PUnit)} (hf : ∀ e, (∀ a, e.key ≠ .ref a) → f e PUnit.unit = pure (.yield PUnit.unit)) :
    ∀ {l : List DictEntry}, (∀ e ∈ l, ∃ k, knd.is k e.key = true) → Q PUnit.unit s → wpAny (model P w) A (forIn l PUnit.unit f) Q E s
  | [], _, h => by
    rw [List.forIn_nil]
    exact wpAny_pure h
  | e :: l, hk, h => by
    rw [List.forIn_cons, hf e fun a z => by
      obtain ⟨k, q⟩ := hk e List.mem_cons_self
      rw [z, hr] at q
      cases q]
    exact wpAny_bind (wpAny_pure (keys_plain hr hf (fun e' m => hk e' (List.mem_cons_of_mem _ m)) h))
theorem mix_noref {k : Key} {a : Addr} : (mixKind P w).is k (.ref a) = false := by
  cases k <;> rfl
theorem merge_ok {d o : Addr} {ps more : List (Key × Value)} {Q : Unit → Shared → Prop} (ne : d ≠ o) (hS : (o == sysModules) = false) (hd : s.heap.DictOf (mixKind P w) d ps) (ho : s.heap.DictOf (mixKind P w) o more) (hz : ps.length + more.length ≤ sizeLine)
    (h : ∀ h', h'.DictOf (mixKind P w) d (merged ps more) → h'.DictOf (mixKind P w) o more → Heap.SameBut d s.heap h' → Q () { s with heap := h' }) : wpAny (model P w) A (mergeMapping d (.ref o) false) Q E s := by
  obtain ⟨od, ed, pd, hod, hcd, hdd, hkd, hpd, hnd⟩ := id hd
  obtain ⟨oo, eo, po, hoo, hco, hdo, hko, hpo, hno⟩ := id ho
  have hl : more.length = eo.size := by
    rw [← hpo.length]
    simp
  unfold mergeMapping
  refine wpAny_bind
        (wpAny_isInstance ho.typeIs isSubtype_dict_dict ?_)
  rw [if_pos rfl]
  refine wpAny_bind (wpAny_specialOf ho.typeIs PySem.F.slot_dict_iter.lookup ?_)
  refine wpAny_bind
        (wpAny_pure ?_)
  have et : (some (Value.builtin "dict.__iter__") == some (Value.builtin "dict.__iter__")) = true := beq_self_eq_true _
  rw [et]
  dsimp only
  rw [hS, if_neg Bool.false_ne_true]
  refine wpAny_bind
        (wpAny_dictEntries hod hdd ?_)
  by_cases emp : ed.isEmpty = true
  rw [if_pos emp]
  refine wpAny_bind (wpAny_dictEntries hoo hdo ?_)
  refine wpAny_bind ?_
  rw [← Array.forIn_toList]
  refine keys_plain (knd := mixKind P w) (fun k a => mix_noref) (fun e he => ?_) (fun e he => ?_) ?_
  · cases q : e.key <;> first
      | rfl
      | exact absurd q (he _)
  · obtain ⟨k, hk, _⟩ := hko e (by simpa using he)
    exact ⟨k, hk⟩
  rotate_left
  rw [if_neg emp]
  all_goals
    refine wpAny_bind (wpAny_dictEntries hoo hdo ?_)
    refine wpAny_bind (wpAny_dictEpoch hoo hdo ?_)
    refine wpAny_bind ?_
    rw [List.range_eq_range']
    refine wpAny_forIn_list _ (fun rest _ s' => ∃ h' i, s' = { s with heap := h' } ∧ rest = List.range' i (eo.size - i) ∧ i ≤ eo.size ∧ h'.DictOf (mixKind P w) d (merged ps (more.take i)) ∧ h'.get? o = some oo ∧ Heap.SameBut d s.heap h')
      _ ?_ ?_ _ _ ⟨s.heap,
            0, rfl, by simp, Nat.zero_le _, by simpa [merged] using hd, hoo, Heap.SameBut.refl _ _⟩
    · rintro i rest b s' ⟨h', j, rfl, hr, hj, hd', ho', hs'⟩
      have lt : j < eo.size := by
        rcases Nat.lt_or_ge j eo.size with z | z
        · exact z
        · rw [Nat.sub_eq_zero_of_le z] at hr
          simp at hr
      have e1 : eo.size - j = (eo.size - (j + 1)) + 1 := by omega
      rw [e1, List.range'_succ] at hr
      injection hr with r1 r2
      subst r1
      refine wpAny_bind (wpAny_dictEntries ho' hdo ?_)
      rw [Array.getElem?_eq_getElem lt]
      obtain ⟨kv, hkv⟩ : ∃ kv, more[i]? = some kv := ⟨more[i]'(by rw [hl]; exact lt), List.getElem?_eq_getElem _⟩
      obtain ⟨k, v⟩ := kv
      obtain ⟨g1, g2⟩ := hpo.get? (e := eo[i]) (by simp [lt]) hkv
      obtain ⟨k', g3, g4⟩ := hko eo[i] (Array.getElem_mem lt)
      obtain rfl : k' = k := (mixKind P w).inj _ _ _ g3 g1
      dsimp only
      rw [g4, g2, if_neg Bool.false_ne_true]
      refine wpAny_bind (wpAny_holding (put_ok g1 hd' ?_ fun h2 d2 s2 => ?_))
      · have a1 := merged_length_le ps (more.take i)
        have a2 : (more.take i).length ≤ more.length := by rw [List.length_take]; omega
        omega
      · have ho2 : h2.get? o = some oo := (s2.2 o (Ne.symm ne)).trans ho'
        refine wpAny_bind (wpAny_dictEpoch ho2 hdo ?_)
        rw [if_neg (by simp)]
        exact wpAny_pure ⟨h2, i + 1, rfl, r2, lt, by rw [merged_take_succ ps more i (k', v) hkv]; exact d2, ho2, hs'.trans s2⟩
    · rintro b s' ⟨h', j, rfl, hr, hj, hd', ho', hs'⟩
      have ej : j = eo.size := by
        rcases Nat.lt_or_ge j eo.size with z | z
        · have e1 : eo.size - j = (eo.size - (j + 1)) + 1 := by omega
          rw [e1, List.range'_succ] at hr
          cases hr
        · omega
      refine wpAny_pure (h h' ?_ ⟨oo, eo, po, ho', hco, hdo, hko, hpo, hno⟩ hs')
      rw [ej, ← hl, List.take_length] at hd'
      exact hd'
end
section
variable {X : Cx} {a b k v : Expr} {pos : Pos}
theorem display1 {P : Program} {w : World} {A : Around} {E : Value → Shared → Prop} {s : Shared} {env : Env} {Q : Value → Shared → Prop}
    (h : wpAny (model P w) A (eval a env) (fun m s1 => wpAny (model P w) A (mergeMapping s.heap.objs.size m false) (fun _ s2 => wpAny (model P w) A (subDict [(eval k env, do let x ← eval v env; standAt pos; pure x)]) (fun sub s3 =>
      wpAny (model P w) A (mergeMapping s.heap.objs.size (.ref sub) false) (fun _ s4 => Q (.ref s.heap.objs.size) s4) (fun _ _ => False) s3) E s2) (fun _ _ => False) s1) E { s with heap := s.heap.push { cls := .type "dict", data := .dict #[] } }) :
    wpAny (model P w) A (eval (.Dict [none, some k] [a, v] pos) env) Q E s := by
  have e : eval (.Dict [none, some k] [a, v] pos) env = (do
      standAt pos
      dictDisplay [(none, do let x ← eval a env; standAt pos; pure x), (some (eval k env), do let x ← eval v env; standAt pos; pure x)]) := rfl
  rw [e]
  refine wpAny_bind
        (wpAny_standAt ?_)
  unfold dictDisplay
  simp only [List.forIn_cons,
        List.forIn_nil]
  refine wpAny_bind
        (wpAny_bind ?_)
  refine wpAny_bind ?_
  rw [if_pos (by rfl)]
  refine wpAny_pure ?_
  dsimp only
  refine wpAny_bind
        (wpAny_alloc ?_)
  refine wpAny_bind (wpAny_holding (wpAny_bind (wpAny_mono h (fun m s1 h1 => ?_) fun _ _ z => z)))
  refine wpAny_bind
        (wpAny_standAt (wpAny_pure ?_))
  refine wpAny_bind (wpAny_onRaise (wpAny_tryCatch (wpAny_onRaise (wpAny_holding (wpAny_mono h1 (fun _ s2 h2 => ?_) fun _ _ z => z.elim)))))
  refine wpAny_pure ?_
  dsimp only
  refine wpAny_bind ?_
  rw [if_neg (by rw [List.nil_append, List.length_singleton]; decide)]
  refine wpAny_pure
        (wpAny_pure ?_)
  dsimp only
  rw [List.nil_append]
  refine wpAny_bind ?_
  rw [if_neg (by rw [List.isEmpty_cons]; decide)]
  refine wpAny_bind (wpAny_holding (wpAny_mono h2 (fun sub s3 h3 => ?_) fun _ _ z => z))
  refine wpAny_bind (wpAny_onRaise (wpAny_holding (wpAny_mono h3 (fun _ s4 h4 => ?_) fun _ _ z => z.elim)))
  exact wpAny_pure (wpAny_pure h4)
theorem display2 {P : Program} {w : World} {A : Around} {E : Value → Shared → Prop} {s : Shared} {env : Env} {Q : Value → Shared → Prop}
    (h : wpAny (model P w) A (eval a env) (fun m s1 => wpAny (model P w) A (mergeMapping s.heap.objs.size m false) (fun _ s2 => wpAny (model P w) A (eval b env) (fun m2 s3 =>
      wpAny (model P w) A (mergeMapping s.heap.objs.size m2 false) (fun _ s4 => Q (.ref s.heap.objs.size) s4) (fun _ _ => False) s3) E s2) (fun _ _ => False) s1) E { s with heap := s.heap.push { cls := .type "dict", data := .dict #[] } }) :
    wpAny (model P w) A (eval (.Dict [none, none] [a, b] pos) env) Q E s := by
  have e : eval (.Dict [none, none] [a, b] pos) env = (do
      standAt pos
      dictDisplay [(none, do let x ← eval a env; standAt pos; pure x), (none, do let x ← eval b env; standAt pos; pure x)]) := rfl
  rw [e]
  refine wpAny_bind
        (wpAny_standAt ?_)
  unfold dictDisplay
  simp only [List.forIn_cons,
        List.forIn_nil]
  refine wpAny_bind
        (wpAny_bind ?_)
  refine wpAny_bind ?_
  rw [if_pos (by rfl)]
  refine wpAny_pure ?_
  dsimp only
  refine wpAny_bind
        (wpAny_alloc ?_)
  refine wpAny_bind (wpAny_holding (wpAny_bind (wpAny_mono h (fun m s1 h1 => ?_) fun _ _ z => z)))
  refine wpAny_bind
        (wpAny_standAt (wpAny_pure ?_))
  refine wpAny_bind (wpAny_onRaise (wpAny_tryCatch (wpAny_onRaise (wpAny_holding (wpAny_mono h1 (fun _ s2 h2 => ?_) fun _ _ z => z.elim)))))
  refine wpAny_pure ?_
  dsimp only
  refine wpAny_bind ?_
  refine wpAny_bind ?_
  rw [if_pos (by rfl)]
  refine wpAny_pure ?_
  dsimp only
  refine wpAny_bind
        (wpAny_pure ?_)
  refine wpAny_bind (wpAny_holding (wpAny_bind (wpAny_mono h2 (fun m2 s3 h3 => ?_) fun _ _ z => z)))
  refine wpAny_bind
        (wpAny_standAt (wpAny_pure ?_))
  refine wpAny_bind (wpAny_onRaise (wpAny_tryCatch (wpAny_onRaise (wpAny_holding (wpAny_mono h3 (fun _ s4 h4 => ?_) fun _ _ z => z.elim)))))
  refine wpAny_pure
        (wpAny_pure ?_)
  dsimp only
  refine wpAny_bind ?_
  rw [if_pos (by rfl)]
  exact wpAny_pure (wpAny_pure h4)
end
section
variable {X : Cx} {pins : List (Addr × Obj)} {σ : L2.St} {H : Hp} {s : Shared} {A : Around} {E : Value → Shared → Prop}
theorem merge_inv {d b : Addr} {ps qs : List (Key × V)} {Q : Unit → Shared → Prop} (I : Inv X pins σ H s) (hd : H d = some (.dK ps)) (hb : Rd H b (.dK qs)) (ne : d ≠ b) (hz : ps.length + qs.length ≤ sizeLine)
    (h : ∀ s', Inv X pins σ (upd H d (.dK (mergeK ps qs))) s' → Q () s') : wpAny (model X.prog X.w) A (mergeMapping d (.ref b) false) Q E s := by
  obtain ⟨z1, d1, vs, r1, dd1⟩ := dk_of I.hok hd
  obtain ⟨z2, d2, ws, r2, dd2⟩ := dk_rd I.hok hb
  have l1 : ps.length = vs.length := r1.length
  have l2 : qs.length = ws.length := r2.length
  refine merge_ok ne d2 dd1 dd2 (by omega) fun h' e1 _ hs => h _ ?_
  have he : ∃ q, h'.get? d = some q := let ⟨q, _, _, hq, _⟩ := e1; ⟨q, hq⟩
  refine d_write I (by rw [hd]; exact True.intro) hs he (dk_new ?_ d1 (KV.merge r2 r1) e1)
  have := length_mergeK qs ps
  omega
theorem merge_inv0 {d b : Addr} {qs : List (Key × V)} {Q : Unit → Shared → Prop} (I : Inv X pins σ H s) (hd : H d = some (.dK [])) (hb : Rd H b (.dK qs)) (ne : d ≠ b)
    (h : ∀ s', Inv X pins σ (upd H d (.dK qs)) s' → Q () s') : wpAny (model X.prog X.w) A (mergeMapping d (.ref b) false) Q E s := by
  obtain ⟨z1, d1, vs, r1, dd1⟩ := dk_of I.hok hd
  obtain ⟨z2, d2, ws, r2, dd2⟩ := dk_rd I.hok hb
  have l2 : qs.length = ws.length := r2.length
  cases r1
  refine merge_ok ne d2 dd1 dd2 (by simp only [List.length_nil]; omega) fun h' e1 _ hs => h _ ?_
  have he : ∃ q, h'.get? d = some q := let ⟨q, _, _, hq, _⟩ := e1; ⟨q, hq⟩
  have nd : (ws.map (·.1)).Nodup := let ⟨_, _, _, _, _, _, _, _, n⟩ := dd2; n
  rw [merged_nil_of_nodup ws nd] at e1
  exact d_write I (by rw [hd]; exact True.intro) hs he (dk_new (by omega) d1 r2 e1)
end
/-- {**a, k: v} -/
def tStar1 (ta tk tv : TE) : TE := fun σ H Q => ∀ d, H d = none → ta σ (upd H d (.dK [])) fun x H1 => ∃ b qs, x = .ref b ∧ d ≠ b ∧ H1 d = some (.dK []) ∧ Rd H1 b (.dK qs) ∧
  ∀ c, upd H1 d (.dK qs) c = none → tk σ (upd (upd H1 d (.dK qs)) c (.dK [])) fun y H2 => tv σ H2 fun z H3 => ∃ key rs, y = kV key ∧ H3 c = some (.dK []) ∧ H3 d = some (.dK rs) ∧ d ≠ c ∧ rs.length < sizeLine ∧
    Q (.ref d) (upd (upd H3 c (.dK [(key, z)])) d (.dK (putK rs key z)))
/-- {**a, **b} -/
def tStar2 (ta tb : TE) : TE := fun σ H Q => ∀ d, H d = none → ta σ (upd H d (.dK [])) fun x H1 => ∃ b qs, x = .ref b ∧ d ≠ b ∧ H1 d = some (.dK []) ∧ Rd H1 b (.dK qs) ∧
  tb σ (upd H1 d (.dK qs)) fun y H2 => ∃ c ps rs, y = .ref c ∧ d ≠ c ∧ H2 d = some (.dK ps) ∧ Rd H2 c (.dK rs) ∧ ps.length + rs.length ≤ sizeLine ∧ Q (.ref d) (upd H2 d (.dK (mergeK ps rs)))
section
variable {X : Cx} {a b k v : Expr} {pos : Pos} {ta tb tk tv : TE}
theorem pe_star1 (ha : PE X a ta) (hk : PE X k tk) (hv : PE X v tv) : PE X (.Dict [none, some k] [a, v] pos) (tStar1 ta tk tv) := by
  refine ⟨fun pins s σ H Q I q =>
        ?_⟩
  have I1 :=
        I.laid (a := s.heap.objs.size) (o := .dK []) (h' := s.heap.push { cls := .type "dict", data := .dict #[] }) (t' := s.toks) (fun _ _ q => Heap.get?_push_of_some _ q) (Nat.le_refl _) (dk_empty s.heap I.big)
  refine display1 (thn (ha.run pins _ σ _ _ I1 (q _ (I.hok.fresh (Nat.le_refl _)))) fun u s1 ⟨x, H1, I2, rx, b, qs, ex, ne, hd, hb, q2⟩ => ?_)
  subst ex
  obtain rfl : u = Value.ref b := rx
  refine merge_inv0 I2 hd hb ne fun s2 I3 => ?_
  have I4 := I3.laid (a := s2.heap.objs.size) (o := .dK []) (h' := s2.heap.push { cls := .type "dict", data := .dict #[] }) (t' := s2.toks) (fun _ _ q => Heap.get?_push_of_some _ q) (Nat.le_refl _) (dk_empty s2.heap I3.big)
  refine wpAny_subDict (knd := mixKind X.prog X.w) (by simp) (evalPairs_cons (thn (hk.run pins _ σ _ _ I4 (q2 _ (I3.hok.fresh (Nat.le_refl _)))) fun uk s3 ⟨y, H2, I5, ry, q3⟩ =>
    wpAny_bind (thn (hv.run pins s3 σ H2 _ I5 q3) fun uv s4 ⟨z, H3, I6, rz, key, rs, ey, hc, hd2, ne2, hl, q4⟩ => wpAny_bind (wpAny_standAt (wpAny_pure (evalPairs_nil ?_))))))
  subst ey
  obtain ⟨z0, hS, vs0, r0, dd⟩ := dk_of I6.hok hc
  cases r0
  have nw : (merged [] [(key, uv)] : List (Key × Value)) = [(key, uv)] := merged_nil_of_nodup _ (by simp)
  refine ⟨[(key, uv)], ⟨kV_is ry, rfl, trivial⟩, dd, fun h' dd' hs => ?_⟩
  have he : ∃ q, h'.get? s2.heap.objs.size = some q := let ⟨q, _, _, hq, _⟩ := dd'; ⟨q, hq⟩
  rw [nw] at dd'
  have I7 := d_write (t' := s4.toks + [(uk, uv)].length) I6 (by rw [hc]; exact True.intro) hs he (dk_new (kvs := [(key, z)]) (by rw [sizeLine_eq, List.length_singleton]; decide) hS (.cons ⟨rfl, rz⟩ .nil) dd')
  have e2 : mergeK rs [(key, z)] = putK rs key z := rfl
  refine merge_inv I7 (by rw [upd_ne ne2]; exact hd2) (.inl upd_same) ne2 (by show rs.length + 1 ≤ sizeLine; exact hl) fun s5 I8 => ⟨.ref s.heap.objs.size, _, I8, rfl, ?_⟩
  exact q4
theorem pe_star2 (ha : PE X a ta) (hb : PE X b tb) : PE X (.Dict [none, none] [a, b] pos) (tStar2 ta tb) := by
  refine ⟨fun pins s σ H Q I q =>
        ?_⟩
  have I1 :=
        I.laid (a := s.heap.objs.size) (o := .dK []) (h' := s.heap.push { cls := .type "dict", data := .dict #[] }) (t' := s.toks) (fun _ _ q => Heap.get?_push_of_some _ q) (Nat.le_refl _) (dk_empty s.heap I.big)
  refine display2 (thn (ha.run pins _ σ _ _ I1 (q _ (I.hok.fresh (Nat.le_refl _)))) fun u s1 ⟨x, H1, I2, rx, b, qs, ex, ne, hd, hb', q2⟩ => ?_)
  subst ex
  obtain rfl : u = Value.ref b := rx
  refine merge_inv0 I2 hd hb' ne fun s2 I3 => thn (hb.run pins s2 σ _ _ I3 q2) fun u2 s3 ⟨y, H2, I4, ry, c, ps, rs, ey, ne2, hd2, hc, hz, q3⟩ => ?_
  subst ey
  obtain rfl : u2 = Value.ref c := ry
  exact merge_inv I4 hd2 hc ne2 hz fun s4 I5 => ⟨.ref s.heap.objs.size, _, I5, rfl, q3⟩
end
section
variable {X : Cx} {G : Gd} {W : WX} {F : Fm} {a b k v : Expr} {pos : Pos} {ma mb mk mv : EM}
/-- a dict that is read: its number, its pairs -/
def rdD (S : Sto) : AV → Option (Nat × List (AV × AV))
  | .ref i => match S.get i with
    | some (.dct kvs) => some (i, kvs)
    | some (.ldk kvs) => some (i, kvs)
    | _ => none
  | _ => none
theorem rdD_ok {ρ : List Addr} {S : Sto} {ls : Lo} {σ : L2.St} {H : Hp} {x : AV} {u : V} {i : Nat} {kvs : List (AV × AV)} (T : Stt G F ρ S ls σ H) (r : RV G ρ H x u) (h : rdD S x = some (i, kvs)) :
    ∃ p ps, u = .ref p ∧ ρ[i]? = some p ∧ Rd H p (.dK ps) ∧ KR G ρ H kvs ps ∧ ∃ o, S.get i = some o ∧ o.isCell = false := by
  unfold rdD at h
  cases x with
  | ref j =>
    dsimp only at h
    unfold RV at r
    obtain ⟨p, hp, rfl⟩ := r
    split at h
    · rename_i l hg
      cases h
      obtain ⟨ps, e, kr⟩ := T.rel.obj _ p _ hp hg
      exact ⟨p, ps, rfl, hp, .inl e, kr, _, hg, rfl⟩
    · rename_i l hg
      cases h
      obtain ⟨ob, ps, e, kr⟩ := T.rel.obj _ p _ hp hg
      exact ⟨p, ps, rfl, hp, .inr ⟨ob, e⟩, kr, _, hg, rfl⟩
    · cases h
  | _ => cases h
theorem KR_len' {ρ : List Addr} {H : Hp} : ∀ {kvs : List (AV × AV)} {ps : List (Key × V)}, KR G ρ H kvs ps → ps.length = kvs.length
  | [], ps, h => by unfold KR at h; subst h; rfl
  | (a, v) :: r, ps, h => by
    unfold KR at h
    obtain ⟨a', x, qs, rfl, _, _, hr⟩ := h
    rw [List.length_cons, List.length_cons, KR_len' hr]
def dctN (S : Sto) (i : Nat) : Option (List (AV × AV)) := match S.get i with
  | some (.dct kvs) => some kvs
  | _ => none
theorem dctN_get {S : Sto} {i : Nat} {kvs : List (AV × AV)} (h : dctN S i = some kvs) : S.get i = some (.dct kvs) := by
  unfold dctN at h
  split at h
  · rename_i q; cases h; exact q
  · cases h
def smallD (n : Nat) : Bool := Nat.blt n 10000000
def mStar1 (ma mk mv : EM) : EM := fun ls S => match S.ok with
  | true => (ma ls (S.new (.dct []))).bind fun x S1 => match rdD S1 x, dctN S1 S.n with
    | some (j, qs), some [] => match Nat.beq j S.n, S1.ok with
      | false, true => (mk ls ((S1.put S.n (.dct qs)).new (.dct []))).bind fun y S2 => (mv ls S2).bind fun z S3 => match dctN S3 S1.n, dctN S3 S.n with
        | some [], some rs => match sKey y && (smallD rs.length && !Nat.beq S1.n S.n) with
          | true => .ok (.ref S.n) ((S3.put S1.n (.dct [(y, z)])).put S.n (.dct (putA rs y z)))
          | false => .bad
        | _, _ => .bad
      | _, _ => .bad
    | _, _ => .bad
  | false => .bad
theorem rdD_ne {ρ : List Addr} {S : Sto} {ls : Lo} {σ : L2.St} {H : Hp} {i j : Nat} {d p : Addr} {kvs : List (AV × AV)} {o : AO} (T : Stt G F ρ S ls σ H) (hd : ρ[i]? = some d) (hg : S.get i = some (.dct kvs)) (hp : ρ[j]? = some p) (ho : S.get j = some o) (hc : o.isCell = false) (ne : Nat.beq j i = false) : d ≠ p := fun z => by
  subst z
  have e := T.rel.nd i j d _ _ hd hp hg ho (by rw [hc]; rfl) (fun z => by cases z) fun z => by rw [z] at hc; cases hc
  rw [e, Nat.beq_refl] at ne
  cases ne
/-- a new dict -/
theorem newDk_ok {ρ : List Addr} {S : Sto} {ls : Lo} {σ : L2.St} {H : Hp} {p : Addr} (T : Stt G F ρ S ls σ H) (hs : S.ok = true) (hp : H p = none) : Stt G F (ρ ++ [p]) (S.new (.dct [])) ls σ (upd H p (.dK [])) ∧ Ext ρ H (ρ ++ [p]) (upd H p (.dK [])) ∧ (ρ ++ [p])[S.n]? = some p := by
  obtain ⟨T2, x2⟩ := T.new (o := .dK []) (ao := .dct []) hs hp rfl ⟨[], upd_same, rfl⟩
  exact ⟨T2, x2, by rw [← T.rel.len]; simp⟩
theorem putDk_ok {ρ : List Addr} {S : Sto} {ls : Lo} {σ : L2.St} {H : Hp} {i : Nat} {p : Addr} {kvs kvs' : List (AV × AV)} {ps ps' : List (Key × V)} (T : Stt G F ρ S ls σ H) (hp : ρ[i]? = some p) (hg : S.get i = some (.dct kvs)) (e : H p = some (.dK ps)) (kr : KR G ρ H kvs' ps') :
    Stt G F ρ (S.put i (.dct kvs')) ls σ (upd H p (.dK ps')) ∧ Ext ρ H ρ (upd H p (.dK ps')) :=
  T.upd (o := .dK ps') (ao := .dct kvs') hp hg e (fun z => z) (fun _ z => by cases z) rfl rfl fun x => ⟨_, upd_same, KR.mono x kr⟩
theorem Ext.app {ρ ρ' : List Addr} {H H' : Hp} {p : Addr} {i : Nat} (x : Ext ρ H ρ' H') (h : ρ[i]? = some p) : ρ'[i]? = some p := x.at h
theorem me_star1 (ha : PE X a (tE G F W ma)) (hk : PE X k (tE G F W mk)) (hv : PE X v (tE G F W mv)) : PE X (.Dict [none, some k] [a, v] pos) (tE G F W (mStar1 ma mk mv)) := by
  refine PE_imp (pe_star1 ha hk hv) fun σ H Q ⟨ρ, S, ls, T, h⟩ => fun d nd => ?_
  unfold mStar1 at h
  cases q0 : S.ok with
  | false => rw [q0] at h; exact h.elim
  | true =>
    rw [q0] at h
    obtain ⟨T1, x1, hn⟩ := newDk_ok T q0 nd
    have h := Out.sat_mono (fun _ _ z => z) (fun _ _ _ z => z.ext x1) h
    refine tE_bind T1 h fun x S1 ρ2 H2 u h2 x2 T2 r2 => ?_
    split at h2
    · rename_i j qs q1 q2
      obtain ⟨b, qs', e1, e2, e3, kr, o, ho, hc⟩ := rdD_ok T2 r2 q1
      split at h2
      · rename_i q3 q4
        have gN := dctN_get q2
        have dN := x2.at hn
        obtain ⟨ps0, d0, kr0⟩ := T2.rel.obj _ _ _ dN gN
        unfold KR at kr0
        subst kr0
        have ne : d ≠ b := rdD_ne T2 dN gN e2 ho hc q3
        refine ⟨b, qs', e1, ne, d0, e3, fun c nc => ?_⟩
        obtain ⟨T3, x3⟩ := putDk_ok T2 dN gN d0 kr
        obtain ⟨T4, x4, hm⟩ := newDk_ok T3 q4 nc
        have y4 := x1.trans (x2.trans (x3.trans x4))
        have h2 := Out.sat_mono (fun _ _ z => z) (fun _ _ _ z => z.ext (x3.trans x4)) h2
        refine tE_bind T4 h2 fun y S5 ρ5 H5 uy h5 x5 T5 r5 => ?_
        refine tE_bind T5 h5 fun z S6 ρ6 H6 uz h6 x6 T6 r6 => ?_
        split at h6
        · rename_i rs q5 q6
          split at h6
          · rename_i q7
            obtain ⟨q8, q9⟩ := ba q7
            obtain ⟨q9, q10⟩ := ba q9
            have x56 := x5.trans x6
            have g1 := dctN_get q5
            have g2 := dctN_get q6
            have hm6 : ρ6[S1.n]? = some c := x56.at hm
            have hd6 : ρ6[S.n]? = some d := x56.at (x4.at (x3.at dN))
            obtain ⟨pc, c1, krc⟩ := T6.rel.obj _ _ _ hm6 g1
            unfold KR at krc
            subst krc
            obtain ⟨pd, c2, krd⟩ := T6.rel.obj _ _ _ hd6 g2
            have nb : Nat.beq S1.n S.n = false := by
              cases w : Nat.beq S1.n S.n with
              | false => rfl
              | true => rw [w] at q10; cases q10
            have ne2 : d ≠ c := rdD_ne T6 hd6 g2 hm6 g1 rfl nb
            obtain ⟨key, hk'⟩ := isSome_of q8
            have ey := keyOf_V hk' (r5.mono x6 y)
            obtain ⟨T7, x7⟩ := putDk_ok (kvs' := [(y, z)]) (ps' := [(key, uz)]) T6 hm6 g1 c1 ⟨key, uz, [], rfl, hk', r6, rfl⟩
            have g2' : (S6.put S1.n (.dct [(y, z)])).get S.n = some (.dct rs) := by
              rw [Sto.get_put (T6.rel.ilt hm6) (T6.rel.ilt hd6), if_neg (fun w => by rw [w, Nat.beq_refl] at nb; cases nb)]
              exact g2
            have krd2 : KR G ρ6 (upd H6 c (.dK [(key, uz)])) (putA rs y z) (putK pd key uz) := kr_kg.mpr (kg_put (@kEq_s) hk' (r6.mono x7 z) (kr_kg.mp (KR.mono x7 krd)))
            obtain ⟨T8, x8⟩ := putDk_ok T7 (x7.at hd6) g2' (by rw [upd_ne ne2]; exact c2) krd2
            refine ⟨key, pd, ey, c1, c2, ne2, by rw [KR_len' krd]; exact lt_line q9, ?_⟩
            refine h6 ρ6 _ (y4.trans (x56.trans (x7.trans x8))) T8 _ ?_
            unfold RV
            exact ⟨d, hd6, rfl⟩
          · exact h6.elim
        · exact h6.elim
      · exact h2.elim
    · exact h2.elim
def mStar2 (ma mb : EM) : EM := fun ls S => match S.ok with
  | true => (ma ls (S.new (.dct []))).bind fun x S1 => match rdD S1 x, dctN S1 S.n with
    | some (j, qs), some [] => match Nat.beq j S.n with
      | false => (mb ls (S1.put S.n (.dct qs))).bind fun y S2 => match rdD S2 y, dctN S2 S.n with
        | some (l, rs), some ps => match smallD (ps.length + rs.length) && !Nat.beq l S.n with
          | true => .ok (.ref S.n) (S2.put S.n (.dct (mrgA ps rs)))
          | false => .bad
        | _, _ => .bad
      | true => .bad
    | _, _ => .bad
  | false => .bad
theorem me_star2 (ha : PE X a (tE G F W ma)) (hb : PE X b (tE G F W mb)) : PE X (.Dict [none, none] [a, b] pos) (tE G F W (mStar2 ma mb)) := by
  refine PE_imp (pe_star2 ha hb) fun σ H Q ⟨ρ, S, ls, T, h⟩ => fun d nd => ?_
  unfold mStar2 at h
  cases q0 : S.ok with
  | false => rw [q0] at h; exact h.elim
  | true =>
    rw [q0] at h
    obtain ⟨T1, x1, hn⟩ := newDk_ok T q0 nd
    have h := Out.sat_mono (fun _ _ z => z) (fun _ _ _ z => z.ext x1) h
    refine tE_bind T1 h fun x S1 ρ2 H2 u h2 x2 T2 r2 => ?_
    split at h2
    · rename_i j qs q1 q2
      obtain ⟨b, qs', e1, e2, e3, kr, o, ho, hc⟩ := rdD_ok T2 r2 q1
      split at h2
      · rename_i q3
        have gN := dctN_get q2
        have dN := x2.at hn
        obtain ⟨ps0, d0, kr0⟩ := T2.rel.obj _ _ _ dN gN
        unfold KR at kr0
        subst kr0
        have ne : d ≠ b := rdD_ne T2 dN gN e2 ho hc q3
        refine ⟨b, qs', e1, ne, d0, e3, ?_⟩
        obtain ⟨T3, x3⟩ := putDk_ok T2 dN gN d0 kr
        have y3 := x1.trans (x2.trans x3)
        have h2 := Out.sat_mono (fun _ _ z => z) (fun _ _ _ z => z.ext x3) h2
        refine tE_bind T3 h2 fun y S4 ρ4 H4 uy h4 x4 T4 r4 => ?_
        split at h4
        · rename_i l rs ps p1 p2
          obtain ⟨c, rs', f1, f2, f3, krr, o2, ho2, hc2⟩ := rdD_ok T4 r4 p1
          split at h4
          · rename_i p3
            obtain ⟨p4, p5⟩ := ba p3
            have g2 := dctN_get p2
            have hd4 : ρ4[S.n]? = some d := x4.at (x3.at dN)
            obtain ⟨pd, c2, krd⟩ := T4.rel.obj _ _ _ hd4 g2
            have nb : Nat.beq l S.n = false := by
              cases w : Nat.beq l S.n with
              | false => rfl
              | true => rw [w] at p5; cases p5
            have ne2 : d ≠ c := rdD_ne T4 hd4 g2 f2 ho2 hc2 nb
            obtain ⟨T5, x5⟩ := putDk_ok T4 hd4 g2 c2 (kg_mrg krr krd)
            refine ⟨c, pd, rs', f1, ne2, c2, f3, ?_, ?_⟩
            · rw [KR_len' krd, KR_len' krr]
              exact Nat.le_of_lt (lt_line p4)
            · refine h4 ρ4 _ (y3.trans (x4.trans x5)) T5 _ ?_
              unfold RV
              exact ⟨d, hd4, rfl⟩
          · exact h4.elim
        · exact h4.elim
      · exact h2.elim
    · exact h2.elim
end
end Sh

end

noncomputable section
namespace Sh
open PySem PySem.Spec PyProof.Rows L2 LamX He
/-! ### xs[a:] = ys, del xs[a:] -/
/-- where a slice begins -/
def stF (i : Int) (n : Nat) : Nat := (max 0 (min (if i < 0 then i + n else i) (n : Int))).toNat
theorem stF_le (i : Int) (n : Nat) : stF i n ≤ n := by
  unfold stF
  omega
theorem bounds_from (i : Int) (n : Nat) : sliceBounds (some i) none none n = (((stF i n : Nat) : Int), (n : Int), 1) := by
  simp only [sliceBounds,
        Option.getD_none]
  have e : ((stF i n : Nat) : Int) = max 0 (min (if i < 0 then i + n else i) (n : Int)) := by
    unfold stF
    omega
  rw [e]
  rfl
section
variable
      {P : Program} {w : World} {A : Around} {E : Value → Shared → Prop} {s : Shared}
theorem splice_from (its its2 : List Value) (a : Nat) : its.toArray.extract 0 a ++ its2.toArray ++ its.toArray.extract its.toArray.size its.toArray.size = (its.take a ++ its2).toArray := by
  apply Array.toList_inj.mp
  simp
theorem setSl_ok {l b sl : Addr} {items new : Array Value} {n n2 : Nat} {vl : Value} {i : Int} {Q : Unit → Shared → Prop}
    (e : s.heap.get? l = some { cls := .type "list", data := .seq items n }) (e2 : s.heap.get? b = some { cls := .type "list", data := .seq new n2 }) (ne : l ≠ b)
    (hs : s.heap.IsSliceOf sl vl .none .none) (pl : IsPart vl (some i)) (hz : items.size + new.size ≤ sizeLine)
    (h : Q () { s with heap := s.heap.update l (Obj.mapSeq fun xs => xs.extract 0 (stF i items.size) ++ new ++ xs.extract items.size xs.size) }) : wpAny (model P w) A (setItem (.ref l) (.ref sl) (.ref b)) Q E s := by
  have il : s.heap.IsList l items := PySem.IsL.isList e
  have ib : s.heap.IsList b new := PySem.IsL.isList e2
  obtain ⟨os, hos, hcs, hds⟩ :=
        id hs
  have ts : s.TypeIs (.ref sl) "slice" := ⟨os, hos, hcs⟩
  have other : Builtin.List.listSameRef (.ref l) (.ref b) = false := by
    unfold
          Builtin.List.listSameRef
    exact beq_eq_false_iff_ne.mpr ne
  have sle := stF_le i items.size
  have mx : (max ((stF i items.size : Nat) : Int) (items.size : Int)).toNat = items.size := by omega
  have z2 : ((fun xs : Array Value => xs.extract 0 (stF i items.size) ++ new ++ xs.extract items.size xs.size) items).size ≤ sizeLine + 1 := by
    simp only [Array.size_append,
          Array.size_extract]
    omega
  unfold setItem
  refine wpAny_holding ?_
  refine wpAny_bind (wpAny_sequenceKey il.typeIs (by decide) ?_)
  refine wpAny_bind (wpAny_callSpecial?_slot (name := Str.ofString "__setitem__") il.typeIs slot_list_setitem (wpAny_call_entry slot_list_setitem il.typeIs entry_list_setitem ?_ (args_list_setitem _ _ _)))
  show wpAny _ _
        (Builtin.List.listSubscript? (.ref sl) >>= _) _ _ s
  refine wpAny_bind ?_
  unfold
        Builtin.List.listSubscript?
  refine wpAny_bind (wpAny_specialOf ts slice_no_index ?_)
  simp only [Option.isNone_none,
        if_true]
  refine wpAny_pure ?_
  show wpAny _ _
        (typeOf (.ref sl) >>= _) _ _ s
  refine wpAny_bind (wpAny_typeOf ts ?_)
  rw [if_neg (by decide)]
  rw [listSliceParts_eq]
  refine wpAny_bind (wpAny_bind (wpAny_field hos hds (x :=
        .none) rfl (wpAny_bind (wpAny_listPart .none ?_))))
  rw [if_neg (show ¬ ((rawPart none == rawInt 0) = true) from Bool.false_ne_true)]
  refine wpAny_bind (wpAny_field hos hds (x :=
        vl) rfl (wpAny_bind (wpAny_listPart pl ?_)))
  refine wpAny_bind (wpAny_field hos hds (x := .none) rfl (wpAny_bind (wpAny_listPart .none (wpAny_pure ?_))))
  dsimp only
  rw [if_neg (by rw [other]; exact Bool.false_ne_true)]
  refine wpAny_bind (m :=
        Builtin.List.listAllItems (.ref b) "must assign iterable to extended slice") ?_
  unfold
        Builtin.List.listAllItems
  refine wpAny_bind (wpAny_typeOf ib.typeIs ?_)
  rw [if_pos (by decide)]
  unfold Builtin.List.listItems
  refine wpAny_bind
        (wpAny_seqItems e2 rfl (wpAny_pure ?_))
  refine wpAny_bind
        (wpAny_bind (wpAny_seqItems e rfl (wpAny_pure ?_)))
  refine wpAny_bind (wpAny_of_eq ((sliceIndices_raw (some i) none none items.size (by simp)).trans (congrArg (pure : Int × Int × Int → Sem (Int × Int × Int)) (bounds_from i items.size))) ?_)
  show wpAny _ _
        (if ((1 : Int) == 1) = true then _ else _) _ _ s
  rw [if_pos (by decide)]
  refine wpAny_bind
        (wpAny_rule ?_)
  rw [if_neg (by rw [notLongL hz]; exact Bool.false_ne_true)]
  show wpAny _ _ (updateSeq l (fun xs => xs.extract 0 ((stF i items.size : Nat) : Int).toNat ++ new ++ xs.extract (max ((stF i items.size : Nat) : Int) (items.size : Int)).toNat xs.size) >>= _) _ _ s
  rw [mx, Int.toNat_natCast]
  refine wpAny_bind (wpAny_updateSeq (hz := Nat.le_trans (Nat.le_add_right _ _) hz) (_hz' := z2) e rfl ?_)
  exact wpAny_bind (wpAny_letGo (wpAny_pure ⟨.none, rfl, wpAny_pure h⟩))
theorem cut_filt {α : Type} {p : Nat → Bool} {st : Nat} : ∀ {l : List α} {off : Nat}, (∀ k, off ≤ k → k < off + l.length → p k = decide (st ≤ k)) → (l.zipIdx off).filterMap (fun x => if p x.2 = true then none else some x.1) = l.take (st - off)
  | [], off, _ => by simp
  | a :: l, off, h => by
    rw [List.zipIdx_cons, List.filterMap_cons]
    have h0 := h off (Nat.le_refl _) (by rw [List.length_cons]; omega)
    have ih := cut_filt (l := l) (off := off + 1) fun k h1 h2 => h k (by omega) (by rw [List.length_cons]; omega)
    by_cases c : st ≤ off
    · rw [h0, decide_eq_true c]
      simp only [if_true]
      rw [ih, Nat.sub_eq_zero_of_le c, Nat.sub_eq_zero_of_le (by omega)]
      simp
    · rw [h0, decide_eq_false c]
      simp only [Bool.false_eq_true,
            if_false]
      rw [ih]
      have e : st - off = (st - (off + 1)) + 1 := by omega
      rw [e, List.take_succ_cons]
theorem delSl_ok {l sl : Addr} {items : Array Value} {n : Nat} {vl : Value} {i : Int} {Q : Unit → Shared → Prop} (e : s.heap.get? l = some { cls := .type "list", data := .seq items n })
    (hs : s.heap.IsSliceOf sl vl .none .none) (pl : IsPart vl (some i)) (hz : items.size ≤ sizeLine)
    (h : ∀ f : Array Value → Array Value, f items = (items.toList.take (stF i items.size)).toArray → Q () { s with heap := s.heap.update l (Obj.mapSeq f) }) : wpAny (model P w) A (delItem (.ref l) (.ref sl)) Q E s := by
  have il : s.heap.IsList l items := PySem.IsL.isList e
  obtain ⟨os, hos, hcs, hds⟩ :=
        id hs
  have ts : s.TypeIs (.ref sl) "slice" := ⟨os, hos, hcs⟩
  refine wpAny_delItem_slot il.typeIs (by decide) PySem.F.slot_list_delitem (wpAny_call_entry PySem.F.slot_list_delitem il.typeIs PySem.F.entry_list_delitem ?_ (PySem.F.args_list_delitem_2 _ _))
  show wpAny _ _
        (Builtin.List.listSubscript? (.ref sl) >>= _) _ _ s
  refine wpAny_bind ?_
  unfold
        Builtin.List.listSubscript?
  refine wpAny_bind (wpAny_specialOf ts slice_no_index ?_)
  simp only [Option.isNone_none,
        if_true]
  refine wpAny_pure ?_
  show wpAny _ _
        (typeOf (.ref sl) >>= _) _ _ s
  refine wpAny_bind (wpAny_typeOf ts ?_)
  rw [if_neg (by decide)]
  rw [listSliceParts_eq]
  refine wpAny_bind (wpAny_bind (wpAny_field hos hds (x :=
        .none) rfl (wpAny_bind (wpAny_listPart .none ?_))))
  rw [if_neg (show ¬ ((rawPart none == rawInt 0) = true) from Bool.false_ne_true)]
  refine wpAny_bind (wpAny_field hos hds (x :=
        vl) rfl (wpAny_bind (wpAny_listPart pl ?_)))
  refine wpAny_bind (wpAny_field hos hds (x := .none) rfl (wpAny_bind (wpAny_listPart .none (wpAny_pure ?_))))
  dsimp only
  unfold Builtin.List.listItems
  refine wpAny_bind
        (wpAny_bind (wpAny_seqItems e rfl (wpAny_pure ?_)))
  refine wpAny_bind (wpAny_of_eq ((sliceIndices_raw (some i) none none items.size (by simp)).trans (congrArg (pure : Int × Int × Int → Sem (Int × Int × Int)) (bounds_from i items.size))) ?_)
  refine wpAny_bind
        (wpAny_rule ?_)
  dsimp only
  have sle := stF_le i items.size
  refine wpAny_bind (wpAny_updateSeq (hz := hz) (_hz' := ?_) e rfl (wpAny_bind (wpAny_letGo (wpAny_pure ⟨.none, rfl, h _ ?_⟩))))
  · refine congrArg List.toArray ((cut_filt (l := items.toList) (st := stF i items.size) (off := 0) fun k _ hk => ?_).trans (by rw [Nat.sub_zero]))
    have hk : k < items.size := by simpa using hk
    show (if (1 : Int) > 0 then (decide (((stF i items.size : Nat) : Int) ≤ (k : Int)) && decide ((k : Int) < (items.size : Int)) && (((k : Int) - ((stF i items.size : Nat) : Int)) % 1 == 0)) else _) = _
    rw [if_pos (by decide), Int.emod_one]
    by_cases c : stF i items.size ≤ k
    · simp [c, hk]
    · simp [c]
  · simp only [List.size_toArray]
    refine Nat.le_trans (List.length_filterMap_le _ _) ?_
    simp
    omega
end
section
variable {X : Cx} {o lo v : Expr} {to tl tv : TE} {pos p2 p3 : Pos}
def sSetSl (to tl tv : TE) : TS := fun D σ H => tv σ H fun y H1 => to σ H1 fun x H2 => tl σ H2 fun k H3 => ∃ l b xs ys i, x = .ref l ∧ y = .ref b ∧ k = .int i ∧ l ≠ b ∧ H3 l = some (.lst xs) ∧ H3 b = some (.lst ys) ∧ xs.length + ys.length ≤ sizeLine ∧
  D.nx σ (upd H3 l (.lst (xs.take (stF i xs.length) ++ ys)))
theorem ps_setSl (ho : PE X o to) (hl : PE X lo tl) (hv : PE X v tv) (hs : swapsWith v (some (.Subscript o (.Slice (some lo) none none p2) p3)) pos.line X.env = pure false) :
    PS X (.Assign [.Subscript o (.Slice (some lo) none none p2) p3] v pos) (sSetSl to tl tv) := by
  refine ⟨fun pins s σ H D I h =>
        ?_⟩
  refine wpAny_Assign_Subscript (thn (hv.run pins s σ H _ I h) fun r s1 ⟨y, H1, I1, ry, q1⟩ => thn (ho.run pins s1 σ H1 _ I1 q1) fun u s2 ⟨x, H2, I2, rx, q2⟩ => ?_) hs
  refine wpAny_Slice ?_
  rw [evalPart_some]
  refine thn (hl.run pins s2 σ H2 _ I2 q2) fun vl s3 ⟨k, H3, I3, rk, l, b, xs, ys, i, ex, ey, ek, ne, hH, hB, hz, q3⟩ => ?_
  subst ex ey ek
  obtain rfl : u = Value.ref l := rx
  obtain rfl : r = Value.ref b := ry
  obtain ⟨t, rfl⟩ := (show ∃ t, vl = Value.int i t from rk)
  rw [evalPart_none]
  refine wpAny_pure ?_
  refine wpAny_pure ?_
  have I4 : Inv X pins σ H3 { s3 with heap := s3.heap.push { cls := .type "slice", data := .fields #[.int i t, .none, .none] } } := I3.kept (t' := s3.toks) fun b ob q => Heap.get?_push_of_some _ q
  obtain ⟨z, its, n, r1, hl1, e⟩ := I4.lstM hH
  obtain ⟨z2, its2, n2, r2, hl2, e2⟩ := I4.lstM hB
  have l1 : its.toArray.size = xs.length := by rw [List.size_toArray]; omega
  refine setSl_ok e e2 ne (Heap.IsSliceOf.new ..) (.int i t) (by rw [List.size_toArray, List.size_toArray]; omega) ⟨σ, _, ?_, q3⟩
  refine I4.lset (its' := its.take (stF i xs.length) ++ its2) (t' := s3.toks) hH e ?_ (Vals.append (r1.take _) r2) ?_
  · show its.toArray.extract 0 (stF i its.toArray.size) ++ its2.toArray ++ its.toArray.extract its.toArray.size its.toArray.size = _
    rw [splice_from, l1]
  · rw [List.length_append, List.length_take]
    omega
def sDelSl (to tl : TE) : TS := fun D σ H => to σ H fun x H1 => tl σ H1 fun k H2 => ∃ l xs i, x = .ref l ∧ k = .int i ∧ H2 l = some (.lst xs) ∧ D.nx σ (upd H2 l (.lst (xs.take (stF i xs.length))))
theorem ps_delSl (ho : PE X o to) (hl : PE X lo tl) : PS X (.Delete [.Subscript o (.Slice (some lo) none none p2) p3] pos) (sDelSl to tl) := by
  refine ⟨fun pins s σ H D I h =>
        ?_⟩
  refine wpAny_Delete (wpAny_deleteEach_cons (wpAny_delete_Subscript (thn (ho.run pins s σ H _ I h) fun u s1 ⟨x, H1, I1, rx, q1⟩ => ?_)))
  refine wpAny_Slice ?_
  rw [evalPart_some]
  refine thn (hl.run pins s1 σ H1 _ I1 q1) fun vl s2 ⟨k, H2, I2, rk, l, xs, i, ex, ek, hH, q2⟩ => ?_
  subst ex ek
  obtain rfl : u = Value.ref l := rx
  obtain ⟨t, rfl⟩ := (show ∃ t, vl = Value.int i t from rk)
  rw [evalPart_none]
  refine wpAny_pure ?_
  refine wpAny_pure ?_
  have I4 : Inv X pins σ H2 { s2 with heap := s2.heap.push { cls := .type "slice", data := .fields #[.int i t, .none, .none] } } := I2.kept (t' := s2.toks) fun b ob q => Heap.get?_push_of_some _ q
  obtain ⟨z, its, n, r1, hl1, e⟩ := I4.lstM hH
  have l1 : its.toArray.size = xs.length := by rw [List.size_toArray]; omega
  refine delSl_ok e (Heap.IsSliceOf.new ..) (.int i t) (by rw [l1]; exact z) fun f hf => wpAny_deleteEach_nil ⟨σ, _, ?_, q2⟩
  rw [l1] at hf
  refine I4.lset (its' := its.take (stF i xs.length)) (t' := s2.toks) hH e ?_ (r1.take _) ?_
  · exact hf
  · rw [List.length_take]
    omega
end
section
variable {X : Cx} {G : Gd} {W : WX} {F : Fm} {o lo v : Expr} {mo ml mv : EM} {pos p2 p3 : Pos}
theorem RVs_take' {ρ : List Addr} {H : Hp} {xs : List AV} {vs : List V} (n : Nat) (r : RVs G ρ H xs vs) : RVs G ρ H (xs.take n) (vs.take n) := RVs_take n r
def mSetSl (mo ml mv : EM) : SM := fun ls S => (mv ls S).bind fun y S1 => (mo ls S1).bind fun x S2 => (ml ls S2).bind fun k S3 => match x, y, k with
  | .ref r, .ref b, .int i => match lstAt S3 r, lstAt S3 b with
    | some xs, some ys => match smallD (xs.length + ys.length) && !Nat.beq b r with
      | true => .ok (.nx, ls) (S3.put r (.lst (xs.take (stF i xs.length) ++ ys)))
      | false => .bad
    | _, _ => .bad
  | _, _, _ => .bad
theorem lst_ne {ρ : List Addr} {S : Sto} {ls : Lo} {σ : L2.St} {H : Hp} {i j : Nat} {d p : Addr} {xs ys : List AV} (T : Stt G F ρ S ls σ H) (hd : ρ[i]? = some d) (hg : lstAt S i = some xs) (hp : ρ[j]? = some p) (ho : lstAt S j = some ys) (ne : Nat.beq j i = false) : d ≠ p := fun z => by
  subst z
  unfold lstAt at hg ho
  split at hg
  · rename_i xs' q1
    split at ho
    · rename_i ys' q2
      have e := T.rel.nd i j d _ _ hd hp q1 q2 rfl (fun z => by cases z) fun z => by cases z
      rw [e, Nat.beq_refl] at ne
      cases ne
    · cases ho
  · cases hg
theorem ms_setSl (ho : PE X o (tE G F W mo)) (hl : PE X lo (tE G F W ml)) (hv : PE X v (tE G F W mv)) (hs : swapsWith v (some (.Subscript o (.Slice (some lo) none none p2) p3)) pos.line X.env = pure false) :
    PS X (.Assign [.Subscript o (.Slice (some lo) none none p2) p3] v pos) (tS G F W (mSetSl mo ml mv)) := by
  refine PS_imp (ps_setSl ho hl hv hs) fun D σ H ⟨ρ, S, ls, T, h⟩ => ?_
  refine tE_bind T h fun y S1 ρ1 H1 uy h1 x1 T1 r1 => ?_
  refine tE_bind T1 h1 fun x S2 ρ2 H2 ux h2 x2 T2 r2 => ?_
  refine tE_bind T2 h2 fun k S3 ρ3 H3 uk h3 x3 T3 r3 => ?_
  have r4 := (r1.mono x2 y).mono x3 y
  have r5 := r2.mono x3 x
  split at h3
  · rename_i r b i
    unfold RV at r4 r5 r3
    obtain ⟨pb, hb, rfl⟩ := r4
    obtain ⟨pr, hr, rfl⟩ := r5
    subst r3
    split at h3
    · rename_i xs ys q1 q2
      split at h3
      · rename_i q3
        obtain ⟨q4, q5⟩ := ba q3
        have nb : Nat.beq b r = false := by
          cases w : Nat.beq b r with
          | false => rfl
          | true => rw [w] at q5; cases q5
        obtain ⟨vs, e1, rs⟩ := lst_of T3 hr q1
        obtain ⟨ws, e2, rt⟩ := lst_of T3 hb q2
        obtain ⟨T4, x4⟩ := putLst T3 hr q1 e1 (RVs_app (RVs_take (stF i xs.length) rs) rt)
        have lv : vs.length = xs.length := RVs_len rs
        refine ⟨pr, pb, vs, ws, i, rfl, rfl, rfl, lst_ne T3 hr q1 hb q2 nb, e1, e2, ?_, ?_⟩
        · rw [lv, RVs_len rt]
          exact Nat.le_of_lt (lt_line q4)
        · rw [lv]
          exact h3 ρ3 _ σ (x1.trans (x2.trans (x3.trans x4))) T4
      · exact h3.elim
    · exact h3.elim
  · exact h3.elim
def mDelSl (mo ml : EM) : SM := fun ls S => (mo ls S).bind fun x S1 => (ml ls S1).bind fun k S2 => match x, k with
  | .ref r, .int i => match lstAt S2 r with
    | some xs => .ok (.nx, ls) (S2.put r (.lst (xs.take (stF i xs.length))))
    | none => .bad
  | _, _ => .bad
theorem ms_delSl (ho : PE X o (tE G F W mo)) (hl : PE X lo (tE G F W ml)) : PS X (.Delete [.Subscript o (.Slice (some lo) none none p2) p3] pos) (tS G F W (mDelSl mo ml)) := by
  refine PS_imp (ps_delSl ho hl) fun D σ H ⟨ρ, S, ls, T, h⟩ => ?_
  refine tE_bind T h fun x S1 ρ1 H1 ux h1 x1 T1 r1 => ?_
  refine tE_bind T1 h1 fun k S2 ρ2 H2 uk h2 x2 T2 r2 => ?_
  have r4 := r1.mono x2 x
  split at h2
  · rename_i r i
    unfold RV at r4 r2
    obtain ⟨pr, hr, rfl⟩ := r4
    subst r2
    split at h2
    · rename_i xs q1
      obtain ⟨vs, e1, rs⟩ := lst_of T2 hr q1
      obtain ⟨T3, x3⟩ := putLst T2 hr q1 e1 (RVs_take (stF i xs.length) rs)
      have lv : vs.length = xs.length := RVs_len rs
      refine ⟨pr, vs, i, rfl, rfl, e1, ?_⟩
      rw [lv]
      exact h2 ρ2 _ σ (x1.trans (x2.trans x3)) T3
    · exact h2.elim
  · exact h2.elim
end
end Sh

end

noncomputable section
namespace Sh
open PySem PySem.Spec PyProof.Rows L2 LamX He
section
variable {X : Cx} {G : Gd} {W : WX} {F : Fm} {e o f : Expr} {pos apos : Pos} {mo me mf : EM}
/-! ### d.get(k), d.get(k, x), d.setdefault(k, x) -/
def isDn (S : Sto) : AV → Bool
  | .ref i => match S.get i with
    | some (.dct _) => true
    | some (.dtp _) => true
    | some (.ldk _) => true
    | _ => false
  | _ => false
theorem isDn_ok {ρ : List Addr} {S : Sto} {ls : Lo} {σ : L2.St} {H : Hp} {x : AV} {u : V} (T : Stt G F ρ S ls σ H) (r : RV G ρ H x u) (h : isDn S x = true) : ∃ a, u = .ref a ∧ IsD H a := by
  cases x with
  | ref i =>
    unfold RV at r
    obtain ⟨p, hp, rfl⟩ := r
    refine ⟨p, rfl, ?_⟩
    unfold isDn at h
    dsimp only at h
    split at h
    · rename_i q
      obtain ⟨ps, e, _⟩ := T.rel.obj i p _ hp q
      exact .inl ⟨ps, .inl e⟩
    · rename_i q
      obtain ⟨ps, e, _⟩ := T.rel.obj i p _ hp q
      exact .inr ⟨ps, .inl e⟩
    · rename_i q
      obtain ⟨ob, ps, e, _⟩ := T.rel.obj i p _ hp q
      exact .inl ⟨ps, .inr ⟨ob, e⟩⟩
    · cases h
  | _ => cases h
def mGet1 (mo me : EM) : EM := fun ls S => (mo ls S).bind fun x S1 => match isDn S1 x with
  | true => (me ls S1).bind fun k S2 => match dget S2 x k with
    | some o => .ok (o.getD .non) S2
    | none => .bad
  | false => .bad
theorem m1_of {env : Env} (hb : attributeBase o n X.env (eval o X.env) = eval o X.env) (hst : notStar e = true) (hl : (apos.endLine == pos.line) = true) : M1 X o n apos e pos where
  base := hb
  few := few_ok (es := [e]) (by unfold noStars; rw [hst]; rfl) (by simp)
  line := hl
  trees := by rw [star_cons hst]; rfl
theorem m2_of {env : Env} (hb : attributeBase o n X.env (eval o X.env) = eval o X.env) (hst : notStar e = true) (hst2 : notStar f = true) (hl : (apos.endLine == pos.line) = true) : M2 X o n apos e f pos where
  base := hb
  few := few_ok (es := [e, f]) (by unfold noStars noStars; rw [hst, hst2]; rfl) (by simp)
  line := hl
  trees := by rw [star_cons hst, star_cons hst2]; rfl
theorem me_get1 (hu : X.A.units + 1 < cLine) (ho : PE X o (tE G F W mo)) (he : PE X e (tE G F W me)) (m : M1 X o "get" apos e pos) : PE X (.Call (.Attribute o "get" apos) [e] [] pos) (tE G F W (mGet1 mo me)) := by
  refine PE_imp (pe_dget1 hu ho he m) fun σ H Q ⟨ρ, S, ls, T, h⟩ => ?_
  refine tE_bind T h fun x S1 ρ1 H1 u h1 x1 T1 r1 => ?_
  cases q : isDn S1 x with
  | false => rw [q] at h1; exact h1.elim
  | true =>
    rw [q] at h1
    obtain ⟨a, ea, d⟩ := isDn_ok T1 r1 q
    refine ⟨a, ea, d, tE_bind T1 h1 fun k S2 ρ2 H2 y h2 x2 T2 r2 => ?_⟩
    cases q2 : dget S2 x k with
    | none => rw [q2] at h2; exact h2.elim
    | some w =>
      rw [q2] at h2
      obtain ⟨a', o', e1, g, z⟩ := dget_ok T2 (r1.mono x2 x) r2 q2
      rw [ea] at e1
      cases e1
      refine ⟨o', g, h2 ρ2 H2 (x1.trans x2) T2 _ ?_⟩
      cases w with
      | none => rw [z]; exact rv_non
      | some w => obtain ⟨u', z1, z2⟩ := z; rw [z1]; exact z2
def mGet2 (mo me mf : EM) : EM := fun ls S => (mo ls S).bind fun x S1 => match isDn S1 x with
  | true => (me ls S1).bind fun k S2 => (mf ls S2).bind fun y S3 => match dget S3 x k with
    | some o => .ok (o.getD y) S3
    | none => .bad
  | false => .bad
theorem me_get2 (hu : X.A.units + 1 < cLine) (ho : PE X o (tE G F W mo)) (he : PE X e (tE G F W me)) (hf : PE X f (tE G F W mf)) (m : M2 X o "get" apos e f pos) : PE X (.Call (.Attribute o "get" apos) [e, f] [] pos) (tE G F W (mGet2 mo me mf)) := by
  refine PE_imp (pe_dget2 hu ho he hf m) fun σ H Q ⟨ρ, S, ls, T, h⟩ => ?_
  refine tE_bind T h fun x S1 ρ1 H1 u h1 x1 T1 r1 => ?_
  cases q : isDn S1 x with
  | false => rw [q] at h1; exact h1.elim
  | true =>
    rw [q] at h1
    obtain ⟨a, ea, d⟩ := isDn_ok T1 r1 q
    refine ⟨a, ea, d, tE_bind T1 h1 fun k S2 ρ2 H2 y h2 x2 T2 r2 => tE_bind T2 h2 fun z S3 ρ3 H3 uz h3 x3 T3 r3 => ?_⟩
    cases q2 : dget S3 x k with
    | none => rw [q2] at h3; exact h3.elim
    | some w =>
      rw [q2] at h3
      obtain ⟨a', o', e1, g, zz⟩ := dget_ok T3 ((r1.mono x2 x).mono x3 x) (r2.mono x3 k) q2
      rw [ea] at e1
      cases e1
      refine ⟨o', g, h3 ρ3 H3 (x1.trans (x2.trans x3)) T3 _ ?_⟩
      cases w with
      | none => rw [zz]; exact r3
      | some w => obtain ⟨u', z1, z2⟩ := zz; rw [z1]; exact z2
def mSetd (mo me mf : EM) : EM := fun ls S => (mo ls S).bind fun x S1 => match isDn S1 x with
  | true => (me ls S1).bind fun k S2 => (mf ls S2).bind fun y S3 => match dctAt S3 x with
    | some (i, kvs) => match sKey k && smallD kvs.length with
      | true => match getA kvs k with
        | some w => .ok w S3
        | none => .ok y (S3.put i (.dct (putA kvs k y)))
      | false => .bad
    | none => .bad
  | false => .bad
theorem me_setd (ho : PE X o (tE G F W mo)) (he : PE X e (tE G F W me)) (hf : PE X f (tE G F W mf)) (m : M2 X o "setdefault" apos e f pos) : PE X (.Call (.Attribute o "setdefault" apos) [e, f] [] pos) (tE G F W (mSetd mo me mf)) := by
  refine PE_imp (pe_dsetd ho he hf m) fun σ H Q ⟨ρ, S, ls, T, h⟩ => ?_
  refine tE_bind T h fun x S1 ρ1 H1 u h1 x1 T1 r1 => ?_
  cases q : isDn S1 x with
  | false => rw [q] at h1; exact h1.elim
  | true =>
    rw [q] at h1
    obtain ⟨a, ea, d⟩ := isDn_ok T1 r1 q
    refine ⟨a, ea, d, tE_bind T1 h1 fun k S2 ρ2 H2 y h2 x2 T2 r2 => tE_bind T2 h2 fun z S3 ρ3 H3 uz h3 x3 T3 r3 => ?_⟩
    split at h3
    · rename_i i kvs q1
      split at h3
      · rename_i q2
        obtain ⟨b1, b2⟩ := ba q2
        obtain ⟨a', ps, _, e1, hp, hg, ed, kr⟩ := dctAt_ok T3 ((r1.mono x2 x).mono x3 x) q1
        rw [ea] at e1
        cases e1
        obtain ⟨key, hk⟩ := isSome_of b1
        have ey := keyOf_V hk (r2.mono x3 k)
        have g := kg_get (@kEq_s) hk (kr_kg.mp kr)
        refine ⟨ps, key, ed, ey, by rw [KR_len' kr]; exact lt_line b2, fun v hv => ?_, fun hn => ?_⟩
        · cases q3 : getA kvs k with
          | none => rw [q3] at g; rw [hv] at g; cases g
          | some w =>
            rw [q3] at g h3
            obtain ⟨u', z1, z2⟩ := g
            rw [hv] at z1
            cases z1
            exact h3 ρ3 H3 (x1.trans (x2.trans x3)) T3 _ z2
        · cases q3 : getA kvs k with
          | some w =>
            rw [q3] at g
            obtain ⟨u', z1, z2⟩ := g
            rw [hn] at z1
            cases z1
          | none =>
            rw [q3] at h3
            obtain ⟨T4, x4⟩ := putDk_ok T3 hp hg ed (kr_kg.mpr (kg_put (@kEq_s) hk r3 (kr_kg.mp kr)))
            exact h3 ρ3 _ (x1.trans (x2.trans (x3.trans x4))) T4 _ (r3.mono x4 z)
      · exact h3.elim
    · exact h3.elim
/-! ### {k: v, ..} -/
abbrev PM := Lo → Sto → Out (List (AV × AV))
def pNil : PM := fun _ S => .ok [] S
def pCons (mk mv : EM) (r : PM) : PM := fun ls S => (mk ls S).bind fun x S1 => (mv ls S1).bind fun y S2 => (r ls S2).bind fun ps S3 => .ok ((x, y) :: ps) S3
def RPs (G : Gd) (ρ : List Addr) (H : Hp) : List (AV × AV) → List (V × V) → Prop
  | [], ps => ps = []
  | (a, b) :: r, ps => ∃ x y q, ps = (x, y) :: q ∧ RV G ρ H a x ∧ RV G ρ H b y ∧ RPs G ρ H r q
/-- the pairs' reading -/
structure PPm (X : Cx) (G : Gd) (F : Fm) (W : WX) (pos : Pos) (keys : List (Option Expr)) (values : List Expr) (m : PM) : Prop where
  ex : ∃ trs, PPs X pos keys values trs ∧ ∀ {σ : L2.St} {H : Hp} {ρ : List Addr} {S : Sto} {ls : Lo} {P : List (AV × AV) → Sto → Prop} {Q : List (V × V) → Hp → Prop}, Stt G F ρ S ls σ H → (m ls S).Sat P (PostX G F W ρ H) →
    (∀ l S' ρ' H' ps, P l S' → Ext ρ H ρ' H' → Stt G F ρ' S' ls σ H' → RPs G ρ' H' l ps → Q ps H') → tPairs trs σ H Q
theorem pp_nil : PPm X G F W pos [] [] pNil := ⟨[], pps_nil, fun T h k => k [] _ _ _ [] h (Ext.refl _ _) T rfl⟩
theorem pp_cons {ks : List (Option Expr)} {vs : List Expr} {m : PM} (hk : PE X e (tE G F W me)) (hv : PE X f (tE G F W mf)) (hr : PPm X G F W pos ks vs m) : PPm X G F W pos (some e :: ks) (f :: vs) (pCons me mf m) := by
  obtain ⟨trs, h1, h2⟩ := hr.ex
  refine ⟨_, pps_cons hk hv h1, fun {σ H ρ S ls P Q} T h k => ?_⟩
  show tE G F W me σ H fun x H1 => tE G F W mf σ H1 fun y H2 => tPairs trs σ H2 fun ps H3 => Q ((x, y) :: ps) H3
  refine tE_bind T h fun x S1 ρ1 H1 ux z1 x1 T1 r1 => tE_bind T1 z1 fun y S2 ρ2 H2 uy z2 x2 T2 r2 => ?_
  have z2 := Out.sat_bind.mp z2
  refine h2 T2 (Out.sat_mono (fun _ _ z => z) (fun _ _ _ z => z) z2) fun l S3 ρ3 H3 ps p3 x3 T3 r3 => ?_
  exact k ((x, y) :: l) S3 ρ3 H3 _ p3 (x1.trans (x2.trans x3)) T3 ⟨ux, uy, ps, rfl, (r1.mono x2 x).mono x3 x, r2.mono x3 y, r3⟩
def allS : List (AV × AV) → Bool
  | [] => true
  | (k, _) :: r => match sKey k with
    | true => allS r
    | false => false
theorem allS_ok {ρ : List Addr} {H : Hp} : ∀ {l : List (AV × AV)} {ps : List (V × V)}, RPs G ρ H l ps → allS l = true → ∃ kvs : List (Key × V), ps = kvs.map (fun kv => (kV kv.1, kv.2)) ∧ KR G ρ H l kvs
  | [], ps, r, _ => by
    unfold RPs at r
    subst r
    exact ⟨[], rfl, rfl⟩
  | (a, b) :: l, ps, r, h => by
    unfold RPs at r
    obtain ⟨x, y, q, rfl, ra, rb, rr⟩ := r
    unfold allS at h
    cases z : sKey a with
    | false => rw [z] at h; cases h
    | true =>
      rw [z] at h
      obtain ⟨kvs, e, kr⟩ := allS_ok rr h
      obtain ⟨key, hk⟩ := isSome_of z
      have ey := keyOf_V hk ra
      subst ey e
      exact ⟨(key, y) :: kvs, rfl, key, y, kvs, rfl, hk, rb, kr⟩
def mDisp (m : PM) : EM := fun ls S => match S.ok with
  | true => (m ls (S.new (.dct []))).bind fun l S1 => match dctN S1 S.n, allS l && Nat.ble l.length 15 with
    | some [], true => .ok (.ref S.n) (S1.put S.n (.dct (mrgA [] l)))
    | _, _ => .bad
  | false => .bad
theorem me_disp {keys : List (Option Expr)} {values : List Expr} {m : PM} (hp : PPm X G F W pos keys values m) (hall : keys.all (·.isSome) = true) (hl : keys.length = values.length) (h0 : keys ≠ []) (h15 : keys.length ≤ 15) : PE X (.Dict keys values pos) (tE G F W (mDisp m)) := by
  obtain ⟨trs, h1, h2⟩ := hp.ex
  refine PE_imp (pe_disp h1 hall hl h0 h15) fun σ H Q ⟨ρ, S, ls, T, h⟩ => fun p np => ?_
  unfold mDisp at h
  cases q0 : S.ok with
  | false => rw [q0] at h; exact h.elim
  | true =>
    rw [q0] at h
    obtain ⟨T1, x1, hn⟩ := newDk_ok T q0 np
    have h := Out.sat_mono (fun _ _ z => z) (fun _ _ _ z => z.ext x1) (Out.sat_bind.mp h)
    refine h2 T1 h fun l S2 ρ2 H2 ps z x2 T2 rp => ?_
    split at z
    · rename_i q1 q2
      obtain ⟨b1, b2⟩ := ba q2
      have gN := dctN_get q1
      have dN := x2.at hn
      obtain ⟨ps0, d0, kr0⟩ := T2.rel.obj _ _ _ dN gN
      unfold KR at kr0
      subst kr0
      obtain ⟨kvs, e, kr⟩ := allS_ok rp b1
      have kr0 : KR G ρ2 H2 [] ([] : List (Key × V)) := rfl
      obtain ⟨T3, x3⟩ := putDk_ok T2 dN gN d0 (kg_mrg kr kr0)
      refine ⟨d0, kvs, e, by rw [KR_len' kr]; exact Nat.le_of_ble_eq_true b2, z ρ2 _ (x1.trans (x2.trans x3)) T3 _ ?_⟩
      unfold RV
      exact ⟨p, dN, rfl⟩
    · exact z.elim
end
end Sh

end

noncomputable section
namespace Sh
open PySem PySem.Spec PyProof.Rows L2 LamX He
/-! ### a dict is walked: it is locked meanwhile -/
theorem ldkAt_get {S : Sto} {i : Nat} {kvs : List (AV × AV)} (h : ldkAt S i = some kvs) : S.get i = some (.ldk kvs) := by
  unfold ldkAt at h
  split at h
  · rename_i e; cases h; exact e
  · cases h
section
variable {G : Gd} {F : Fm} {ρ : List Addr} {S : Sto} {ls : Lo} {σ : L2.St} {H : Hp}
theorem extT_unlock {d : Addr} {od : Obj} {ps : List (Key × V)} (hd : H d = some (.frz od (.dK ps))) : ExtT ρ H ρ (upd H d (.dK ps)) := ⟨⟨[], by simp⟩, fun a o e i hr => by
  rw [upd_ne (fun z => ?_)]
  · exact e
  · rw [z, hd] at e
    cases e
    obtain ⟨xs, w⟩ := hr _ _ rfl
    cases w⟩
theorem stt_unlock {i : Nat} {d : Addr} {od : Obj} {kvs kvs' : List (AV × AV)} {ps : List (Key × V)} (T : Stt G F ρ S ls σ H) (hi : ρ[i]? = some d) (hg : S.get i = some (.ldk kvs')) (hd : H d = some (.frz od (.dK ps))) (kr : KR G ρ H kvs ps) :
    Stt G F ρ (S.put i (.dct kvs)) ls σ (upd H d (.dK ps)) := by
  have R := T.rel
  have x := extT_unlock (ρ := ρ) hd
  have gp : ∀ {j : Nat} {b : Addr}, ρ[j]? = some b → (S.put i (.dct kvs)).get j = if j = i then some (.dct kvs) else S.get j := fun {j b} h => Sto.get_put (R.ilt hi) (R.ilt h)
  have ne : ∀ {j : Nat} {b : Addr} {u : AO}, ρ[j]? = some b → S.get j = some u → u.isCell = false → j ≠ i → b ≠ d := fun {j b u} hj gj hc e z => by
    subst z
    exact e (R.nd j i b u _ hj hi gj hg (by rw [hc]; rfl) (fun w => by rw [w] at hc; cases hc) fun w => by cases w)
  have rel : Rel G ρ (S.put i (.dct kvs)) (upd H d (.dK ps)) := by
    refine ⟨R.len, R.lt, fun j j' b u u' hj hj' gj gj' hc' n1 n2 => ?_, fun j b u hj gj => ?_, fun p hp => ?_, fun j j' b b' c c' hj hj' gj gj' => ?_⟩
    · have fix : ∀ {j : Nat} {u : AO}, ρ[j]? = some b → (S.put i (.dct kvs)).get j = some u → u ≠ .cell none → ∃ u0, S.get j = some u0 ∧ u0.isCell = u.isCell ∧ u0 ≠ .cell none := fun {j u} h g n => by
        rw [gp h] at g
        by_cases e : j = i
        · rw [if_pos e] at g
          cases g
          exact ⟨.ldk kvs', by rw [e]; exact hg, rfl, fun z => by cases z⟩
        · rw [if_neg e] at g
          exact ⟨u, g, rfl, n⟩
      obtain ⟨w, g1, c1, m1⟩ := fix hj gj n1
      obtain ⟨w', g2, c2, m2⟩ := fix hj' gj' n2
      exact R.nd j j' b w w' hj hj' g1 g2 (by rw [c1, c2, hc']) m1 m2
    · rw [gp hj] at gj
      by_cases e : j = i
      · rw [if_pos e] at gj
        cases gj
        rw [e, hi] at hj
        cases hj
        exact ⟨ps, upd_same, kr.monoT x⟩
      · rw [if_neg e] at gj
        have q := R.obj j b u hj gj
        cases u with
        | lst xs =>
          obtain ⟨vs, h1, h2⟩ := q
          exact ⟨vs, by rw [upd_ne (ne hj gj rfl e)]; exact h1, RVs.monoT x xs h2⟩
        | dct l =>
          obtain ⟨qs, h1, h2⟩ := q
          exact ⟨qs, by rw [upd_ne (ne hj gj rfl e)]; exact h1, h2.monoT x⟩
        | dtp l =>
          obtain ⟨qs, h1, h2⟩ := q
          exact ⟨qs, by rw [upd_ne (ne hj gj rfl e)]; exact h1, h2.monoT x⟩
        | ldk l =>
          obtain ⟨ob, qs, h1, h2⟩ := q
          exact ⟨ob, qs, by rw [upd_ne (ne hj gj rfl e)]; exact h1, h2.monoT x⟩
        | ins c fs =>
          obtain ⟨dx, gs, h1, h2⟩ := q
          exact ⟨dx, gs, by rw [upd_ne (ne hj gj rfl e)]; exact h1, h2.monoT x⟩
        | cell v => trivial
        | strm c =>
          obtain ⟨l, ⟨a, m, xs, h1, h2, h3⟩, h4⟩ := q
          have nl : l ≠ d := fun z => by rw [z] at h2; rw [hd] at h2; cases h2
          exact ⟨l, ⟨a, m, xs, by rw [upd_ne (ne hj gj rfl e)]; exact h1, by rw [upd_ne nl]; exact h2, h3⟩, h4⟩
    · obtain ⟨qs, h1, h2, h3⟩ := R.tabs p hp
      refine ⟨qs, by rw [upd_ne (fun z => by rw [z, hd] at h1; cases h1)]; exact h1, h2, fun pos cv hcv => ?_⟩
      obtain ⟨c, e1, e2⟩ := h3 pos cv hcv
      exact ⟨c, e1, by rw [upd_ne (fun z => by rw [z, hd] at e2; unfold CodeO at e2; cases e2)]; exact e2⟩
    · have st : ∀ {j : Nat} {b : Addr} {c : Nat}, ρ[j]? = some b → (S.put i (.dct kvs)).get j = some (.strm c) → S.get j = some (.strm c) := fun {j b c} h g => by
        rw [gp h] at g
        by_cases e : j = i
        · rw [if_pos e] at g
          cases g
        · rw [if_neg e] at g
          exact g
      exact R.one j j' b b' c c' hj hj' (st hj gj) (st hj' gj')
  refine ⟨rel, T.len, fun j => ?_, fun k a v hk g => ?_, T.one⟩
  · have z := T.loc j
    cases q : nth ls j with
    | u => trivial
    | v a =>
      rw [q] at z
      obtain ⟨y, h1, h2⟩ := z
      exact ⟨y, h1, RV.monoT x a h2⟩
    | c k a =>
      rw [q] at z
      obtain ⟨⟨y, h1, h2⟩, h3, n, b, h4, h5⟩ := z
      refine ⟨⟨y, h1, RV.monoT x a h2⟩, ?_, n, b, h4, h5⟩
      rw [gp h4, if_neg (fun e => by rw [e, hg] at h3; cases h3)]
      exact h3
  · rw [gp hk] at g
    by_cases e : k = i
    · rw [if_pos e] at g
      cases g
    · rw [if_neg e] at g
      obtain ⟨o, y, u, h1, h2, h3, h4⟩ := T.known k a v hk g
      exact ⟨o, y, u, by rw [upd_ne (fun z => by rw [z, hd] at h1; unfold Fzo at h1; cases h1)]; exact h1, h2, h3, RV.monoT x v h4⟩
end
/-- the lock goes -/
def unlk {α : Type} (i : Nat) (kvs : List (AV × AV)) : Out α → Out α
  | .ok a S => match ldkAt S i with
    | some _ => .ok a (S.put i (.dct kvs))
    | none => .bad
  | .ex _ _ _ => .bad
  | .bad => .bad
  | .dr n k => .dr n fun j => unlk i kvs (k j)
theorem unlk_sat {α : Type} {i : Nat} {kvs : List (AV × AV)} {P : α → Sto → Prop} {E E' : AE → Lo → Sto → Prop} : ∀ {m : Out α}, (unlk i kvs m).Sat P E → m.Sat (fun a S => (∃ l, ldkAt S i = some l) ∧ P a (S.put i (.dct kvs))) E'
  | .ok a S, h => by
    unfold unlk at h
    split at h
    · rename_i l q; exact ⟨⟨l, q⟩, h⟩
    · exact h.elim
  | .ex _ _ _, h => h.elim
  | .bad, h => h.elim
  | .dr n k, h => fun j h0 h1 => unlk_sat (h j h0 h1)
/-- the dict that stands there, if one does -/
def lkAt (S : Sto) : Out AV → Option (Nat × List (AV × AV))
  | .ok x _ => match dctAt S x with
    | some (i, kvs) => match Nat.blt i S.n with
      | true => some (i, kvs)
      | false => none
    | none => none
  | _ => none
theorem lkAt_ok {G : Gd} {F : Fm} {ρ : List Addr} {S : Sto} {ls : Lo} {σ : L2.St} {H : Hp} {m : Out AV} {i : Nat} {kvs : List (AV × AV)} (T : Stt G F ρ S ls σ H) (h : lkAt S m = some (i, kvs)) :
    ∃ d ps, ρ[i]? = some d ∧ S.get i = some (.dct kvs) ∧ H d = some (.dK ps) ∧ KR G ρ H kvs ps ∧ ∀ od, Stt G F ρ (S.put i (.ldk kvs)) ls σ (upd H d (.frz od (.dK ps))) ∧ Ext ρ H ρ (upd H d (.frz od (.dK ps))) := by
  cases m with
  | ok x S' =>
    have h : (match dctAt S x with
      | some (i, kvs) => match Nat.blt i S.n with
        | true => some (i, kvs)
        | false => none
      | none => none) = some (i, kvs) := h
    cases q : dctAt S x with
    | none => rw [q] at h; cases h
    | some p =>
      obtain ⟨j, l⟩ := p
      rw [q] at h
      dsimp only at h
      cases q2 : Nat.blt j S.n with
      | false => rw [q2] at h; cases h
      | true =>
        rw [q2] at h
        cases h
        have q2 := Nat.le_of_ble_eq_true q2
        have hg : S.get i = some (.dct kvs) := by
          unfold dctAt at q
          split at q
          · split at q
            · rename_i e
              cases q
              exact e
            · cases q
          · cases q
        have hl : i < ρ.length := by rw [T.rel.len]; exact q2
        have hp := List.getElem?_eq_getElem hl
        obtain ⟨ps, e, kr⟩ := T.rel.obj i _ _ hp hg
        refine ⟨_, ps, hp, hg, e, kr, fun od => T.upd (o := .frz od (.dK ps)) (ao := .ldk kvs) hp hg e (fun z => z) (fun _ z => by cases z) rfl rfl fun x => ⟨od, ps, upd_same, KR.mono x kr⟩⟩
  | _ => cases h
theorem ext_lock {ρ ρ' : List Addr} {H H' : Hp} {d : Addr} {od : Obj} {ps : List (Key × V)} (hd : H d = some (.dK ps)) (x : Ext ρ (upd H d (.frz od (.dK ps))) ρ' H') : Ext ρ H ρ' (upd H' d (.dK ps)) := ⟨x.pre, fun a o e i => by
  have ne : a ≠ d := fun z => by rw [z, hd] at e; cases e; exact i
  rw [upd_ne ne]
  exact x.imm a o (by rw [upd_ne ne]; exact e) i⟩
section
variable {X : Cx} {G : Gd} {W : WX} {F : Fm} {st : Stmt} {e : Expr} {pos : Pos} {ma : EM} {tg : Expr}
def mLk (me : EM) (m : SM) : SM := fun ls S => match lkAt S (me ls S) with
  | some (i, kvs) => unlk i kvs (m ls (S.put i (.ldk kvs)))
  | none => m ls S
theorem ms_lk {me : EM} {m : SM} (h : PS X st (tS G F W m)) : PS X st (tS G F W (mLk me m)) := by
  refine ⟨fun pins s σ H D I ⟨ρ, S, ls, T, z⟩ => ?_⟩
  unfold mLk at z
  cases q : lkAt S (me ls S) with
  | none =>
    rw [q] at z
    exact h.run pins s σ H D I ⟨ρ, S, ls, T, z⟩
  | some p =>
    obtain ⟨i, kvs⟩ := p
    rw [q] at z
    obtain ⟨d, ps, hp, hg, hd, kr, lk⟩ := lkAt_ok T q
    refine (ps_lock h).run pins s σ H D I ⟨d, .dK ps, hd, trivial, fun od => ?_⟩
    obtain ⟨T2, x2⟩ := lk od
    refine ⟨ρ, _, ls, T2, Out.sat_mono (fun r S' ⟨⟨l, lq⟩, y⟩ ρ' H' σ' x3 T3 => ?_) (fun _ _ _ y => y) (unlk_sat (E' := PostX G F W ρ (upd H d (.frz od (.dK ps)))) z)⟩
    have hd' : H' d = some (.frz od (.dK ps)) := x3.imm d _ upd_same trivial
    have T4 := stt_unlock T3 (x3.at hp) (ldkAt_get lq) hd' (KR.mono (x2.trans x3) kr)
    have x4 := ext_lock hd x3
    have w := y ρ' _ σ' x4 T4
    cases fl : r.1 with
    | nx => simp only [fl] at w ⊢; exact ⟨hd', w⟩
    | br => simp only [fl] at w ⊢; exact ⟨hd', w⟩
    | ct => simp only [fl] at w ⊢; exact ⟨hd', w⟩
    | rt v =>
      simp only [fl] at w ⊢
      exact fun x rx => ⟨hd', w x (RV.monoT (extT_unlock (ρ := ρ') hd') v rx)⟩
def mLkE (me m : EM) : EM := fun ls S => match lkAt S (me ls S) with
  | some (i, kvs) => unlk i kvs (m ls (S.put i (.ldk kvs)))
  | none => m ls S
theorem me_lk {me m : EM} (h : PE X e (tE G F W m)) : PE X e (tE G F W (mLkE me m)) := by
  refine ⟨fun pins s σ H Q I ⟨ρ, S, ls, T, z⟩ => ?_⟩
  unfold mLkE at z
  cases q : lkAt S (me ls S) with
  | none =>
    rw [q] at z
    exact h.run pins s σ H Q I ⟨ρ, S, ls, T, z⟩
  | some p =>
    obtain ⟨i, kvs⟩ := p
    rw [q] at z
    obtain ⟨d, ps, hp, hg, hd, kr, lk⟩ := lkAt_ok T q
    refine (pe_lock h).run pins s σ H Q I ⟨d, .dK ps, hd, trivial, fun od => ?_⟩
    obtain ⟨T2, x2⟩ := lk od
    refine ⟨ρ, _, ls, T2, Out.sat_mono (fun v S' ⟨⟨l, lq⟩, y⟩ ρ' H' x3 T3 x rx => ?_) (fun _ _ _ y => y) (unlk_sat (E' := PostX G F W ρ (upd H d (.frz od (.dK ps)))) z)⟩
    have hd' : H' d = some (.frz od (.dK ps)) := x3.imm d _ upd_same trivial
    have T4 := stt_unlock T3 (x3.at hp) (ldkAt_get lq) hd' (KR.mono (x2.trans x3) kr)
    exact ⟨hd', y ρ' _ (ext_lock hd x3) T4 x (RV.monoT (extT_unlock (ρ := ρ') hd') v rx)⟩
/-! the walk over its keys, its pairs -/
def iAnyD (K : PySem.W.Frag) (tl : TE) : TI := fun σ H R => tl σ H fun x H1 => (∃ a, x = .ref a ∧ (∃ xs, SqL K H1 a xs) ∧ R (Itl K a) H1) ∨ (∃ a, x = .ref a ∧ (∃ xs, SqT K H1 a xs) ∧ R (Itt K a) H1) ∨ (∃ z, x = .str z ∧ R (Its z) H1) ∨
  ∃ d o kvs, x = .ref d ∧ H1 d = some (.frz o (.dK kvs)) ∧ R (Itk d o kvs) H1
theorem pi_anyD {l : Expr} {tl : TE} (hl : PE X l tl) : PI X tg l (iAnyD X.K tl) := by
  have hf : PE X l tl := hl
  refine ⟨fun pins s σ H R I h =>
      ?_⟩
  refine thn (hl.run pins s σ H _ I h) fun v s1 ⟨x, H1, I1, r1, got⟩ => ?_
  rcases got with ⟨a, rfl, ⟨xs, hq⟩, q⟩ | ⟨a, rfl, ⟨xs, hq⟩, q⟩ | ⟨z, rfl, q⟩ | ⟨d, o, kvs, rfl, hd, q⟩
  · cases r1
    obtain ⟨elA, rvA, isS, atZ⟩ := I1.list hq
    refine wpAny_pyIter_list isS.isList ?_
    refine pi_one (tk := s1.toks) I1 _ (turn_list a _) ⟨_, Heap.get?_push_size _ rfl, rfl, rfl⟩ q
  · cases r1
    obtain ⟨elA, rvA, isS, atZ⟩ := I1.tuple hq
    refine wpAny_pyIter_tuple (show s1.heap.IsTuple a elA.toArray from isS) ?_
    refine pi_one (tk := s1.toks) I1 _ (turn_tuple a _) ⟨_, Heap.get?_push_size _ rfl, rfl, rfl⟩ q
  · obtain ⟨t, rfl⟩ := r1
    cases ha : z.cps.all (· < 128)
    · exact wpAny_pyIter_wide ha (pi_one (tk := s1.toks) I1 _ (turn_str _ z t "str_iterator" (.inr rfl)) ⟨_, Heap.get?_push_size _ rfl, rfl, rfl⟩ q)
    · exact wpAny_pyIter_ascii ha (pi_one (tk := s1.toks) I1 _ (turn_str _ z t "str_ascii_iterator" (.inl rfl)) ⟨_, Heap.get?_push_size _ rfl, rfl, rfl⟩ q)
  · obtain rfl : v = Value.ref d := r1
    obtain ⟨w1, w2, w3, es, ep, vs, w4, w5, w6, w7⟩ := I1.frzK hd
    refine iter_keys w1 w2 w3 w4 (pi_one (tk := s1.toks) I1 _ (turn_keys _ w4) ⟨_, Heap.get?_push_size _ rfl, rfl, ?_⟩ q)
    rw [w5]
    rfl
theorem KR_get {ρ : List Addr} {H : Hp} : ∀ {kvs : List (AV × AV)} {ps : List (Key × V)} {k : Nat} {a b : AV}, KR G ρ H kvs ps → kvs[k]? = some (a, b) → ∃ key v, ps[k]? = some (key, v) ∧ keyOf a = some key ∧ RV G ρ H b v
  | (a', b') :: r, ps, k, a, b, h, g => by
    unfold KR at h
    obtain ⟨key, v, qs, rfl, hk, hv, hr⟩ := h
    cases k with
    | zero =>
      simp at g
      obtain ⟨rfl, rfl⟩ := g
      exact ⟨key, v, rfl, hk, hv⟩
    | succ k =>
      obtain ⟨key', v', h1, h2, h3⟩ := KR_get hr (by simpa using g)
      exact ⟨key', v', by simpa using h1, h2, h3⟩
theorem rv_key {ρ : List Addr} {H : Hp} {a : AV} {key : Key} (h : keyOf a = some key) : RV G ρ H a (kV key) := by
  cases a with
  | int i => cases h; exact rv_int
  | str s => cases h; exact rv_str
  | _ => cases h
theorem nxt_dk (i k : Nat) (S : Sto) : nxt (.dk i) k S = match ldkAt S i with
    | some kvs => match at? kvs k with
      | some p => some (some p.1)
      | none => some none
    | none => none := rfl
theorem nxt_di (i k : Nat) (S : Sto) : nxt (.di i) k S = match ldkAt S i with
    | some kvs => match at? kvs k with
      | some p => some (some (.tup [p.1, p.2]))
      | none => some none
    | none => none := rfl
theorem ldk_same {F' : Fm} {ρ ρ' : List Addr} {S' : Sto} {ls : Lo} {σ : L2.St} {H H' : Hp} {i : Nat} {d : Addr} {o : Obj} {kvs' : List (AV × AV)} {ps : List (Key × V)} (hp : ρ[i]? = some d) (hd : H d = some (.frz o (.dK ps))) (x : Ext ρ H ρ' H') (T : Stt G F' ρ' S' ls σ H') (hg : ldkAt S' i = some kvs') :
    H' d = some (.frz o (.dK ps)) ∧ KR G ρ' H' kvs' ps := by
  have e := x.imm d _ hd trivial
  obtain ⟨o', ps', e', kr⟩ := T.rel.obj i d _ (x.at hp) (ldkAt_get hg)
  rw [e] at e'
  cases e'
  exact ⟨e, kr⟩
theorem ri_dk {ρ : List Addr} {H : Hp} {i : Nat} {d : Addr} {o : Obj} {ps : List (Key × V)} (hp : ρ[i]? = some d) (hd : H d = some (.frz o (.dK ps))) : RI G F (.dk i) (Itk d o ps) ρ H := fun _ ρ' H' S ls σ k x T => by
  rw [nxt_dk]
  cases q : ldkAt S i with
  | none => exact ⟨fun z => (by cases z), fun v z => (by cases z)⟩
  | some kvs =>
    obtain ⟨e, kr⟩ := ldk_same hp hd x T q
    dsimp only
    rw [at?_eq]
    cases q2 : kvs[k]? with
    | none =>
      refine ⟨fun _ => ⟨e, ?_⟩, fun v z => (by cases z)⟩
      rw [KR_len' kr]
      exact List.getElem?_eq_none_iff.mp q2
    | some p =>
      obtain ⟨a, b⟩ := p
      refine ⟨fun z => (by cases z), fun v z => ?_⟩
      cases z
      obtain ⟨key, w, h1, h2, h3⟩ := KR_get kr q2
      refine ⟨⟨e, (List.getElem?_eq_some_iff.mp h1).1⟩, fun y H2 ⟨e1, key', w', e2, e3⟩ => ?_⟩
      subst e1
      rw [h1] at e2
      cases e2
      subst e3
      exact ⟨ρ', Ext.refl _ _, T, rv_key h2⟩
theorem ri_di {ρ : List Addr} {H : Hp} {i : Nat} {d : Addr} {o : Obj} {ps : List (Key × V)} (hp : ρ[i]? = some d) (hd : H d = some (.frz o (.dK ps))) : RI G F (.di i) (Iti d o ps) ρ H := fun _ ρ' H' S ls σ k x T => by
  rw [nxt_di]
  cases q : ldkAt S i with
  | none => exact ⟨fun z => (by cases z), fun v z => (by cases z)⟩
  | some kvs =>
    obtain ⟨e, kr⟩ := ldk_same hp hd x T q
    dsimp only
    rw [at?_eq]
    cases q2 : kvs[k]? with
    | none =>
      refine ⟨fun _ => ⟨e, ?_⟩, fun v z => (by cases z)⟩
      rw [KR_len' kr]
      exact List.getElem?_eq_none_iff.mp q2
    | some p =>
      obtain ⟨a, b⟩ := p
      refine ⟨fun z => (by cases z), fun v z => ?_⟩
      cases z
      obtain ⟨key, w, h1, h2, h3⟩ := KR_get kr q2
      refine ⟨⟨e, (List.getElem?_eq_some_iff.mp h1).1⟩, fun y H2 ⟨t, key', w', e2, e3, hT, eH⟩ => ?_⟩
      rw [h1] at e2
      cases e2
      subst e3 eH
      obtain ⟨T2, x2⟩ := T.side (o := .tup [kV key, w]) hT
      exact ⟨ρ', x2, T2, pairRV upd_same (rv_key h2) (h3.mono x2 b)⟩
def itOfD (S : Sto) (v : AV) : Option IT := match itOf S v with
  | some I => some I
  | none => match v with
    | .ref i => match ldkAt S i with
      | some _ => some (.dk i)
      | none => none
    | _ => none
def mItD (m : EM) : IM := fun ls S => (m ls S).bind fun v S1 => match itOfD S1 v with
  | some I => .ok I S1
  | none => .bad
theorem mi_anyD (hk : X.K = G.K) (ha : PE X e (tE G F W ma)) : PI X tg e (tI G F W (mItD ma)) := by
  refine PI_imp (pi_anyD ha) fun σ H R ⟨ρ, S, ls, T, h⟩ => ?_
  refine tE_bind T h fun v S1 ρ1 H1 x h1 x1 T1 r1 => ?_
  rw [hk]
  cases q : itOfD S1 v with
  | none => rw [q] at h1; exact h1.elim
  | some I =>
    rw [q] at h1
    unfold itOfD at q
    cases q2 : itOf S1 v with
    | some I' =>
      rw [q2] at q
      cases q
      cases v with
      | tup xs =>
        unfold RV at r1
        obtain ⟨a, ws, rfl, s, rs, _⟩ := r1
        cases q2
        exact .inr (.inl ⟨a, rfl, ⟨ws, s⟩, h1 ρ1 H1 _ x1 T1 (ri_t s rs)⟩)
      | str s =>
        unfold RV at r1
        subst r1
        cases q2
        exact .inr (.inr (.inl ⟨_, rfl, h1 ρ1 H1 _ x1 T1 ri_s⟩))
      | ref i =>
        unfold RV at r1
        obtain ⟨a, hp, rfl⟩ := r1
        unfold itOf at q2
        cases q3 : lstAt S1 i with
        | none => simp only [q3] at q2; cases q2
        | some xs =>
          simp only [q3] at q2
          cases q2
          obtain ⟨vs, e1, _⟩ := lst_of T1 hp q3
          exact .inl ⟨a, rfl, ⟨vs, SqL.of e1⟩, h1 ρ1 H1 _ x1 T1 (ri_l hp)⟩
      | _ => cases q2
    | none =>
      rw [q2] at q
      cases v with
      | ref i =>
        unfold RV at r1
        obtain ⟨a, hp, rfl⟩ := r1
        dsimp only at q
        cases q3 : ldkAt S1 i with
        | none => rw [q3] at q; cases q
        | some kvs =>
          rw [q3] at q
          cases q
          obtain ⟨o, ps, e1, _⟩ := T1.rel.obj i a _ hp (ldkAt_get q3)
          exact .inr (.inr (.inr ⟨a, o, ps, rfl, e1, h1 ρ1 H1 _ x1 T1 (ri_dk hp e1)⟩))
      | _ => cases q
def mItI (m : EM) : IM := fun ls S => (m ls S).bind fun v S1 => match v with
  | .ref i => match ldkAt S1 i with
    | some _ => .ok (.di i) S1
    | none => .bad
  | _ => .bad
theorem mi_items {elts : List Expr} {kk : Nat} {tpos apos cpos : Pos} (ha : PE X e (tE G F W ma)) (hbase : attributeBase e "items" X.env (eval e X.env) = eval e X.env) (hline : (apos.endLine == cpos.line) = true) :
    PI X (.Tuple elts kk tpos) (.Call (.Attribute e "items" apos) [] [] cpos) (tI G F W (mItI ma)) := by
  refine PI_imp (pi_items ha hbase hline) fun σ H R ⟨ρ, S, ls, T, h⟩ => ?_
  refine tE_bind T h fun v S1 ρ1 H1 x h1 x1 T1 r1 => ?_
  split at h1
  · rename_i i
    unfold RV at r1
    obtain ⟨a, hp, rfl⟩ := r1
    split at h1
    · rename_i kvs q3
      obtain ⟨o, ps, e1, _⟩ := T1.rel.obj i a _ hp (ldkAt_get q3)
      exact ⟨a, o, ps, rfl, e1, h1 ρ1 H1 _ x1 T1 (ri_di hp e1)⟩
    · exact h1.elim
  · exact h1.elim
end
end Sh

end

noncomputable section
namespace Sh
open PySem PySem.Spec PyProof.Rows L2 LamX He
section
variable {X : Cx} {G : Gd} {W : WX} {F : Fm} {e a b c tg iter : Expr} {pos : Pos} {ma mb : EM}
/-! ### name = {k: v for ..} -/
theorem ps_setDcZ {i : Nat} {y : Str} {py : Pos} {kx vx : Expr} {ifs : List Expr} {scope : Scope} {own : List (Str × Nat)} {spos : Pos} {wi : TI} {g : TG} {tt : TT} {tk tv : TE} {uN : HO} (hn : uN = .dK [] ∨ uN = .dT []) (hu : X.A.units + 1 < cLine) (hcb : CBx X) (hc : X.calm = true) (hN : X.N.Nodup) (hy : X.N[i]? = some y) (hyl : X.env.scope.names.lookup y = some .local)
    (hsw : swapsWith (.DictComp kx vx [⟨tg, iter, ifs, 0⟩] scope pos) (some (.Name y py)) spos.line X.env = pure true) (hi : PI X tg iter wi) (ok : BlkOk X.N X.env.scope scope own)
    (hg : ∀ (s : Shared) (H : Hp) (L : Addr) (cl : List (Str × Addr)) (fp : List Addr), CellsOut X cl → PG (X.blk s H scope (compEnvC scope cl L X.env) fp) tg g)
    (ht : ∀ (s : Shared) (H : Hp) (L : Addr) (cl : List (Str × Addr)) (fp : List Addr), CellsOut X cl → PTs (X.blk s H scope (compEnvC scope cl L X.env) fp) ifs tt)
    (hk : ∀ (s : Shared) (H : Hp) (L : Addr) (cl : List (Str × Addr)) (fp : List Addr), CellsOut X cl → PE (X.blk s H scope (compEnvC scope cl L X.env) fp) kx tk)
    (hv : ∀ (s : Shared) (H : Hp) (L : Addr) (cl : List (Str × Addr)) (fp : List Addr), CellsOut X cl → PE (X.blk s H scope (compEnvC scope cl L X.env) fp) vx tv) (hs : ∀ x, foldedSetIterable iter X.env x = pure x) :
    PS X (.Assign [.Name y py] (.DictComp kx vx [⟨tg, iter, ifs, 0⟩] scope pos) spos) (tAsg (tCz X scope wi g tt uN (elD tk tv) (own.map (·.2))) (gName i)) := by
  refine ⟨fun pins s σ H D I h =>
        ?_⟩
  rw
        [exec_Assign_Name_used _ _ _ _ hsw]
  refine wpAny_bind
        (wpAny_standAt (wpAny_bind ?_))
  show wpAny _ X.A (do let _ ← comprehension (.DictComp kx vx [⟨tg, iter, ifs, 0⟩] scope pos) scope X.env (firstIterPos [⟨tg, iter, ifs, 0⟩] pos) newDict false (eval iter X.env) (some (assign (.Name y py) X.env))) _ _ s
  have h : tCz X scope wi g tt uN (elD tk tv) (own.map (·.2)) σ H (fun x H1 => gName i x σ H1 D.nx) := h
  refine wpAny_bind (thn (cz_core (Qf := fun _ s' => SP X pins D .next s') hcb hc hN I hi ok hg ht (dc_kind hn) (fun s H L cl fp out => dc_el hu (hk s H L cl fp out) (hv s H L cl fp out)) hs h fun DL L s' m H' I' q hm f => ?_) fun _ s' hq => wpAny_pure (wpAny_pure hq))
  show wpAny _ _ (assign (.Name y py) X.env (.ref DL)) _ _ _
  refine wpAny_assign_Name (store_ok2 (v := V.ref DL) I' hN hy (.inl hyl) rfl (fun sT IT ⟨a, sb, ha⟩ => ?_) (.inr hyl))
  obtain ⟨f0, f1, f2, f3, f4, f5⟩ :=
        f
  have apart : L ≠ a := ha.elim (fun z => by rw [z]; exact f1) fun z e => f4 y a z e.symm
  exact ⟨m, hm.sameBut sb apart, fun hh sb3 => ⟨_, H', IT.turned (t' := sT.toks) (fun b o hb e => (sb3.2 b hb).trans e) f0 f1 f3 f4 f5, q⟩⟩
def sOrB (m n : SM) : SM := fun ls S => orBad (m ls S) (n ls S)
theorem ms_orB {st : Stmt} {m n : SM} (h1 : PS X st (tS G F W m)) (h2 : PS X st (tS G F W n)) : PS X st (tS G F W (sOrB m n)) := ⟨fun pins s σ H D I ⟨ρ, S, ls, T, h⟩ =>
  (orBad_sat h).elim (fun h => h1.run pins s σ H D I ⟨ρ, S, ls, T, h⟩) fun h => h2.run pins s σ H D I ⟨ρ, S, ls, T, h⟩⟩
def mSetDc (i : IM) (vs cap : List Nat) (g : GM) (t : Option TM) (mk mv : EM) (j : Nat) : SM := sOrB (mAsg (mCz newDk i vs cap g t (efD mk mv)) (gSet j)) (mAsg (mCz newDt i vs cap g t (efD mk mv)) (gSet j))
theorem ms_setDc (j : Nat) {y : Str} {py : Pos} {i : IM} {g : GM} {t : Option TM} {mk mv : EM} {kx vx : Expr} {ifs : List Expr} {scope : Scope} {spos : Pos} (own : List (Str × Nat)) (cap : List Nat) (hu : X.A.units + 1 < cLine) (hcb : CBx X) (hc : X.calm = true) (hN : X.N.Nodup) (hy : X.N[j]? = some y) (hyl : X.env.scope.names.lookup y = some .local)
    (hsw : swapsWith (.DictComp kx vx [⟨tg, iter, ifs, 0⟩] scope pos) (some (.Name y py)) spos.line X.env = pure true) (hi : PI X tg iter (tI G (fm X) W i)) (ok : BlkOk X.N X.env.scope scope own)
    (hcap : ∀ (j : Nat) (n : Str), X.N[j]? = some n → scope.names.lookup n = some .free → j ∈ cap)
    (hg : ∀ (s : Shared) (H : Hp) (L : Addr) (cl : List (Str × Addr)) (fp : List Addr), CellsOut X cl → PG (X.blk s H scope (compEnvC scope cl L X.env) fp) tg (tGv G F0 (own.map (·.2)) g))
    (ht : ∀ (s : Shared) (H : Hp) (L : Addr) (cl : List (Str × Addr)) (fp : List Addr), CellsOut X cl → PTs (X.blk s H scope (compEnvC scope cl L X.env) fp) ifs (tT G F0 W0 (tYesM t)))
    (hk : ∀ (s : Shared) (H : Hp) (L : Addr) (cl : List (Str × Addr)) (fp : List Addr), CellsOut X cl → PE (X.blk s H scope (compEnvC scope cl L X.env) fp) kx (tE G F0 W0 mk))
    (hv : ∀ (s : Shared) (H : Hp) (L : Addr) (cl : List (Str × Addr)) (fp : List Addr), CellsOut X cl → PE (X.blk s H scope (compEnvC scope cl L X.env) fp) vx (tE G F0 W0 mv)) (hs : ∀ x, foldedSetIterable iter X.env x = pure x) :
    PS X (.Assign [.Name y py] (.DictComp kx vx [⟨tg, iter, ifs, 0⟩] scope pos) spos) (tS G (fm X) W (mSetDc i (own.map (·.2)) cap g t mk mv j)) := by
  have fin : ∀ {m : EM} {D : Ends} {σ : L2.St} {H : Hp}, tS G (fm X) W (mAsg m (gSet j)) D σ H → tE G (fm X) W m σ H (fun x H1 => gName j x σ H1 D.nx) := fun {m D σ H} ⟨ρ, S, ls, T, h⟩ => tE_bind T h fun v S1 ρ1 H1 x h1 x1 T1 r1 => by
    unfold gSet at h1
    cases q : Nat.blt j ls.length with
    | false => rw [q] at h1; exact h1.elim
    | true =>
      rw [q] at h1
      exact h1 ρ1 H1 _ x1 (T1.set (Nat.le_of_ble_eq_true q) r1)
  refine ms_orB (PS_imp (ps_setDcZ (.inl rfl) hu hcb hc hN hy hyl hsw hi ok hg ht hk hv hs) fun D σ H h => ?_) (PS_imp (ps_setDcZ (.inr rfl) hu hcb hc hN hy hyl hsw hi ok hg ht hk hv hs) fun D σ H h => ?_)
  · exact cz_read newD_rel el_dict own cap hN hcap (fin h)
  · exact cz_read newT_rel el_dict own cap hN hcap (fin h)
/-! ### a test: a if t else b -/
def mTif (t m n : TM) : TM := fun ls S => (t ls S).bind fun k S1 => match k with
  | true => m ls S1
  | false => n ls S1
theorem mt_ifE {t m n : TM} (hc : PT X c (tT G F W t)) (ha : PT X a (tT G F W m)) (hb : PT X b (tT G F W n)) : PT X (.IfExp c a b pos) (tT G F W (mTif t m n)) := by
  refine ⟨fun pins s σ H Q I ⟨ρ, S, ls, T, h⟩ => ?_⟩
  show wpAny _ _ (do
    let k ← isTrue c X.env (eval c X.env)
    if k then isTrue a X.env (eval a X.env) else isTrue b X.env (eval b X.env)) _ _ s
  have ht : tT G F W t σ H (fun k H1 => ∃ ρ1 S1, Stt G F ρ1 S1 ls σ H1 ∧ Ext ρ H ρ1 H1 ∧ ((match k with
      | true => m ls S1
      | false => n ls S1).Sat (PostB G F ρ ls σ H Q) (PostX G F W ρ H))) :=
    ⟨ρ, S, ls, T, Out.sat_mono (fun k S1 z ρ1 H1 x1 T1 => ⟨ρ1, S1, T1, x1, z⟩) (fun _ _ _ z => z) (Out.sat_bind.mp h)⟩
  refine wpAny_bind (thn (hc.run pins s σ H _ I ht) fun k s1 ⟨H1, I1, ρ1, S1, T1, x1, z⟩ => ?_)
  cases k with
  | true =>
    rw [if_pos rfl]
    exact ha.run pins s1 σ H1 Q I1 ⟨ρ1, S1, ls, T1, Out.sat_mono (fun _ _ z => z.ext x1) (fun _ _ _ z => z.ext x1) z⟩
  | false =>
    rw
          [if_neg Bool.false_ne_true]
    exact hb.run pins s1 σ H1 Q I1 ⟨ρ1, S1, ls, T1, Out.sat_mono (fun _ _ z => z.ext x1) (fun _ _ _ z => z.ext x1) z⟩
end
end Sh

end

noncomputable section
namespace Sh
open PySem PySem.Spec PyProof.Rows L2 LamX He
/-! ### a built-in, called by keywords too -/
def CallSK (G : Gd) (F : Fm) (W : WX) (r : List V → List V → Hp → VK → Prop) (f : List AV → List AV → Sto → Out AV) : Prop := ∀ (ρ : List Addr) (S : Sto) (ls : Lo) (σ : L2.St) (H : Hp) (xs ys : List AV) (vs ws : List V) (Q : VK), Stt G F ρ S ls σ H → RVs G ρ H xs vs → RVs G ρ H ys ws →
  (f xs ys S).Sat (PostV G F ρ ls σ H Q) (PostX G F W ρ H) → r vs ws H Q
def mCallB (f : List AV → List AV → Sto → Out AV) (m n : AM) : EM := fun ls S => (m ls S).bind fun xs S1 => (n ls S1).bind fun ys S2 => f xs ys S2
section
variable {X : Cx} {G : Gd} {W : WX} {F : Fm} {e : Expr} {es : List Expr} {kws : List Keyword} {pos : Pos}
theorem me_callBK {x : Str} {id : String} {ks : List Str} {r : List V → List V → Hp → VK → Prop} {f : List AV → List AV → Sto → Out AV} {m n : AM} {p : Pos} (hc : CallRK X (.builtin id) ks r) (hs : CallSK G F W r f) (hm : X.mg x = none) (hv : bootBuiltins x = some (.builtin id)) (ha : PA X (e :: es) (tA G F W m)) (hkw : PK X kws (tA G F W n)) (hks : kwNm kws = some ks) (hg : Gl X x)
    (hn : x ≠ "__name__") (hdb : (x == ("__debug__" : Str)) = false) (he : starEach (e :: es) X.env = (false, eval e X.env) :: starEach es X.env) (hpl : (backTo pos (starEach es X.env)).any (·.1) = false) :
    PE X (.Call (.Name x p) (e :: es) kws pos) (tE G F W (mCallB f m n)) := by
  obtain ⟨k1, k2, k3⟩ := kwNm_ok (env := X.env) (pos := pos) hks
  have he' : backTo pos (starEach (e :: es) X.env) = (false, eval e X.env) :: backTo pos (starEach es X.env) := by rw [he]; rfl
  refine PE_imp (pe_callBK hc hg hm hv ha hkw hn hdb he' (by rw [he', List.any_cons, hpl]; rfl) k1 k3 k2) fun σ H Q ⟨ρ, S, ls, T, h⟩ => ?_
  refine tA_bind T h fun vs S1 ρ1 H1 xs h1 x1 T1 r1 => ?_
  refine tA_bind T1 h1 fun ws S2 ρ2 H2 ys h2 x2 T2 r2 => ?_
  exact hs ρ2 S2 ls σ H2 _ _ _ _ Q T2 (r1.mono x2 vs) r2 (Out.sat_mono (fun _ _ z => z.ext (x1.trans x2)) (fun _ _ _ z => z) h2)
end
/-! ### sorted(xs, key=f) of no items: f is not called -/
def rSortN (K : PySem.W.Frag) : List V → List V → Hp → VK → Prop := fun vs zs H Q => ∃ a q, vs = [V.ref a] ∧ zs = [V.ref q] ∧ SqL K H a [] ∧ ∀ p, H p = none → Q (.ref p) (upd H p (.lst []))
theorem cr_sortN {X : Cx} : CallRK X (.builtin "sorted") [Str.ofString "key"] (rSortN X.K) := by
  intro
        pins s σ H vs zs us ws Q I r rz h
  obtain ⟨a, q, rfl, rfl, hs, k⟩ := h
  obtain rfl := Vals.ref1 r
  obtain ⟨w1, rfl, e1⟩ :=
        vals1 rz
  obtain rfl : w1 = Value.ref q := e1
  obtain ⟨its, rv, hl, hz⟩ :=
        I.list hs
  cases rv
  refine PySem.W.sorted_key_data (β := Unit) (R := fun _ _ => True) (k := fun _ => PyData.none) (b := false) (vs := []) (bs := []) (f := .ref q) hl.isList .nil (fun d hd => by cases hd) (.inr fun d hd => by cases hd) (Nat.zero_le _) (fun x hx => by cases hx) (PyProof.Rows.ksk_s1 _ _) (fun _ => PyProof.Rows.ksk_l1 _ _) (fun _ => PyProof.Rows.ksk_t1 _ _) (fun v x _ hx => by cases hx) fun out c h' tk keep fr hat hl _ => ?_
  have e : out = [] := List.eq_nil_of_length_eq_zero hl
  subst e
  exact ⟨.ref _, upd H (s.heap.objs.size + 1) (.lst []), I.laid (t' := tk) keep (Nat.le_succ _) ⟨Nat.zero_le _, [], c, .nil, hat⟩, rfl, k _ (I.hok.fresh (Nat.le_succ _))⟩

/-! ### sorted(d), sorted(d, reverse=b): the keys, ints -/
theorem cr_sortedRevD {X : Cx} {b : Bool} (hcalm : X.calm = true) : CallRK X (.builtin "sorted") [Str.ofString "reverse"] (fun xs zs H Q => ∃ (a : Addr) (kvs : List (Key × V)) (ks : List Int), xs = [.ref a] ∧ zs = [.bl b] ∧ Rd H a (.dK kvs) ∧ kvs.map (·.1) = ks.map Sum.inl ∧ ks.length < 64 ∧
    ∀ (ys : List Int) (p : Addr), ys.Perm ks → OrdB b ys → H p = none → Q (.ref p) (upd H p (.lst (ys.map V.int)))) := by
  intro pins s σ H xs zs us ws Q I r rz q
  obtain ⟨a, kvs, ks, ex, ez, hd, hks, h64, q⟩ := q
  subst ex ez
  obtain ⟨u, eu, rx⟩ := vals1 r
  subst eu
  cases rx
  obtain ⟨w1, rfl, e1⟩ :=
        vals1 rz
  obtain rfl : w1 = Value.bool b :=
        e1
  obtain ⟨z, lo, vs, rel, dd⟩ :=
        dk_rd I.hok hd
  obtain ⟨ep, hat⟩ := dd.dictAt
  have hkeys : vs.map (·.1) = ks.map Sum.inl :=
        rel.keys.symm.trans hks
  have hl : vs.length = ks.length :=
        by
    have e :=
          congrArg List.length hkeys
    rw [List.length_map,
          List.length_map] at e
    exact e
  have h16 : vs.length ≤ sizeLine :=
        by rw [hl, sizeLine_eq]; omega
  refine call_function_entry_kw PyProof.Rows.kind_sorted PyProof.Rows.plain_sorted PyProof.Rows.entry_sorted (PyProof.Rows.args_sorted_rev _ _) ?_
  unfold Builtin.«sorted»
  refine wpAny_bind (m :=
        checkCount "sorted" 1 1 _) (wpAny_pure ?_)
  refine wpAny_bind (PySem.W.kdu_collect (A :=
        X.A.in1) (PySem.W.kdl_dict (knd := mixKind X.prog X.w) (kvs := vs) (ep := ep) lo) (I.ok.hd hcalm) hat h16 fun h' tk acc hk hacc => ?_)
  have hal : acc.toList.length = ks.length :=
        by rw [Array.length_toList, hacc.1, hl]
  have hS : IntsAre acc.toList ks :=
        ints_each hal fun j v e => by
    obtain ⟨k, x, e1, e2⟩ :=
          hacc.2 j v (by rw [← Array.getElem?_toList]; exact e)
    have e3 : (vs.map (·.1))[j]? = some k :=
          by rw [List.getElem?_map, e1]; rfl
    rw [hkeys,
          List.getElem?_map] at e3
    cases e4 : ks[j]? with
    | none =>
          rw [e4] at e3; cases e3
    | some y =>
      rw [e4] at e3
      have e5 : Sum.inl y = k :=
            Option.some.inj e3
      subst e5
      rcases keyIs_shape (show keyIs (Sum.inl y) v = true from e2) with ⟨i,
            t, ek, ev⟩ | ⟨z, t, ek, ev⟩
      · cases ek
        exact ⟨y, t, rfl, ev⟩
      · cases ek
  have I1 : Inv X pins σ H { s with heap := h', toks := tk } :=
        I.kept hk
  refine wpAny_bind
        (wpAny_newList ?_ (by rw [hal, sizeLine_eq]; omega))
  have hoL : (h'.push (seqObj "list" acc.toList.toArray 0)).get? h'.objs.size = some (seqObj "list" acc.toList.toArray 0) :=
        Heap.get?_push_size _ rfl
  show wpAny
        _ _ _ _ _ { s with heap := h'.push (seqObj "list" acc.toList.toArray 0), toks := tk }
  refine wpAny_bind (wpAny_holding (wpAny_call_entry_kw PyProof.Rows.slot_list_sort ⟨_, hoL, rfl⟩ PyProof.Rows.entry_list_sort ?_ (PyProof.Rows.args_list_sort_rev _ _)))
  refine SrtR.list_sort_ordR (s := { s with heap := h'.push (seqObj "list" acc.toList.toArray 0), toks := tk }) SrtO.swo_int hoL (by rw [hal, sizeLine_eq]; omega) (fun h2 => SrtO.ints_sortable hS h2) fun out h1 h2 => ⟨_, rfl, ?_⟩
  obtain ⟨ys, g1, g2, g3⟩ := SrtR.ints_outR hS h1 h2
  obtain ⟨e', he'⟩ := PyProof.Rows.sortedHeap_at (vs := acc.toList) (out := if b = true then out.toArray.reverse else out.toArray) hoL
  have hlen : (ys.map V.int).length ≤ sizeLine :=
        by
    rw [List.length_map,
          g2.length_eq]
    exact Nat.le_trans
          (Nat.le_of_lt h64) (by decide)
  refine wpAny_pure ⟨_, rfl, .ref h'.objs.size, upd H h'.objs.size (.lst (ys.map V.int)), I1.laid (t' :=
        tk) (fun b u e => ?_) (Nat.le_refl _)
    (show ObjOk X.prog X.w _ _ _ (.lst (ys.map V.int)) from ⟨hlen, _, e', vals_of_ints g1, by rw [Array.toArray_toList]; exact he'⟩), rfl, q ys _ g2 g3 (I1.hok.fresh (Nat.le_refl _))⟩
  have hb : b < h'.objs.size :=
        Heap.lt_size e
  rw [PyProof.Rows.sortedHeap_old
        (Nat.ne_of_lt hb) (by rw [size_push']; exact Nat.lt_succ_of_lt hb)]
  exact
        Heap.get?_push_of_some _ e
def keyI : AV × AV → Option Int := fun p => asI p.1
theorem keyI_ok {G : Gd} {ρ : List Addr} {H : Hp} : ∀ {kvs : List (AV × AV)} {ps : List (Key × V)} {ns : List Int}, mapO keyI kvs = some ns → KR G ρ H kvs ps → ps.map (·.1) = ns.map Sum.inl
  | [], ps, ns, h, kr => by
    unfold mapO at h
    cases h
    unfold KR at kr
    subst kr
    rfl
  | (a, b) :: r, ps, ns, h, kr => by
    unfold mapO at h
    unfold KR at kr
    obtain ⟨key, v, qs, rfl, hk, hv, hr⟩ := kr
    cases a with
    | int i =>
      dsimp only [keyI, asI] at h
      cases q : mapO keyI r with
      | none => rw [q] at h; cases h
      | some ms =>
        rw [q] at h
        cases h
        cases hk
        rw [List.map_cons, List.map_cons, keyI_ok q hr]
    | _ => cases h
def srtI (b : Bool) (ns : List Int) : List Int := match b with
  | true => (srtC (fun a b => decide (a ≤ b)) ns).reverse
  | false => srtC (fun a b => decide (a ≤ b)) ns
theorem srtI_eq {b : Bool} {ys ns : List Int} (hp : ys.Perm ns) (h : OrdB b ys) : ys = srtI b ns := by
  cases b with
  | false => exact List.Perm.eq_of_pairwise (le := (· ≤ ·)) (fun a b _ _ h1 h2 => Int.le_antisymm h1 h2) h (srtC_pw (f := id)) (hp.trans srtC_perm.symm)
  | true =>
    refine List.Perm.eq_of_pairwise (le := (· ≥ ·)) (fun a b _ _ h1 h2 => Int.le_antisymm h2 h1) h ?_ (hp.trans (srtC_perm.symm.trans (List.reverse_perm _).symm))
    show (srtC (fun a b => decide (a ≤ b)) ns).reverse.Pairwise (· ≥ ·)
    rw [List.pairwise_reverse]
    exact srtC_pw (f := id)
def intsD (S : Sto) (x : AV) : Option (List Int) := match dctAt S x with
  | some (_, kvs) => match mapO keyI kvs with
    | some ns => match Nat.blt ns.length 64 with
      | true => some ns
      | false => none
    | none => none
  | none => none
abbrev rSortedDI : List V → Hp → VK → Prop := fun xs H Q => ∃ (a : Addr) (kvs : List (Key × V)) (ks : List Int), xs = [.ref a] ∧ Rd H a (.dK kvs) ∧ kvs.map (·.1) = ks.map Sum.inl ∧ ks.length < 64 ∧
    ∀ (ys : List Int) (p : Addr), ys.Perm ks → ys.Pairwise (· ≤ ·) → H p = none → Q (.ref p) (upd H p (.lst (ys.map V.int)))
abbrev rSortedDIr (b : Bool) : List V → List V → Hp → VK → Prop := fun xs zs H Q => ∃ (a : Addr) (kvs : List (Key × V)) (ks : List Int), xs = [.ref a] ∧ zs = [.bl b] ∧ Rd H a (.dK kvs) ∧ kvs.map (·.1) = ks.map Sum.inl ∧ ks.length < 64 ∧
    ∀ (ys : List Int) (p : Addr), ys.Perm ks → OrdB b ys → H p = none → Q (.ref p) (upd H p (.lst (ys.map V.int)))
theorem intsD_ok {G : Gd} {F : Fm} {ρ : List Addr} {S : Sto} {ls : Lo} {σ : L2.St} {H : Hp} {x : AV} {v : V} {ns : List Int} (T : Stt G F ρ S ls σ H) (r : RV G ρ H x v) (h : intsD S x = some ns) :
    ∃ (a : Addr) (kvs : List (Key × V)), v = .ref a ∧ Rd H a (.dK kvs) ∧ kvs.map (·.1) = ns.map Sum.inl ∧ ns.length < 64 := by
  unfold intsD at h
  split at h
  · rename_i i kvs q1
    split at h
    · rename_i ms q2
      split at h
      · rename_i q3
        cases h
        obtain ⟨a, ps, rfl, rfl, ha, hg, e, kr⟩ := dctAt_ok T r q1
        exact ⟨a, ps, rfl, .inl e, keyI_ok q2 kr, Nat.le_of_ble_eq_true q3⟩
      · cases h
    · cases h
  · cases h
def rSrtA (K : PySem.W.Frag) : List V → Hp → VK → Prop := fun vs H Q => rSrt K vs H Q ∨ rSortedDI vs H Q
def fSortedA : List AV → Sto → Out AV := fun xs S => match xs with
  | [x] => match intsD S x with
    | some ns => newL ((srtI false ns).map .int) S
    | none => fSorted [x] S
  | _ => .bad
section
variable {X : Cx} {G : Gd} {W : WX} {F : Fm} {e : Expr} {es : List Expr} {kws : List Keyword} {pos : Pos}
theorem cr_srtA (hc : X.calm = true) : CallR X (.builtin "sorted") (rSrtA X.K) := fun pins s σ H xs us Q I r h => h.elim (fun h => cr_srt pins s σ H xs us Q I r h) fun h => call_sortedDI hc pins s σ H xs us Q I r h
theorem cs_sortedA (hk : X.K = G.K) : CallS G F W (rSrtA X.K) fSortedA := fun ρ S ls σ H xs vs Q T r h => by
  unfold fSortedA at h
  split at h
  · rename_i x
    split at h
    · rename_i ns q
      obtain ⟨v, rfl, rv⟩ := rvs1 r
      obtain ⟨a, kvs, rfl, h1, h2, h3⟩ := intsD_ok T rv q
      refine .inr ⟨a, kvs, ns, rfl, h1, h2, h3, fun ys p hp ho hl => ?_⟩
      rw [srtI_eq (b := false) hp ho]
      obtain ⟨_, k2⟩ := newL_ok (Q := Q) T (rvs_ints _) h
      obtain ⟨ρ', S', T2, x2, q, r⟩ := k2 p hl
      exact q ρ' _ x2 T2 _ r
    · exact .inl (cs_sorted hk ρ S ls σ H _ vs Q T r h)
  · exact h.elim
/-- sorted(x, reverse=b) -/
def fSortR (b : Bool) : List AV → List AV → Sto → Out AV := fun xs ys S => match xs, ys with
  | [x], [.bl c] => match c == b with
    | true => match intsD S x with
      | some ns => newL ((srtI b ns).map .int) S
      | none => match lstOf S x with
        | some zs => match mapO asI zs with
          | some ns => newL ((srtI b ns).map .int) S
          | none => .bad
        | none => .bad
    | false => .bad
  | _, _ => .bad
def rSortRA (K : PySem.W.Frag) (b : Bool) : List V → List V → Hp → VK → Prop := fun vs zs H Q => rSortedKw K b [.bl b] vs zs H Q ∨ rSortedDIr b vs zs H Q
theorem cr_sortRA {b : Bool} (hc : X.calm = true) : CallRK X (.builtin "sorted") [Str.ofString "reverse"] (rSortRA X.K b) := fun pins s σ H xs zs us ws Q I r rz h =>
  h.elim (fun h => cr_sortedRev pins s σ H xs zs us ws Q I r rz h) fun h => cr_sortedRevD hc pins s σ H xs zs us ws Q I r rz h
theorem cs_sortRA {b : Bool} (hk : X.K = G.K) : CallSK G F W (rSortRA X.K b) (fSortR b) := fun ρ S ls σ H xs ys vs ws Q T r rz h => by
  unfold fSortR at h
  split at h
  · rename_i x c
    split at h
    · rename_i q0
      have e0 := of_decide_eq_true q0
      subst e0
      obtain ⟨w, rfl, rw_⟩ := rvs1 rz
      unfold RV at rw_
      subst rw_
      obtain ⟨v, rfl, rv⟩ := rvs1 r
      split at h
      · rename_i ns q
        obtain ⟨a, kvs, rfl, h1, h2, h3⟩ := intsD_ok T rv q
        refine .inr ⟨a, kvs, ns, rfl, rfl, h1, h2, h3, fun ys p hp ho hl => ?_⟩
        rw [srtI_eq hp ho]
        obtain ⟨_, k2⟩ := newL_ok (Q := Q) T (rvs_ints _) h
        obtain ⟨ρ', S', T2, x2, q, r⟩ := k2 p hl
        exact q ρ' _ x2 T2 _ r
      · split at h
        · rename_i zs q2
          obtain ⟨a, us, rfl, e, rs⟩ := lstOf_ok T rv q2
          split at h
          · rename_i ns q3
            have e3 := asI_all q3 rs
            subst e3
            refine .inl ⟨a, ns, rfl, rfl, SqL.of e, fun ys p hp ho hl => ?_⟩
            rw [srtI_eq hp ho]
            obtain ⟨_, k2⟩ := newL_ok (Q := Q) T (rvs_ints _) h
            obtain ⟨ρ', S', T2, x2, q, r⟩ := k2 p hl
            exact q ρ' _ x2 T2 _ r
          · exact h.elim
        · exact h.elim
    · exact h.elim
  · exact h.elim
/-- sorted([], key=f) -/
def fSortK : List AV → List AV → Sto → Out AV := fun xs ys S => match xs, ys with
  | [x], [.clo _ _] => match lstOf S x with
    | some [] => newL [] S
    | _ => .bad
  | _, _ => .bad
theorem cs_sortK (hk : X.K = G.K) : CallSK G F W (rSortN X.K) fSortK := fun ρ S ls σ H xs ys vs ws Q T r rz h => by
  unfold fSortK at h
  split at h
  · rename_i x c ks
    split at h
    · rename_i q
      obtain ⟨w, rfl, rw_⟩ := rvs1 rz
      unfold RV at rw_
      obtain ⟨f', c', cl, rfl, _⟩ := rw_
      obtain ⟨v, rfl, rv⟩ := rvs1 r
      obtain ⟨a, us, rfl, e, rs⟩ := lstOf_ok T rv q
      unfold RVs at rs
      subst rs
      refine ⟨a, f', rfl, rfl, SqL.of e, fun p hl => ?_⟩
      obtain ⟨_, k2⟩ := newL_ok (Q := Q) (xs := []) (vs := []) T (by unfold RVs; rfl) h
      obtain ⟨ρ', S', T2, x2, q, r⟩ := k2 p hl
      exact q ρ' _ x2 T2 _ r
    · exact h.elim
  · exact h.elim
/-! ### list(range(..)) -/
def mLRg1 (m : EM) : EM := fun ls S => (m ls S).bind fun x S1 => match x with
  | .int j => match decide (0 ≤ j) && decide (j ≤ 1000000) with
    | true => newL ((List.range j.toNat).map fun i => .int ((i : Nat) : Int)) S1
    | false => .bad
  | _ => .bad
theorem rvs_range {ρ : List Addr} {H : Hp} {j : Int} : RVs G ρ H ((List.range j.toNat).map fun i => .int ((i : Nat) : Int)) (rgV 0 j) := by
  have e1 : (List.range j.toNat).map (fun i => AV.int ((i : Nat) : Int)) = ((List.range j.toNat).map fun i => ((i : Nat) : Int)).map .int := by rw [List.map_map]; rfl
  have e2 : rgV 0 j = ((List.range j.toNat).map fun i => ((i : Nat) : Int)).map V.int := by
    unfold rgV
    rw [List.map_map, Int.sub_zero]
    refine List.map_congr_left fun i _ =>
          ?_
    show V.int (0 + (i : Nat)) = V.int (i : Nat)
    rw [Int.zero_add]
  rw [e1, e2]
  exact rvs_ints _
theorem me_lRg1 {p pr pp : Pos} {m : EM} (hc : X.calm = true) (hg : Gl X "list") (hm : X.mg "list" = none) (hg2 : Gl X "range") (hm2 : X.mg "range" = none) (ha : PE X e (tE G F W m)) (na : starEach [e] X.env = (false, eval e X.env) :: starEach [] X.env)
    (na2 : starEach [.Call (.Name "range" pr) [e] [] pp] X.env = (false, eval (.Call (.Name "range" pr) [e] [] pp) X.env) :: starEach [] X.env) :
    PE X (.Call (.Name "list" p) [.Call (.Name "range" pr) [e] [] pp] [] pos) (tE G F W (mLRg1 m)) := by
  refine PE_imp (pe_listRg hc hg hm (prg_1 hg2 hm2 ha na) na2) fun σ H Q ⟨ρ, S, ls, T, h⟩ => ?_
  refine tE_bind T h fun v S1 ρ1 H1 x h1 x1 T1 r1 => ?_
  split at h1
  · rename_i j
    unfold RV at r1
    subst r1
    cases q : (decide (0 ≤ j) && decide (j ≤ 1000000)) with
    | false => rw [q] at h1; exact h1.elim
    | true =>
      rw [q] at h1
      obtain ⟨b1, b2⟩ := ba q
      have b1 := of_decide_eq_true b1
      have b2 := of_decide_eq_true b2
      refine ⟨j, rfl, RgOk.of_le (by omega) (by omega) (by omega) (by omega), fun p hl => ?_⟩
      obtain ⟨_, k2⟩ := newL_ok (Q := Q) T1 rvs_range h1
      obtain ⟨ρ', S', T2, x2, q, r⟩ := k2 p hl
      exact q ρ' _ (x1.trans x2) T2 _ r
  · exact h1.elim
end
/-! ### a, b, .. = a tuple or a list of that length -/
def gTupL (n : Nat) (g : GsM) : GM := fun a ls S => match a with
  | .ref i => match lstAt S i with
    | some xs => match Nat.beq xs.length n with
      | true => g xs ls S
      | false => .bad
    | none => .bad
  | _ => gTupM n g a ls S
section
variable {X : Cx} {G : Gd} {W : WX} {F : Fm} {es : List Expr} {pos : Pos}
theorem mg_tupL {g : GsM} {k : Nat} (n : Nat) (hk : X.K = G.K) (hc : X.calm = true) (h : PGs X es (tGs G F g)) (hn : (assignEach es X.env).length = n := by rfl) (hst : (assignEach es X.env).findIdx? (·.1) = none := by rfl) :
    PG X (.Tuple es k pos) (tGm G F (gTupL n g)) := by
  refine ⟨fun pins s σ H v u Q I rr ⟨ρ, S, ls, a, T, r, h2⟩ => ?_⟩
  unfold gTupL at h2
  split at h2
  · rename_i i
    split at h2
    · rename_i xs q
      unfold RV at r
      obtain ⟨p, hp, rfl⟩ := r
      obtain ⟨vs, e1, r1⟩ := lst_of T hp q
      cases q2 : Nat.beq xs.length n with
      | false => rw [q2] at h2; exact h2.elim
      | true =>
        rw [q2] at h2
        exact (pg_unl hc h hn hst).run pins s σ H _ u Q I rr ⟨p, vs, rfl, SqL.of e1, (RVs_len r1).trans (Nat.eq_of_beq_eq_true q2), ρ, S, ls, xs, T, r1, h2⟩
    · exact h2.elim
  · exact (mg_tup n hk hc h hn hst).run pins s σ H v u Q I rr ⟨ρ, S, ls, a, T, r, h2⟩
theorem mgv_tupL {vs : List Nat} {g : GsM} {k : Nat} (n : Nat) (hk : X.K = G.K) (hc : X.calm = true) (h : PGs X es (tGsv G F vs g)) (hn : (assignEach es X.env).length = n := by rfl) (hst : (assignEach es X.env).findIdx? (·.1) = none := by rfl) :
    PG X (.Tuple es k pos) (tGv G F vs (gTupL n g)) := by
  refine ⟨fun pins s σ H v u Q I rr ⟨ρ, S, ls, a, T, r, h2⟩ => ?_⟩
  unfold gTupL at h2
  split at h2
  · rename_i i
    split at h2
    · rename_i xs q
      unfold RV at r
      obtain ⟨p, hp, rfl⟩ := r
      obtain ⟨ws, e1, r1⟩ := lst_of T hp q
      cases q2 : Nat.beq xs.length n with
      | false => rw [q2] at h2; exact h2.elim
      | true =>
        rw [q2] at h2
        exact (pg_unl hc h hn hst).run pins s σ H _ u Q I rr ⟨p, ws, rfl, SqL.of e1, (RVs_len r1).trans (Nat.eq_of_beq_eq_true q2), ρ, S, ls, xs, T, r1, h2⟩
    · exact h2.elim
  · exact (mgv_tup n hk hc h hn hst).run pins s σ H v u Q I rr ⟨ρ, S, ls, a, T, r, h2⟩
end
/-! ### x in xs: data of any depth -/
def rInX (K : PySem.W.Frag) (neg : Bool) : R2 := fun x y H Q => ∃ d e ds, Dp K H x d ∧ Dp K H y e ∧ (e = .list ds ∨ e = .tuple ds) ∧ SeqAt.shaped d = true ∧ SeqAt.shaped e = true ∧ Q (.bl (if neg then !ds.any (fun z => PyData.eqv z d) else ds.any fun z => PyData.eqv z d)) H
theorem room_deep {A : Around} {d : PyData} {n : Nat} (hd : SeqAt.shaped d = true) (hu : A.units + 65 < cLine) : A.units + 1 + min n d.depth < cLine := by
  unfold SeqAt.shaped at hd
  rw [Bool.and_eq_true] at hd
  have h := hd.1
  have h2 := hd.2
  first
    | (have h := of_decide_eq_true h; omega)
    | (have h := of_decide_eq_true h2; omega)
section
variable {X : Cx} {G : Gd} {W : WX} {F : Fm} {es : List Expr} {pos : Pos}
theorem op_inX (hu : X.A.units + 65 < cLine) : OpR X (compareOp .In) (rInX X.K false) := by
  intro
        pins s σ H x y v u Q I rx ry h
  obtain ⟨d, e, ds, hd, he, ee, sd, se, q⟩ := h
  obtain ⟨as, r1⟩ :=
        Dp.reads I d x v hd rx
  rcases ee with rfl | rfl
  · obtain ⟨bs, r2⟩ := Dp.reads I (.list ds) y u he ry
    exact SeqAt.in_list_reads r2 r1 (SeqAt.canLay_of_shaped se) (SeqAt.canLay_of_shaped sd) (room_deep sd hu) ⟨.bl _, H, I, rfl, q⟩
  · obtain ⟨bs, r2⟩ := Dp.reads I (.tuple ds) y u he ry
    exact SeqAt.in_tuple_reads r2 r1 (SeqAt.canLay_of_shaped se) (SeqAt.canLay_of_shaped sd) (room_deep sd hu) ⟨.bl _, H, I, rfl, q⟩
theorem op_notInX (hu : X.A.units + 65 < cLine) : OpR X (compareOp .NotIn) (rInX X.K true) := by
  intro
        pins s σ H x y v u Q I rx ry h
  obtain ⟨d, e, ds, hd, he, ee, sd, se, q⟩ := h
  obtain ⟨as, r1⟩ :=
        Dp.reads I d x v hd rx
  rcases ee with rfl | rfl
  · obtain ⟨bs, r2⟩ := Dp.reads I (.list ds) y u he ry
    exact SeqAt.notIn_list_reads r2 r1 (SeqAt.canLay_of_shaped se) (SeqAt.canLay_of_shaped sd) (room_deep sd hu) ⟨.bl _, H, I, rfl, q⟩
  · obtain ⟨bs, r2⟩ := Dp.reads I (.tuple ds) y u he ry
    exact SeqAt.notIn_tuple_reads r2 r1 (SeqAt.canLay_of_shaped se) (SeqAt.canLay_of_shaped sd) (room_deep sd hu) ⟨.bl _, H, I, rfl, q⟩
def seqD : PyData → Option (List PyData)
  | .list ds => some ds
  | .tuple ds => some ds
  | _ => none
def fInX (neg : Bool) (x y : AV) (S : Sto) : Out AV := match toD S 60 x, toD S 60 y with
  | some d, some e => match seqD e with
    | some ds => .ok (.bl (if neg then !ds.any (fun z => dEq 61 z d) else ds.any fun z => dEq 61 z d)) S
    | none => .bad
  | _, _ => .bad
theorem any_dEq {d : PyData} : ∀ {ds : List PyData}, PyData.depthAll ds ≤ 60 → (ds.any fun z => PyData.eqv z d) = ds.any fun z => dEq 61 z d
  | [], _ => rfl
  | z :: r, h => by
    simp only [PyData.depthAll] at h
    rw [List.any_cons, List.any_cons, any_dEq (by omega), dEq_ok 61 z d (by omega)]
theorem os_inX {neg : Bool} (hk : X.K = G.K) : OpS G F W (rInX X.K neg) (fInX neg) := fun ρ S ls σ H x y v w Q T rx ry h => by
  unfold fInX at h
  split at h
  · rename_i d e q1 q2
    split at h
    · rename_i ds q3
      have a := toD_ok T 60 x d v q1 rx
      have b := toD_ok T 60 y e w q2 ry
      have a3 := a.deep
      have b3 := b.deep
      have ee : e = .list ds ∨ e = .tuple ds := by
        unfold seqD at q3
        split at q3
        · cases q3; exact .inl rfl
        · cases q3; exact .inr rfl
        · cases q3
      have b4 : PyData.depthAll ds ≤ 60 := by
        rcases ee with rfl | rfl <;> (simp only [PyData.depth] at b3; omega)
      refine ⟨d, e, ds, by rw [hk]; exact a.dp, by rw [hk]; exact b.dp, ee, ?_, ?_, ?_⟩
      · unfold SeqAt.shaped
        rw [a.lay, decide_eq_true (show d.depth ≤ 64 by omega)]
        rfl
      · unfold SeqAt.shaped
        rw [b.lay, decide_eq_true (show e.depth ≤ 64 by omega)]
        rfl
      · rw [any_dEq b4]
        exact h ρ H (Ext.refl _ _) T _ rv_bl
    · exact h.elim
  · exact h.elim
end
/-! ### d.get(k, x) of a dict of the module -/
section
variable {X : Cx} {G : Gd} {W : WX} {F : Fm} {o e f : Expr} {apos pos : Pos} {mo me mf : EM}
def tKGet2 (K : PySem.W.Frag) (d : Addr) (td ty tx : TE) : TE := fun σ H Q => td σ H fun x H1 => x = .ref d ∧ ty σ H1 fun y H2 => tx σ H2 fun z H3 => ∃ (s : Str) (r : Option Value) (v : V), y = .str s ∧ PySem.W.nsIn K d s = some r ∧ (match r with
  | some u => RelV v u
  | none => v = z) ∧ Q v H3
theorem pe_kdget2 {d : Addr} {es : Array DictEntry} {n : Nat} {td ty tx : TE} (D : KDict X.K X.w d es n) (ho : PE X o td) (he : PE X e ty) (hf : PE X f tx) (m : M2 X o "get" apos e f pos) : PE X (.Call (.Attribute o "get" apos) [e, f] [] pos) (tKGet2 X.K d td ty tx) := by
  refine ⟨fun pins s σ H Q I h =>
        ?_⟩
  refine wpAny_Call_method m.base m.few m.line PySem.F.plainAttrs_dict PySem.F.slot_dict_get PySem.F.type_dict_get (thn (ho.run pins s σ H _ I h) fun u s1 ⟨x, H1, I1, rx, ex, q1⟩ => ?_)
  subst ex
  obtain rfl : u = Value.ref d :=
        rx
  refine ⟨kd_type D I1, fun b q => ?_, ?_⟩
  · cases q
    exact ⟨_, I1.kIn _ _ D.at_, rfl⟩
  · rw [m.trees]
    refine Calls.callWith_builtin rfl (Calls.evalArgs_plain (Calls.spliced_cons (thn (he.run pins s1 σ H1 _ I1 q1) fun iv s2 ⟨y,
          H2, I2, ry, q2⟩ =>
      Calls.spliced_cons (thn (hf.run pins s2 σ H2 _ I2 q2) fun fv s3 ⟨z, H3, I3, rz, st, r, v, ey, hn, hv, q3⟩ => Calls.spliced_nil ?_))))
    subst ey
    obtain ⟨t, rfl⟩ := ry
    refine call_meetsIn PySem.F.slot_dict_get (kd_type D I3) PySem.F.entry_dict_get (PySem.F.args_dict_get_3 _ _ _) (meets_dict_get_default (strKind X.prog X.w) d (PySem.strKind_is X.prog X.w st t) D.low fv) ⟨_, PySem.W.mapOf_K (prog := X.prog) I3.kIn D.at_ D.lit, ?_⟩
    rw [PySem.W.find_K D.at_ hn]
    refine ⟨v, H3, I3.tok _, ?_, q3⟩
    cases r with
    | some u => exact hv
    | none =>
      obtain rfl : v = z := hv
      exact rz
def mKGet2 (j : Nat) (t : Tbl) (mo me mf : EM) : EM := fun ls S => (mo ls S).bind fun x S1 => match x with
  | .fn i => match Nat.beq i j with
    | true => (me ls S1).bind fun k S2 => (mf ls S2).bind fun y S3 => match k with
      | .str s => .ok ((tblL s t).getD y) S3
      | _ => .bad
    | false => .bad
  | _ => .bad
theorem me_kget2 {j : Nat} {t : Tbl} {es : Array DictEntry} {n : Nat} (hk : X.K = G.K) (D : KDict X.K X.w (G.fa j) es n) (hT : TblOk X.K (G.fa j) t) (ho : PE X o (tE G F W mo)) (he : PE X e (tE G F W me)) (hf : PE X f (tE G F W mf)) (m : M2 X o "get" apos e f pos) :
    PE X (.Call (.Attribute o "get" apos) [e, f] [] pos) (tE G F W (mKGet2 j t mo me mf)) := by
  refine PE_imp (pe_kdget2 D ho he hf m) fun σ H Q ⟨ρ, S, ls, T, h⟩ => ?_
  refine tE_bind T h fun x S1 ρ1 H1 u h1 x1 T1 r1 => ?_
  split at h1
  · rename_i i
    cases q : Nat.beq i j with
    | false => rw [q] at h1; exact h1.elim
    | true =>
      rw [q] at h1
      have e := Nat.eq_of_beq_eq_true q
      subst e
      unfold RV at r1
      refine ⟨r1, tE_bind T1 h1 fun k S2 ρ2 H2 y h2 x2 T2 r2 => tE_bind T2 h2 fun z S3 ρ3 H3 uz h3 x3 T3 r3 => ?_⟩
      split at h3
      · rename_i s
        have r2' := r2.mono x3 (.str s)
        unfold RV at r2'
        have hs := hT s
        cases q2 : tblL s t with
        | none =>
          rw [q2] at hs h3
          exact ⟨toS s, none, uz, r2', hs, rfl, h3 ρ3 H3 (x1.trans (x2.trans x3)) T3 _ r3⟩
        | some w =>
          rw [q2] at hs h3
          obtain ⟨u', hs, hv⟩ := hs
          obtain ⟨v, rx', rr⟩ := tvB_ok (G := G) hv
          exact ⟨toS s, some u', v, r2', hs, rx', h3 ρ3 H3 (x1.trans (x2.trans x3)) T3 _ (rr _ _)⟩
      · exact h3.elim
  · exact h1.elim
end
end Sh

end

noncomputable section
namespace Sh
open PySem PySem.Spec PyProof.Rows L2 LamX He
/-! ### {k: v for .. in .. for .. in ..} -/
theorem compTurnD2_out (kx vx t0 i0 t1 i1 : Expr) (ifs0 ifs1 : List Expr) (scope : Scope) (pos : Pos) (it acc : Value) (env : Env) :
    compTurn (.DictComp kx vx [⟨t0, i0, ifs0, 0⟩, ⟨t1, i1, ifs1, 0⟩] scope pos) 0 it acc env = (do
      standAt i0.pos
      match ← pyNext it with
      | none => pure (.done .next)
      | some v =>
        letOwnedTupleGo t0 it v
        assign t0 env v
        let mut ok := true
        for cc in ifs0 do
          if ok then ok ← isTrue cc env (eval cc env)
        if ok then
          let x ← eval i1 env
          standAt i1.pos
          let xx ← foldedSetIterable i1 env x
          let _ ← runOwn (.compStart (.DictComp kx vx [⟨t0, i0, ifs0, 0⟩, ⟨t1, i1, ifs1, 0⟩] scope pos) 1 (← holding [xx] (pyIter xx)) acc env) env
        again (.compLoop (.DictComp kx vx [⟨t0, i0, ifs0, 0⟩, ⟨t1, i1, ifs1, 0⟩] scope pos) 0 it acc env)) := by rfl
theorem compTurnD2_in (kx vx t0 i0 t1 i1 : Expr) (ifs0 ifs1 : List Expr) (scope : Scope) (pos : Pos) (it : Value) (D : Addr) (env : Env) :
    compTurn (.DictComp kx vx [⟨t0, i0, ifs0, 0⟩, ⟨t1, i1, ifs1, 0⟩] scope pos) 1 it (.ref D) env = (do
      standAt i1.pos
      match ← pyNext it with
      | none => pure (.done .next)
      | some v =>
        letOwnedTupleGo t1 it v
        assign t1 env v
        let mut ok := true
        for cc in ifs1 do
          if ok then ok ← isTrue cc env (eval cc env)
        if ok then
          (do
            let kv ← eval kx env
            let vv ← holding [kv]
                  (eval vx env)
            standAt
                  { kx.pos with endLine := vx.pos.endLine, endCol := vx.pos.endCol }
            holding [kv,
                  vv] (dictSet D kv vv))
        again (.compLoop (.DictComp kx vx [⟨t0, i0, ifs0, 0⟩, ⟨t1, i1, ifs1, 0⟩] scope pos) 1 it (.ref D) env)) := by rfl
section
variable {prog : Program} {w : World} {A : Around} {R : Result → Shared → Prop} {s : Shared} {kx vx t0 i0 t1 i1 : Expr} {ifs0 ifs1 : List Expr} {scope : Scope} {pos : Pos} {it acc : Value} {D : Addr} {env : Env}
theorem compLoopD2_out (hs : ∀ x, foldedSetIterable i1 env x = pure x) (I : Nat → Shared → Prop)
    (turn : ∀ n s, I n s → wpAny (model prog w) A (pyNext it) (fun r s₁ =>
          match r with
      | none => R (.ok .next) s₁
      | some v =>
            wpAny (model prog w) A (letOwnedTupleGo t0 it v) (fun _ s₁' => wpAny (model prog w) A (assign t0 env v) (fun _ s₂ =>
          wpAny (model prog w) A (forIn ifs0 true fun c r =>
                if r = true then do let ok ← isTrue c env (eval c env); pure (ForInStep.yield ok) else pure (ForInStep.yield r)) (fun ok s₃ =>
            if ok = true then wpAny (model prog w) A (eval i1 env) (fun x s₄ =>
                  wpAny (model prog w) A (pyIter x) (fun it1 s₅ =>
              codeAny (model prog w) A (.compStart (.DictComp kx vx [⟨t0, i0, ifs0, 0⟩, ⟨t1, i1, ifs1, 0⟩] scope pos) 1 it1 acc env) (fun r s' => match r with
                | .ok _ =>
                      ∃ m, m < n ∧ I m s'
                | .error _ =>
                      False) s₅) (notedBy (model prog w) A env fun e s' => R (.error e) s') s₄) (notedBy (model prog w) A env fun e s' => R (.error e) s') s₃
            else ∃ m, m < n ∧ I m s₃) (notedBy (model prog w) A env fun e s' =>
                  R (.error e) s') s₂) (notedBy (model prog w) A env fun e s' => R (.error e) s') s₁') (notedBy (model prog w) A env fun e s' => R (.error e) s') s₁) (notedBy (model prog w) A env fun e s' => R (.error e) s') s)
    (n : Nat) (h : I n s) :
    codeAny (model prog w) A (.compLoop (.DictComp kx vx [⟨t0, i0, ifs0, 0⟩, ⟨t1, i1, ifs1, 0⟩] scope pos) 0 it acc env) R s := by
  refine codeAny_loop rfl I (fun n s hI =>
        ?_) n h
  show wpAny _ A ((compTurn (.DictComp kx vx [⟨t0, i0, ifs0, 0⟩, ⟨t1, i1, ifs1, 0⟩] scope pos) 0 it acc env).onRaise (fun x => do noteFrame x env; theTreesLotGoes x)) _ _ s
  refine wpAny_noted ?_
  rw [compTurnD2_out]
  refine wpAny_bind (wpAny_standAt (wpAny_bind (wpAny_mono (turn n s hI) (fun r s₁ h₁ =>
        ?_) fun _ _ h' => h')))
  cases r with
  | none => exact wpAny_pure h₁
  | some v =>
    refine wpAny_bind (wpAny_mono h₁ (fun _ s₁' h₁' =>
          ?_) fun _ _ h' => h')
    refine wpAny_bind (wpAny_mono h₁' (fun _ s₂ h₂ =>
          wpAny_bind (wpAny_mono h₂ (fun ok s₃ h₃ => ?_) fun _ _ h' => h')) fun _ _ h' => h')
    cases ok with
    | false =>
          exact wpAny_pure ⟨rfl, h₃⟩
    | true =>
      refine wpAny_bind (wpAny_mono h₃ (fun x s₄ h₄ =>
            ?_) fun _ _ h' => h')
      refine wpAny_bind (wpAny_standAt (wpAny_bind (wpAny_of_eq (hs x) (wpAny_bind (wpAny_holding (wpAny_mono h₄ (fun it1 s₅ h₅ =>
            ?_) fun _ _ h' => h'))))))
      refine wpAny_bind
            (wpAny_runOwn ?_)
      rw [Around.mark_none]
      refine codeAny_mono h₅ fun r s' hr =>
            ?_
      cases r with
      | ok f =>
        first
          | exact wpAny_pure ⟨rfl, hr⟩
          | exact wpAny_bind (wpAny_pure (wpAny_pure ⟨rfl,
                hr⟩))
      | error e => exact hr.elim
theorem compLoopD2_in (I : Nat → Shared → Prop)
    (turn : ∀ n s, I n s → wpAny (model prog w) A (pyNext it) (fun r s₁ =>
          match r with
      | none => R (.ok .next) s₁
      | some v =>
            wpAny (model prog w) A (letOwnedTupleGo t1 it v) (fun _ s₁' => wpAny (model prog w) A (assign t1 env v) (fun _ s₂ =>
          wpAny (model prog w) A (forIn ifs1 true fun c r =>
                if r = true then do let ok ← isTrue c env (eval c env); pure (ForInStep.yield ok) else pure (ForInStep.yield r)) (fun ok s₃ =>
            if ok = true then wpAny (model prog w) A (eval kx env) (fun kv s₄ =>
                  wpAny (model prog w) A (eval vx env) (fun vv s₅ =>
              wpAny (model prog w) A (dictSet D kv vv) (fun _ s₆ =>
                    ∃ m, m < n ∧ I m s₆) (notedBy (model prog w) A env fun e s' => R (.error e) s') s₅) (notedBy (model prog w) A env fun e s' => R (.error e) s') s₄) (notedBy (model prog w) A env fun e s' => R (.error e) s') s₃
            else ∃ m, m < n ∧ I m s₃) (notedBy (model prog w) A env fun e s' =>
                  R (.error e) s') s₂) (notedBy (model prog w) A env fun e s' => R (.error e) s') s₁') (notedBy (model prog w) A env fun e s' => R (.error e) s') s₁) (notedBy (model prog w) A env fun e s' => R (.error e) s') s)
    (n : Nat) (h : I n s) :
    codeAny (model prog w) A (.compLoop (.DictComp kx vx [⟨t0, i0, ifs0, 0⟩, ⟨t1, i1, ifs1, 0⟩] scope pos) 1 it (.ref D) env) R s := by
  refine codeAny_loop rfl I (fun n s hI =>
        ?_) n h
  show wpAny _ A ((compTurn (.DictComp kx vx [⟨t0, i0, ifs0, 0⟩, ⟨t1, i1, ifs1, 0⟩] scope pos) 1 it (.ref D) env).onRaise (fun x => do noteFrame x env; theTreesLotGoes x)) _ _ s
  refine wpAny_noted ?_
  rw [compTurnD2_in]
  refine wpAny_bind (wpAny_standAt (wpAny_bind (wpAny_mono (turn n s hI) (fun r s₁ h₁ =>
        ?_) fun _ _ h' => h')))
  cases r with
  | none => exact wpAny_pure h₁
  | some v =>
    refine wpAny_bind (wpAny_mono h₁ (fun _ s₁' h₁' =>
          ?_) fun _ _ h' => h')
    refine wpAny_bind (wpAny_mono h₁' (fun _ s₂ h₂ =>
          wpAny_bind (wpAny_mono h₂ (fun ok s₃ h₃ => ?_) fun _ _ h' => h')) fun _ _ h' => h')
    cases ok with
    | false =>
          exact wpAny_pure ⟨rfl, h₃⟩
    | true =>
      exact wpAny_bind (wpAny_bind (wpAny_mono h₃ (fun kv s₄ h₄ =>
            wpAny_bind (wpAny_holding (wpAny_mono h₄ (fun vv s₅ h₅ => wpAny_bind (wpAny_standAt (wpAny_holding (wpAny_mono h₅ (fun _ s₆ h₆ => wpAny_pure ⟨rfl, h₆⟩) fun _ _ h' => h')))) fun _ _ h' => h'))) fun _ _ h' => h'))
theorem compStartD2 (h0 : codeAny (model prog w) A (.compLoop (.DictComp kx vx [⟨t0, i0, ifs0, 0⟩, ⟨t1, i1, ifs1, 0⟩] scope pos) 1 it acc env) R s)
    (h : wpAny (model prog w) A (pyIter it) (fun it' s' => codeAny (model prog w) A (.compLoop (.DictComp kx vx [⟨t0, i0, ifs0, 0⟩, ⟨t1, i1, ifs1, 0⟩] scope pos) 1 it' acc env) R s')
      (notedBy (model prog w) A env fun x s' =>
            R (.error x) s') s) :
    codeAny (model prog w) A (.compStart (.DictComp kx vx [⟨t0, i0, ifs0, 0⟩, ⟨t1, i1, ifs1, 0⟩] scope pos) 1 it acc env) R s := by
  refine codeAny_of_tree ?_
  show wpAny _ _ ((compStart (.DictComp kx vx [⟨t0, i0, ifs0, 0⟩, ⟨t1, i1, ifs1, 0⟩] scope pos) 1 it acc env).onRaise (fun x => do noteFrame x env; standAt theWindowsPlace)) _ _ s
  refine wpAny_notedAt ?_
  unfold compStart
  show wpAny _ _
        (ask >>= _) _ _ s
  refine wpAny_bind
        (wpAny_askSetting (wpAny_ite ?_))
  split
  · first
      | exact wpAny_bind
            (wpAny_pure (wpAny_pure (And.intro rfl h0)))
      | exact wpAny_pure
            (And.intro rfl h0)
  · first
      | exact wpAny_bind (wpAny_rule (wpAny_bind (wpAny_standAt (wpAny_bind (wpAny_mono h (fun it' s' h' =>
            wpAny_pure (And.intro rfl h')) fun _ _ x => x)))))
      | (refine wpAny_bind (wpAny_rule ?_); show wpAny _ _ (standAt i1.pos >>= _) _ _ s; exact wpAny_bind (wpAny_standAt (wpAny_bind (wpAny_mono h (fun it' s' h' =>
            wpAny_pure (And.intro rfl h')) fun _ _ x => x))))
end
/-! an inner source: a row, or a dict that is locked meanwhile -/
structure PI2 (X : Cx) (tg e : Expr) (wi : L2.St → Hp → (It → Hp → (Hp → Hp) → Prop) → Prop) : Prop where
  run : ∀ (pins : List (Addr × Obj)) (s : Shared) (σ : L2.St) (H : Hp) (R : It → Hp → (Hp → Hp) → Prop), Inv X pins σ H s → wi σ H R → wpAny (model X.prog X.w) X.A (eval e X.env) (fun v s1 => wpAny (model X.prog X.w) X.A (pyIter v)
    (PIE X pins σ tg fun J H' => ∃ un : Hp → Hp, R J H' un ∧ ∀ (i : Nat) (pins' : List (Addr × Obj)) (σ' : L2.St) (H2 : Hp) (s' : Shared), Inv X pins' σ' H2 s' → J.stop i H2 → Inv X pins' σ' (un H2) s') X.xe s1) X.xe s
def i2Any (K : PySem.W.Frag) (tl : TE) : L2.St → Hp → (It → Hp → (Hp → Hp) → Prop) → Prop := fun σ H R => tl σ H fun x H1 => (∃ a, x = .ref a ∧ (∃ xs, SqL K H1 a xs) ∧ R (Itl K a) H1 id) ∨ (∃ a, x = .ref a ∧ (∃ xs, SqT K H1 a xs) ∧ R (Itt K a) H1 id) ∨
  ∃ d ps, x = .ref d ∧ H1 d = some (.dK ps) ∧ ∀ o, R (Itk d o ps) (upd H1 d (.frz o (.dK ps))) fun H => upd H d (.dK ps)
theorem pi2_any {X : Cx} {tg l : Expr} {tl : TE} (hl : PE X l tl) : PI2 X tg l (i2Any X.K tl) := by
  refine ⟨fun pins s σ H R I h =>
        ?_⟩
  refine thn (hl.run pins s σ H _ I h) fun v s1 ⟨x, H1, I1, r1, got⟩ => ?_
  rcases got with ⟨a, rfl, ⟨xs, hq⟩, q⟩ | ⟨a, rfl, ⟨xs, hq⟩, q⟩ | ⟨d, ps, rfl, hd, q⟩
  · cases r1
    obtain ⟨elA, rvA, isS, atZ⟩ := I1.list hq
    refine wpAny_pyIter_list isS.isList ?_
    exact pi_one (tk := s1.toks) I1 _ (turn_list a _) ⟨_, Heap.get?_push_size _ rfl, rfl, rfl⟩ ⟨id, q, fun _ _ _ _ _ I2 _ => I2⟩
  · cases r1
    obtain ⟨elA, rvA, isS, atZ⟩ := I1.tuple hq
    refine wpAny_pyIter_tuple (show s1.heap.IsTuple a elA.toArray from isS) ?_
    exact pi_one (tk := s1.toks) I1 _ (turn_tuple a _) ⟨_, Heap.get?_push_size _ rfl, rfl, rfl⟩ ⟨id, q, fun _ _ _ _ _ I2 _ => I2⟩
  · obtain rfl : v = Value.ref d := r1
    obtain ⟨od, I2⟩ := I1.lock hd trivial
    obtain ⟨w1, w2, w3, es, ep, vs, w4, w5, w6, w7⟩ := I2.frzK upd_same
    refine iter_keys w1 w2 w3 w4 (pi_one (tk := s1.toks) I2 _ (turn_keys _ w4) ⟨_, Heap.get?_push_size _ rfl, rfl, ?_⟩ ⟨_, q od, fun _ _ _ _ _ I3 st => I3.unlock st.1 (I1.nofrz hd trivial)⟩)
    rw [w5]
    rfl
/-- the inner loop's reading -/
def el2 (wi : L2.St → Hp → (It → Hp → (Hp → Hp) → Prop) → Prop) (g1 : TG) (tt1 : TT) (el1 : Addr → L2.St → Hp → (Hp → Prop) → Prop) (vs1 : List Nat) (D : Addr) (σ : L2.St) (H : Hp) (Nx : Hp → Prop) : Prop :=
  wi σ H fun J H1 un => ∃ Wl : Nat → Nat → Hp → Prop, (∃ m, Wl 0 m H1) ∧ ∀ i m H', Wl i m H' → (J.stop i H' ∧ Nx (un H')) ∨ (J.go i H' ∧ ∃ Nx1 : Hp → Prop, (∀ H2, Nx1 H2 → ∃ m', m' < m ∧ Wl (i + 1) m' H2) ∧
    ∀ x H2, J.yld i H' x H2 → g1 x (wipe σ vs1) H2 fun σ3 H3 => wipe σ3 vs1 = wipe σ vs1 ∧ tt1 σ3 H3 fun b H4 => if b = true then el1 D σ3 H4 Nx1 else Nx1 H4)
theorem wipe_get {i : Nat} : ∀ {vs : List Nat} {σ : L2.St}, i ∈ vs → (wipe σ vs)[i]? = if i < σ.length then some none else none
  | [], _, h => by cases h
  | v :: r, σ, h => by
    unfold wipe
    by_cases e : v = i
    · subst e
      by_cases q : v < σ.length
      · rw [if_pos q, List.getElem?_set_self (by rw [wipe_length]; exact q)]
      · rw [if_neg q, List.getElem?_eq_none_iff]
        rw [List.length_set, wipe_length]
        omega
    · rw [List.getElem?_set_ne e]
      exact wipe_get ((List.mem_cons.mp h).elim (fun z => absurd z.symm e) id)
theorem wipe_sub {σ : L2.St} {vs1 vs : List Nat} (h : ∀ i ∈ vs1, i ∈ vs) : wipe (wipe σ vs1) vs = wipe σ vs := by
  refine List.ext_getElem? fun i => ?_
  by_cases q : i ∈ vs
  · rw [wipe_get q, wipe_get q, wipe_length]
  · rw [wipe_out q, wipe_out q, wipe_out fun z => q (h i z)]
section
variable {X : Cx} {kx vx t0 i0 t1 i1 : Expr} {ifs0 ifs1 : List Expr} {scope : Scope} {pos : Pos}
/-- the element's part: the inner loop -/
def E2d (X : Cx) (xc i1 : Expr) : Addr → Env → (Shared → Prop) → (Value → Shared → Prop) → Shared → Prop := fun D env P Ex s =>
  wpAny (model X.prog X.w) X.A (eval i1 env) (fun x s4 => wpAny (model X.prog X.w) X.A (pyIter x) (fun it1 s5 => codeAny (model X.prog X.w) X.A (.compStart xc 1 it1 (.ref D) env) (fun r s' => match r with
    | .ok _ => P s'
    | .error _ => False) s5) Ex s4) Ex s
theorem dc2_kind {uN : HO} (hn : uN = .dK [] ∨ uN = .dT []) (hs1 : ∀ env x, foldedSetIterable i1 env x = pure x) : CzKind X (.DictComp kx vx [⟨t0, i0, ifs0, 0⟩, ⟨t1, i1, ifs1, 0⟩] scope pos) t0 i0 ifs0 newDict { cls := .type "dict", data := .dict #[] } uN (E2d X (.DictComp kx vx [⟨t0, i0, ifs0, 0⟩, ⟨t1, i1, ifs1, 0⟩] scope pos) i1) where
  cls := ⟨_, rfl⟩
  loop := fun R s it D env I turn n h => compLoopD2_out (hs1 env) I turn n h
  start := fun h0 h => codeAny_compStart_dict h0 h
  new := fun h => wpAny_newObj_type h
  obj := fun h H hb => by
    rcases hn with e | e
    · rw [e]; exact dk_empty h hb
    · rw [e]; exact dt_empty h hb
theorem dc2_el {wi : L2.St → Hp → (It → Hp → (Hp → Hp) → Prop) → Prop} {g1 : TG} {tt1 : TT} {tk tv : TE} {vs vs1 : List Nat} {s : Shared} {H : Hp} {sc : Scope} {ce : Env} {fp : List Addr} (hu : X.A.units + 1 < cLine) (hc : X.calm = true) (hsub : ∀ i ∈ vs1, i ∈ vs)
    (hi : PI2 (X.blk s H sc ce fp) t1 i1 wi) (pg : PG (X.blk s H sc ce fp) t1 g1) (pt : PTs (X.blk s H sc ce fp) ifs1 tt1) (hk : PE (X.blk s H sc ce fp) kx tk) (hv : PE (X.blk s H sc ce fp) vx tv) :
    CzEl X (el2 wi g1 tt1 (elD tk tv) vs1) (E2d X (.DictComp kx vx [⟨t0, i0, ifs0, 0⟩, ⟨t1, i1, ifs1, 0⟩] scope pos) i1) vs s H sc ce fp := fun pins s2 σ2 H2 D Nx P Ex I h hP hE => by
  refine wpAny_mono (hi.run pins s2 σ2 H2 _ I h) (fun xv s4 hx => wpAny_mono hx (fun itv s5 h5 => ?_) hE) hE
  obtain ⟨it1, fp1, tn1, J1, H5, rfl, I5, T1, st5, f5, un, ⟨Wl, ⟨m1, w1⟩, turn1⟩, hun⟩ := h5
  have stat1 : ∀ {H' : Hp}, (∀ b ∈ fp1, H' b = none) → ∀ b ∈ fp1, FpOk (X.blk s H sc ce fp) pins H' b := fun hn b hb => ⟨hn b hb, (f5 b hb).2⟩
  have loop1 : codeAny (model X.prog X.w) X.A (.compLoop (.DictComp kx vx [⟨t0, i0, ifs0, 0⟩, ⟨t1, i1, ifs1, 0⟩] scope pos) 1 (.ref it1) (.ref D) ce) (fun r s' => match r with
      | .ok _ => P s'
      | .error _ => False) s5 := by
    refine compLoopD2_in (fun k s' => ∃ j H', Inv (X.blk s H sc ce fp) pins (wipe σ2 vs1) H' s' ∧ tn1 j s'.heap ∧ (∀ b ∈ fp1, H' b = none) ∧ Wl j k H') ?_ m1 ⟨0, H5, I5.weak (wipe_length _ _) (fun j v e => (wipe_some e).1), st5, fun b hb => (f5 b hb).1, w1⟩
    rintro k s12 ⟨j,
          H12, I12, st12, n12, w12⟩
    rcases turn1 j k H12 w12 with ⟨stop1,
          nx1⟩ | ⟨go1, Nx1, hNx1, step1⟩
    · refine thnF (T1.done (X.blk s H sc ce fp) rfl rfl rfl hc j _ s12 (wipe σ2 vs1) H12 (fun _ _ => False) I12 (stat1 n12) st12 stop1) fun r s13 ⟨hr, I13⟩ => ?_
      subst hr
      exact hP s13 _ _ (wipe_sub hsub) (hun j _ _ _ _ I13 stop1) nx1
    · refine thnF (T1.item (X.blk s H sc ce fp) rfl rfl rfl hc j _ s12 (wipe σ2 vs1) H12 (fun _ _ => False) I12 (stat1 n12) st12 go1) fun r s13 ⟨u1, hr, h13⟩ => ?_
      subst hr
      refine thnF h13 fun _ s14 ⟨x1, H14, I14, r14, y14, st14, n14⟩ =>
            ?_
      have I14' :=
            I14.pinned (stat1 n14) (T1.obj _ _ st14)
      refine thnF (pg.run _ s14 (wipe σ2 vs1) H14 x1 u1 _ I14' r14 (step1 x1 H14 y14)) fun _ s15 ⟨σ15, H15, I15, hw15, q15⟩ => ?_
      refine thnF (pt.run _ s15 σ15 H15 _ I15 q15) fun b1 s16 ⟨H16, I16, q16⟩ => ?_
      have fin1 : ∀ {s' : Shared} {σ9 : L2.St} {H' : Hp}, wipe σ9 vs1 = wipe σ15 vs1 → Inv (X.blk s H sc ce fp) (pins ++ pinsAt fp1 s14.heap) σ9 H' s' → Nx1 H' → ∃ m, m < k ∧ ∃ j H', Inv (X.blk s H sc ce fp) pins (wipe σ2 vs1) H' s' ∧ tn1 j s'.heap ∧ (∀ b ∈ fp1, H' b = none) ∧ Wl j m H' := fun {s' σ9 H'} hw9 I' nx => by
        obtain ⟨m', hm, w'⟩ :=
              hNx1 H' nx
        have pin' : ∀ b ∈ fp1, ∀ o, s14.heap.get? b = some o → s'.heap.get? b = some o ∧ H' b = none :=
              fun b hb o e =>
          let z :=
                I'.pin (b, o) (List.mem_append_right _ (List.mem_append_right _ (mem_pinsAt hb e)))
          ⟨z.1, z.2.1⟩
        refine ⟨m', hm, j + 1, H', I'.unpinned.weak (by rw [← hw15, ← hw9, wipe_length]) (fun j v e => by rw [← hw15, ← hw9] at e; exact (wipe_some e).1), T1.keep _ _ _ st14 fun b hb o e => (pin' b hb o e).1, fun b hb => ?_, w'⟩
        obtain ⟨o, e, _⟩ :=
              T1.obj _ _ st14 b hb
        exact (pin' b hb o e).2
      cases b1 with
      | false =>
        simp only [Bool.false_eq_true,
              if_false] at q16 ⊢
        exact fin1 rfl I16 q16
      | true =>
        simp only [if_true] at q16 ⊢
        exact dc_el (vs := vs1) hu hk hv _ s16 σ15 H16 D Nx1 _ _ I16 q16 (fun s17 σ17 H17 w17 I17 nx => fin1 w17 I17 nx) fun e s' z => z.elim
  exact compStartD2 loop1 (T1.self X.A 0 _ _ _ st5 loop1)
end
/-! the plain form -/
def rowIt (S : Sto) : AV → Option IT
  | .tup xs => some (.t xs)
  | .ref i => match lstAt S i with
    | some _ => some (.l i)
    | none => none
  | _ => none
def mEl2 (me : EM) (vs1 : List Nat) (g : GM) (t : Option TM) (m : EF) : EF := fun r l S => (me l S).bind fun x S1 => match rowIt S1 x with
  | some J => (loopC g t m J r (wipeC (wipeL l vs1)) fuel 0 S1).bind fun _ S2 => .ok () S2
  | none => match lkAt S1 (.ok x S1) with
    | some (i, kvs) => (loopC g t m (.dk i) r (wipeC (wipeL l vs1)) fuel 0 (S1.put i (.ldk kvs))).bind fun _ S2 => match ldkAt S2 i with
      | some _ => .ok () (S2.put i (.dct kvs))
      | none => .bad
    | none => .bad
section
variable {G : Gd}
theorem loop2_read {g : GM} {t : Option TM} {m : EF} {el1 : Addr → L2.St → Hp → (Hp → Prop) → Prop} (hel : ElR G el1 m) {vs1 : List Nat} {J : IT} {JJ : It} {un : Hp → Hp} {r : Nat} {D : Addr} {l : Lo} {σ : L2.St} {ρ1 : List Addr} {S1 : Sto} {H1 : Hp} {Nx : Hp → Prop} {Pq : AV → Sto → Prop}
    (T1 : Stt G F0 ρ1 S1 l σ H1) (ri : RI G F0 J JJ ρ1 H1) (hD : ρ1[r]? = some D) (q : (loopC g t m J r (wipeC (wipeL l vs1)) fuel 0 S1).Sat Pq (fun _ _ _ => False))
    (hend : ∀ ρ0 S0 H', Ext ρ1 H1 ρ0 H' → Rel G ρ0 S0 H' → AllKnown G ρ0 S0 H' → Pq (.ref r) S0 → Nx (un H')) :
    ∃ Wl : Nat → Nat → Hp → Prop, (∃ m, Wl 0 m H1) ∧ ∀ i m' H', Wl i m' H' → (JJ.stop i H' ∧ Nx (un H')) ∨ (JJ.go i H' ∧ ∃ Nx1 : Hp → Prop, (∀ H2, Nx1 H2 → ∃ m2, m2 < m' ∧ Wl (i + 1) m2 H2) ∧
    ∀ x H2, JJ.yld i H' x H2 → tGv G F0 vs1 g x (wipe σ vs1) H2 fun σ3 H3 => wipe σ3 vs1 = wipe σ vs1 ∧ tT G F0 W0 (tYesM t) σ3 H3 fun b H4 => if b = true then el1 D σ3 H4 Nx1 else Nx1 H4) := by
  refine ⟨fun k m' H' => ∃ ρ0 S0, Ext ρ1 H1 ρ0 H' ∧ Rel G ρ0 S0 H' ∧ AllKnown G ρ0 S0 H' ∧ (loopC g t m J r (wipeC (wipeL l vs1)) m' k S0).Sat Pq (fun _ _ _ => False), ⟨fuel, ρ1, S1, Ext.refl _ _, T1.rel, T1.known, q⟩, ?_⟩
  rintro k m' H' ⟨ρ3, S3, x3, R3, K3, h3⟩
  have blk : ∀ {F' : Fm} {ρ' : List Addr} {S' : Sto} {H'' : Hp}, Ext ρ3 H' ρ' H'' → Rel G ρ' S' H'' → AllKnown G ρ' S' H'' → Stt G F' ρ' S' (wipeC (wipeL l vs1)) (wipe σ vs1) H'' := fun {F' ρ' S' H''} y R K => blk_stt _ T1 (x3.trans y) R K
  cases m' with
  | zero => exact h3.elim
  | succ m' =>
    obtain ⟨ra, rb⟩ := ri _ ρ3 H' S3 _ _ k x3 (blk (F' := F0) (Ext.refl _ _) R3 K3)
    unfold loopC at h3
    cases qn : nxt J k S3 with
    | none => rw [qn] at h3; exact h3.elim
    | some o =>
      cases o with
      | none =>
        rw [qn] at h3
        exact .inl ⟨ra qn, hend ρ3 S3 H' x3 R3 K3 h3⟩
      | some v =>
        rw [qn] at h3
        obtain ⟨go, yl⟩ := rb v qn
        refine .inr ⟨go, fun H'' => ∃ ρ0 S0, Ext ρ1 H1 ρ0 H'' ∧ Rel G ρ0 S0 H'' ∧ AllKnown G ρ0 S0 H'' ∧ (loopC g t m J r (wipeC (wipeL l vs1)) m' (k + 1) S0).Sat Pq (fun _ _ _ => False), fun H'' n => ⟨m', Nat.lt_succ_self _, n⟩, fun y H4 hy => ?_⟩
        obtain ⟨ρ4, x4, T4, rv⟩ := yl y H4 hy
        dsimp only at h3
        cases qg : g v (wipeC (wipeL l vs1)) S3 with
        | ok l2 S5 =>
          rw [qg] at h3
          refine ⟨ρ4, S3, _, v, blk x4 T4.rel T4.known, rv, ?_⟩
          rw [qg]
          intro ρ5 H5 σ5 x5 T5 w5
          refine ⟨w5.trans (wipe_wipe _ _), ?_⟩
          refine ⟨ρ5, S5, l2, T5, Out.sat_mono (fun b S6 z ρ6 H6 x6 T6 => ?_) (fun _ _ _ z => z.elim) (Out.sat_bind.mp h3)⟩
          cases b with
          | false => exact iteF ⟨ρ6, _, x3.trans (x4.trans (x5.trans x6)), T6.rel, T6.known, z⟩
          | true =>
            refine iteT (hel T6 ((x3.trans (x4.trans (x5.trans x6))).at hD) (Out.sat_mono (fun _ S7 z7 ρ7 H7 x7 R7 K7 => ?_) (fun _ _ _ z => z.elim) (Out.sat_bind.mp z)))
            exact ⟨ρ7, S7, x3.trans (x4.trans (x5.trans (x6.trans x7))), R7, K7, z7⟩
        | _ => rw [qg] at h3; exact h3.elim
theorem el2_read {me : EM} {vs1 : List Nat} {g : GM} {t : Option TM} {m : EF} {el1 : Addr → L2.St → Hp → (Hp → Prop) → Prop} (hel : ElR G el1 m) : ElR G (el2 (i2Any G.K (tE G F0 W0 me)) (tGv G F0 vs1 g) (tT G F0 W0 (tYesM t)) el1 vs1) (mEl2 me vs1 g t m) := fun {r D σ H Nx ρ S l} T hD h => by
  refine ⟨ρ, S, l, T, Out.sat_mono (fun x S1 q ρ1 H1 x1 T1 v rv => ?_) (fun _ _ _ z => z.elim) (Out.sat_bind.mp h)⟩
  have hD1 := x1.at hD
  cases qr : rowIt S1 x with
  | some J =>
    rw [qr] at q
    dsimp only at q
    replace q := Out.sat_bind.mp q
    unfold rowIt at qr
    split at qr
    · cases qr
      unfold RV at rv
      obtain ⟨a, ws, rfl, s, rs, _⟩ := rv
      exact .inr (.inl ⟨a, rfl, ⟨ws, s⟩, loop2_read hel T1 (ri_t s rs) hD1 q fun ρ0 S0 H' x2 R K z => z ρ0 H' (x1.trans x2) R K⟩)
    · split at qr
      · rename_i i xs q3
        cases qr
        unfold RV at rv
        obtain ⟨a, hp, rfl⟩ := rv
        obtain ⟨vs, e1, _⟩ := lst_of T1 hp q3
        exact .inl ⟨a, rfl, ⟨vs, SqL.of e1⟩, loop2_read hel T1 (ri_l hp) hD1 q fun ρ0 S0 H' x2 R K z => z ρ0 H' (x1.trans x2) R K⟩
      · cases qr
    · cases qr
  | none =>
    rw [qr] at q
    cases ql : lkAt S1 (.ok x S1) with
    | none => rw [ql] at q; exact q.elim
    | some p =>
      obtain ⟨i, kvs⟩ := p
      rw [ql] at q
      dsimp only at q
      replace q := Out.sat_bind.mp q
      obtain ⟨d, ps, hp, hg, hd, kr, lk⟩ := lkAt_ok T1 ql
      have ev : v = .ref d := by
        have ql' : (match dctAt S1 x with
          | some (i, kvs) => match Nat.blt i S1.n with
            | true => some (i, kvs)
            | false => none
          | none => none) = some (i, kvs) := ql
        cases q5 : dctAt S1 x with
        | none => rw [q5] at ql'; cases ql'
        | some p =>
          obtain ⟨i', l'⟩ := p
          rw [q5] at ql'
          dsimp only at ql'
          split at ql'
          · cases ql'
            obtain ⟨a', ps', _, e2, e3, _⟩ := dctAt_ok T1 rv q5
            rw [hp] at e3
            cases e3
            exact e2
          · cases ql'
      refine .inr (.inr ⟨d, ps, ev, hd, fun o => ?_⟩)
      obtain ⟨T2, x2⟩ := lk o
      refine loop2_read hel T2 (ri_dk (x2.at hp) upd_same) (x2.at hD1) q fun ρ0 S0 H' x3 R K z => ?_
      cases q6 : ldkAt S0 i with
      | none => rw [q6] at z; exact z.elim
      | some l' =>
        rw [q6] at z
        have hd' : H' d = some (.frz o (.dK ps)) := x3.imm d _ upd_same trivial
        have T3 : Stt G F0 ρ0 S0 [] [] H' := ⟨R, rfl, fun i => trivial, K, fun i j k a b e => (by cases e)⟩
        have T4 := stt_unlock T3 (x3.at (x2.at hp)) (ldkAt_get q6) hd' (KR.mono (x2.trans x3) kr)
        exact z ρ0 _ (x1.trans (ext_lock hd x3)) T4.rel T4.known
end
section
variable {X : Cx} {G : Gd} {W : WX} {F : Fm} {tg iter tg1 i1 : Expr} {pos : Pos}
theorem pe_dc2Z {kx vx : Expr} {ifs ifs1 : List Expr} {scope : Scope} {own : List (Str × Nat)} {wi : TI} {w1 : L2.St → Hp → (It → Hp → (Hp → Hp) → Prop) → Prop} {g g1 : TG} {tt tt1 : TT} {tk tv : TE} {vs1 : List Nat} {uN : HO} (hn : uN = .dK [] ∨ uN = .dT []) (hu : X.A.units + 1 < cLine) (hcb : CBx X) (hc : X.calm = true) (hN : X.N.Nodup) (hi : PI X tg iter wi) (ok : BlkOk X.N X.env.scope scope own)
    (hg : ∀ (s : Shared) (H : Hp) (L : Addr) (cl : List (Str × Addr)) (fp : List Addr), CellsOut X cl → PG (X.blk s H scope (compEnvC scope cl L X.env) fp) tg g)
    (ht : ∀ (s : Shared) (H : Hp) (L : Addr) (cl : List (Str × Addr)) (fp : List Addr), CellsOut X cl → PTs (X.blk s H scope (compEnvC scope cl L X.env) fp) ifs tt)
    (h2 : ∀ (s : Shared) (H : Hp) (L : Addr) (cl : List (Str × Addr)) (fp : List Addr), CellsOut X cl → PI2 (X.blk s H scope (compEnvC scope cl L X.env) fp) tg1 i1 w1)
    (hg1 : ∀ (s : Shared) (H : Hp) (L : Addr) (cl : List (Str × Addr)) (fp : List Addr), CellsOut X cl → PG (X.blk s H scope (compEnvC scope cl L X.env) fp) tg1 g1)
    (ht1 : ∀ (s : Shared) (H : Hp) (L : Addr) (cl : List (Str × Addr)) (fp : List Addr), CellsOut X cl → PTs (X.blk s H scope (compEnvC scope cl L X.env) fp) ifs1 tt1)
    (hk : ∀ (s : Shared) (H : Hp) (L : Addr) (cl : List (Str × Addr)) (fp : List Addr), CellsOut X cl → PE (X.blk s H scope (compEnvC scope cl L X.env) fp) kx tk)
    (hv : ∀ (s : Shared) (H : Hp) (L : Addr) (cl : List (Str × Addr)) (fp : List Addr), CellsOut X cl → PE (X.blk s H scope (compEnvC scope cl L X.env) fp) vx tv) (hs : ∀ x, foldedSetIterable iter X.env x = pure x) (hs1 : ∀ env x, foldedSetIterable i1 env x = pure x) (hsub : ∀ i ∈ vs1, i ∈ own.map (·.2)) :
    PE X (.DictComp kx vx [⟨tg, iter, ifs, 0⟩, ⟨tg1, i1, ifs1, 0⟩] scope pos) (tCz X scope wi g tt uN (el2 w1 g1 tt1 (elD tk tv) vs1) (own.map (·.2))) := by
  refine ⟨fun pins s σ H Q I h =>
        ?_⟩
  rw [arm_eval_DictComp]
  refine cz_core hcb hc hN I hi ok hg ht (dc2_kind hn hs1) (fun s H L cl fp out => dc2_el hu hc hsub (h2 s H L cl fp out) (hg1 s H L cl fp out) (ht1 s H L cl fp out) (hk s H L cl fp out) (hv s H L cl fp out)) hs h fun D L s' m H' I' q hm f => ⟨m, hm, fun h'' sb => ?_⟩
  obtain ⟨f0, f1, f2, f3, f4, f5⟩ :=
        f
  exact ⟨.ref D, H', I'.turned (t' :=
        s'.toks) (fun b o hb e => (sb.2 b hb).trans e) f0 f1 f3 f4 f5, rfl, q⟩
theorem ps_setDc2Z {i : Nat} {y : Str} {py spos : Pos} {kx vx : Expr} {ifs ifs1 : List Expr} {scope : Scope} {own : List (Str × Nat)} {wi : TI} {w1 : L2.St → Hp → (It → Hp → (Hp → Hp) → Prop) → Prop} {g g1 : TG} {tt tt1 : TT} {tk tv : TE} {vs1 : List Nat} {uN : HO} (hn : uN = .dK [] ∨ uN = .dT []) (hu : X.A.units + 1 < cLine) (hcb : CBx X) (hc : X.calm = true) (hN : X.N.Nodup) (hy : X.N[i]? = some y) (hyl : X.env.scope.names.lookup y = some .local)
    (hsw : swapsWith (.DictComp kx vx [⟨tg, iter, ifs, 0⟩, ⟨tg1, i1, ifs1, 0⟩] scope pos) (some (.Name y py)) spos.line X.env = pure true) (hi : PI X tg iter wi) (ok : BlkOk X.N X.env.scope scope own)
    (hg : ∀ (s : Shared) (H : Hp) (L : Addr) (cl : List (Str × Addr)) (fp : List Addr), CellsOut X cl → PG (X.blk s H scope (compEnvC scope cl L X.env) fp) tg g)
    (ht : ∀ (s : Shared) (H : Hp) (L : Addr) (cl : List (Str × Addr)) (fp : List Addr), CellsOut X cl → PTs (X.blk s H scope (compEnvC scope cl L X.env) fp) ifs tt)
    (h2 : ∀ (s : Shared) (H : Hp) (L : Addr) (cl : List (Str × Addr)) (fp : List Addr), CellsOut X cl → PI2 (X.blk s H scope (compEnvC scope cl L X.env) fp) tg1 i1 w1)
    (hg1 : ∀ (s : Shared) (H : Hp) (L : Addr) (cl : List (Str × Addr)) (fp : List Addr), CellsOut X cl → PG (X.blk s H scope (compEnvC scope cl L X.env) fp) tg1 g1)
    (ht1 : ∀ (s : Shared) (H : Hp) (L : Addr) (cl : List (Str × Addr)) (fp : List Addr), CellsOut X cl → PTs (X.blk s H scope (compEnvC scope cl L X.env) fp) ifs1 tt1)
    (hk : ∀ (s : Shared) (H : Hp) (L : Addr) (cl : List (Str × Addr)) (fp : List Addr), CellsOut X cl → PE (X.blk s H scope (compEnvC scope cl L X.env) fp) kx tk)
    (hv : ∀ (s : Shared) (H : Hp) (L : Addr) (cl : List (Str × Addr)) (fp : List Addr), CellsOut X cl → PE (X.blk s H scope (compEnvC scope cl L X.env) fp) vx tv) (hs : ∀ x, foldedSetIterable iter X.env x = pure x) (hs1 : ∀ env x, foldedSetIterable i1 env x = pure x) (hsub : ∀ i ∈ vs1, i ∈ own.map (·.2)) :
    PS X (.Assign [.Name y py] (.DictComp kx vx [⟨tg, iter, ifs, 0⟩, ⟨tg1, i1, ifs1, 0⟩] scope pos) spos) (tAsg (tCz X scope wi g tt uN (el2 w1 g1 tt1 (elD tk tv) vs1) (own.map (·.2))) (gName i)) := by
  refine ⟨fun pins s σ H D I h =>
        ?_⟩
  rw
        [exec_Assign_Name_used _ _ _ _ hsw]
  refine wpAny_bind
        (wpAny_standAt (wpAny_bind ?_))
  show wpAny _ X.A (do let _ ← comprehension (.DictComp kx vx [⟨tg, iter, ifs, 0⟩, ⟨tg1, i1, ifs1, 0⟩] scope pos) scope X.env (firstIterPos [⟨tg, iter, ifs, 0⟩, ⟨tg1, i1, ifs1, 0⟩] pos) newDict false (eval iter X.env) (some (assign (.Name y py) X.env))) _ _ s
  have h : tCz X scope wi g tt uN (el2 w1 g1 tt1 (elD tk tv) vs1) (own.map (·.2)) σ H (fun x H1 => gName i x σ H1 D.nx) := h
  refine wpAny_bind (thn (cz_core (Qf := fun _ s' => SP X pins D .next s') hcb hc hN I hi ok hg ht (dc2_kind hn hs1) (fun s H L cl fp out => dc2_el hu hc hsub (h2 s H L cl fp out) (hg1 s H L cl fp out) (ht1 s H L cl fp out) (hk s H L cl fp out) (hv s H L cl fp out)) hs h fun DL L s' m H' I' q hm f => ?_) fun _ s' hq => wpAny_pure (wpAny_pure hq))
  show wpAny _ _ (assign (.Name y py) X.env (.ref DL)) _ _ _
  refine wpAny_assign_Name (store_ok2 (v := V.ref DL) I' hN hy (.inl hyl) rfl (fun sT IT ⟨a, sb, ha⟩ => ?_) (.inr hyl))
  obtain ⟨f0, f1, f2, f3, f4, f5⟩ :=
        f
  have apart : L ≠ a := ha.elim (fun z => by rw [z]; exact f1) fun z e => f4 y a z e.symm
  exact ⟨m, hm.sameBut sb apart, fun hh sb3 => ⟨_, H', IT.turned (t' := sT.toks) (fun b o hb e => (sb3.2 b hb).trans e) f0 f1 f3 f4 f5, q⟩⟩
def mDc2 (i : IM) (vs cap : List Nat) (g : GM) (t : Option TM) (me : EM) (vs1 : List Nat) (g1 : GM) (t1 : Option TM) (mk mv : EM) : EM := mOrB (mCz newDk i vs cap g t (mEl2 me vs1 g1 t1 (efD mk mv))) (mCz newDt i vs cap g t (mEl2 me vs1 g1 t1 (efD mk mv)))
def mSetDc2 (i : IM) (vs cap : List Nat) (g : GM) (t : Option TM) (me : EM) (vs1 : List Nat) (g1 : GM) (t1 : Option TM) (mk mv : EM) (j : Nat) : SM :=
  sOrB (mAsg (mCz newDk i vs cap g t (mEl2 me vs1 g1 t1 (efD mk mv))) (gSet j)) (mAsg (mCz newDt i vs cap g t (mEl2 me vs1 g1 t1 (efD mk mv))) (gSet j))
theorem me_dc2 {i : IM} {g g1 : GM} {t t1 : Option TM} {me mk mv : EM} {kx vx : Expr} {ifs ifs1 : List Expr} {scope : Scope} {vs1 : List Nat} (own : List (Str × Nat)) (cap : List Nat) (hk0 : X.K = G.K) (hu : X.A.units + 1 < cLine) (hcb : CBx X) (hc : X.calm = true) (hN : X.N.Nodup) (hi : PI X tg iter (tI G (fm X) W i)) (ok : BlkOk X.N X.env.scope scope own)
    (hcap : ∀ (j : Nat) (n : Str), X.N[j]? = some n → scope.names.lookup n = some .free → j ∈ cap)
    (hg : ∀ (s : Shared) (H : Hp) (L : Addr) (cl : List (Str × Addr)) (fp : List Addr), CellsOut X cl → PG (X.blk s H scope (compEnvC scope cl L X.env) fp) tg (tGv G F0 (own.map (·.2)) g))
    (ht : ∀ (s : Shared) (H : Hp) (L : Addr) (cl : List (Str × Addr)) (fp : List Addr), CellsOut X cl → PTs (X.blk s H scope (compEnvC scope cl L X.env) fp) ifs (tT G F0 W0 (tYesM t)))
    (h2 : ∀ (s : Shared) (H : Hp) (L : Addr) (cl : List (Str × Addr)) (fp : List Addr), CellsOut X cl → PE (X.blk s H scope (compEnvC scope cl L X.env) fp) i1 (tE G F0 W0 me))
    (hg1 : ∀ (s : Shared) (H : Hp) (L : Addr) (cl : List (Str × Addr)) (fp : List Addr), CellsOut X cl → PG (X.blk s H scope (compEnvC scope cl L X.env) fp) tg1 (tGv G F0 vs1 g1))
    (ht1 : ∀ (s : Shared) (H : Hp) (L : Addr) (cl : List (Str × Addr)) (fp : List Addr), CellsOut X cl → PTs (X.blk s H scope (compEnvC scope cl L X.env) fp) ifs1 (tT G F0 W0 (tYesM t1)))
    (hk : ∀ (s : Shared) (H : Hp) (L : Addr) (cl : List (Str × Addr)) (fp : List Addr), CellsOut X cl → PE (X.blk s H scope (compEnvC scope cl L X.env) fp) kx (tE G F0 W0 mk))
    (hv : ∀ (s : Shared) (H : Hp) (L : Addr) (cl : List (Str × Addr)) (fp : List Addr), CellsOut X cl → PE (X.blk s H scope (compEnvC scope cl L X.env) fp) vx (tE G F0 W0 mv)) (hs : ∀ x, foldedSetIterable iter X.env x = pure x) (hs1 : ∀ env x, foldedSetIterable i1 env x = pure x) (hsub : ∀ i ∈ vs1, i ∈ own.map (·.2)) :
    PE X (.DictComp kx vx [⟨tg, iter, ifs, 0⟩, ⟨tg1, i1, ifs1, 0⟩] scope pos) (tE G (fm X) W (mDc2 i (own.map (·.2)) cap g t me vs1 g1 t1 mk mv)) := by
  have p2 : ∀ (s : Shared) (H : Hp) (L : Addr) (cl : List (Str × Addr)) (fp : List Addr), CellsOut X cl → PI2 (X.blk s H scope (compEnvC scope cl L X.env) fp) tg1 i1 (i2Any G.K (tE G F0 W0 me)) := fun s H L cl fp out => by rw [← hk0]; exact pi2_any (h2 s H L cl fp out)
  exact me_orB (PE_imp (pe_dc2Z (.inl rfl) hu hcb hc hN hi ok hg ht p2 hg1 ht1 hk hv hs hs1 hsub) fun _ _ _ h => cz_read newD_rel (el2_read el_dict) own cap hN hcap h)
    (PE_imp (pe_dc2Z (.inr rfl) hu hcb hc hN hi ok hg ht p2 hg1 ht1 hk hv hs hs1 hsub) fun _ _ _ h => cz_read newT_rel (el2_read el_dict) own cap hN hcap h)
theorem ms_setDc2 (j : Nat) {y : Str} {py spos : Pos} {i : IM} {g g1 : GM} {t t1 : Option TM} {me mk mv : EM} {kx vx : Expr} {ifs ifs1 : List Expr} {scope : Scope} {vs1 : List Nat} (own : List (Str × Nat)) (cap : List Nat) (hk0 : X.K = G.K) (hu : X.A.units + 1 < cLine) (hcb : CBx X) (hc : X.calm = true) (hN : X.N.Nodup) (hy : X.N[j]? = some y) (hyl : X.env.scope.names.lookup y = some .local)
    (hsw : swapsWith (.DictComp kx vx [⟨tg, iter, ifs, 0⟩, ⟨tg1, i1, ifs1, 0⟩] scope pos) (some (.Name y py)) spos.line X.env = pure true) (hi : PI X tg iter (tI G (fm X) W i)) (ok : BlkOk X.N X.env.scope scope own)
    (hcap : ∀ (j : Nat) (n : Str), X.N[j]? = some n → scope.names.lookup n = some .free → j ∈ cap)
    (hg : ∀ (s : Shared) (H : Hp) (L : Addr) (cl : List (Str × Addr)) (fp : List Addr), CellsOut X cl → PG (X.blk s H scope (compEnvC scope cl L X.env) fp) tg (tGv G F0 (own.map (·.2)) g))
    (ht : ∀ (s : Shared) (H : Hp) (L : Addr) (cl : List (Str × Addr)) (fp : List Addr), CellsOut X cl → PTs (X.blk s H scope (compEnvC scope cl L X.env) fp) ifs (tT G F0 W0 (tYesM t)))
    (h2 : ∀ (s : Shared) (H : Hp) (L : Addr) (cl : List (Str × Addr)) (fp : List Addr), CellsOut X cl → PE (X.blk s H scope (compEnvC scope cl L X.env) fp) i1 (tE G F0 W0 me))
    (hg1 : ∀ (s : Shared) (H : Hp) (L : Addr) (cl : List (Str × Addr)) (fp : List Addr), CellsOut X cl → PG (X.blk s H scope (compEnvC scope cl L X.env) fp) tg1 (tGv G F0 vs1 g1))
    (ht1 : ∀ (s : Shared) (H : Hp) (L : Addr) (cl : List (Str × Addr)) (fp : List Addr), CellsOut X cl → PTs (X.blk s H scope (compEnvC scope cl L X.env) fp) ifs1 (tT G F0 W0 (tYesM t1)))
    (hk : ∀ (s : Shared) (H : Hp) (L : Addr) (cl : List (Str × Addr)) (fp : List Addr), CellsOut X cl → PE (X.blk s H scope (compEnvC scope cl L X.env) fp) kx (tE G F0 W0 mk))
    (hv : ∀ (s : Shared) (H : Hp) (L : Addr) (cl : List (Str × Addr)) (fp : List Addr), CellsOut X cl → PE (X.blk s H scope (compEnvC scope cl L X.env) fp) vx (tE G F0 W0 mv)) (hs : ∀ x, foldedSetIterable iter X.env x = pure x) (hs1 : ∀ env x, foldedSetIterable i1 env x = pure x) (hsub : ∀ i ∈ vs1, i ∈ own.map (·.2)) :
    PS X (.Assign [.Name y py] (.DictComp kx vx [⟨tg, iter, ifs, 0⟩, ⟨tg1, i1, ifs1, 0⟩] scope pos) spos) (tS G (fm X) W (mSetDc2 i (own.map (·.2)) cap g t me vs1 g1 t1 mk mv j)) := by
  have p2 : ∀ (s : Shared) (H : Hp) (L : Addr) (cl : List (Str × Addr)) (fp : List Addr), CellsOut X cl → PI2 (X.blk s H scope (compEnvC scope cl L X.env) fp) tg1 i1 (i2Any G.K (tE G F0 W0 me)) := fun s H L cl fp out => by rw [← hk0]; exact pi2_any (h2 s H L cl fp out)
  have fin : ∀ {m : EM} {D : Ends} {σ : L2.St} {H : Hp}, tS G (fm X) W (mAsg m (gSet j)) D σ H → tE G (fm X) W m σ H (fun x H1 => gName j x σ H1 D.nx) := fun {m D σ H} ⟨ρ, S, ls, T, h⟩ => tE_bind T h fun v S1 ρ1 H1 x h1 x1 T1 r1 => by
    unfold gSet at h1
    cases q : Nat.blt j ls.length with
    | false => rw [q] at h1; exact h1.elim
    | true =>
      rw [q] at h1
      exact h1 ρ1 H1 _ x1 (T1.set (Nat.le_of_ble_eq_true q) r1)
  refine ms_orB (PS_imp (ps_setDc2Z (.inl rfl) hu hcb hc hN hy hyl hsw hi ok hg ht p2 hg1 ht1 hk hv hs hs1 hsub) fun D σ H h => ?_) (PS_imp (ps_setDc2Z (.inr rfl) hu hcb hc hN hy hyl hsw hi ok hg ht p2 hg1 ht1 hk hv hs hs1 hsub) fun D σ H h => ?_)
  · exact cz_read newD_rel (el2_read el_dict) own cap hN hcap (fin h)
  · exact cz_read newT_rel (el2_read el_dict) own cap hN hcap (fin h)
end
end Sh

end

noncomputable section
namespace Sh
open PySem PySem.Spec PyProof.Rows L2 LamX He
/-! ### names, arguments, operators -/
def tyNo (x : Str) : Option Nat := match decide (x = "bool") with
  | true => some 1
  | false => match decide (x = "int") with
    | true => some 2
    | false => match decide (x = "str") with
      | true => some 3
      | false => match decide (x = "list") with
        | true => some 4
        | false => match decide (x = "tuple") with
          | true => some 5
          | false => match decide (x = "dict") with
            | true => some 6
            | false => none
theorem tyNo_ok {x : Str} {n : Nat} (h : tyNo x = some n) : bootBuiltins x = some (.type (tyN n)) ∧ Nat.ble n 6 = true := by
  unfold tyNo at h
  split at h
  · rename_i e; cases h; rw [of_decide_eq_true e]; exact ⟨rfl, rfl⟩
  · split at h
    · rename_i e; cases h; rw [of_decide_eq_true e]; exact ⟨rfl, rfl⟩
    · split at h
      · rename_i e; cases h; rw [of_decide_eq_true e]; exact ⟨rfl, rfl⟩
      · split at h
        · rename_i e; cases h; rw [of_decide_eq_true e]; exact ⟨rfl, rfl⟩
        · split at h
          · rename_i e; cases h; rw [of_decide_eq_true e]; exact ⟨rfl, rfl⟩
          · split at h
            · rename_i e; cases h; rw [of_decide_eq_true e]; exact ⟨rfl, rfl⟩
            · cases h
def locOf (cfg : CF) (x : Str) : Option Nat := match cfg.sc.names.lookup x with
  | some .local => ix cfg.N x
  | some .cell => ix cfg.N x
  | some .free => ix cfg.N x
  | _ => none
def gloOf (cfg : CF) (x : Str) : Option GI := match cfg.sc.names.lookup x, okName x with
  | some .globalImplicit, true => look cfg.glob x
  | _, _ => none
section
variable {X : Cx} {G : Gd} {W : WX} {cfg : CF} {T : Tb} {kk : Nat}
theorem locOf_ok (fr : FrOk X G W cfg) {x : Str} {i : Nat} (h : locOf cfg x = some i) : X.N[i]? = some x ∧ Vis X.env.scope x := by
  unfold locOf at h
  rw [fr.N, fr.sc]
  split at h
  · rename_i q; exact ⟨ix_ok h, .inl q⟩
  · rename_i q; exact ⟨ix_ok h, .inr (.inl q)⟩
  · rename_i q; exact ⟨ix_ok h, .inr (.inr q)⟩
  · cases h
theorem gloOf_ok (fr : FrOk X G W cfg) (gl : GlOk X G cfg T kk) {x : Str} {gi : GI} (h : gloOf cfg x = some gi) : Gl X x ∧ okName x = true ∧ GIOk X G T kk x gi := by
  unfold gloOf at h
  split at h
  · rename_i q1 q2
    refine ⟨?_, q2, gl.glob x gi h⟩
    unfold Gl Env.kindOf
    rw [fr.sc]
    exact q1
  · cases h
end
def cName (cfg : CF) (x : Str) : Option (Tb → EM) := match okName x with
  | false => none
  | true => match locOf cfg x with
    | some i => some fun _ => mVar i
    | none => match gloOf cfg x with
      | some (.fn j _) => some fun _ => mC (.fn j)
      | some (.cls _ c _) => some fun _ => mC (.cl c)
      | some (.cst a) => some fun _ => mC a
      | some (.tbl j _) => some fun _ => mC (.fn j)
      | some .bt => match tyNo x with
        | some n => some fun _ => mC (.ty n)
        | none => none
      | _ => none
theorem cName_ok {cfg : CF} {x : Str} {m : Tb → EM} (h : cName cfg x = some m) {X : Cx} {G : Gd} {W : WX} {T : Tb} {kk : Nat} (fr : FrOk X G W cfg) (gl : GlOk X G cfg T kk) {pos : Pos} : PE X (.Name x pos) (tE G (fm X) W (m T)) := by
  unfold cName at h
  split at h
  · cases h
  · rename_i ok
    obtain ⟨n1, n2, n3⟩ := okName_ok ok
    split at h
    · rename_i i q
      cases h
      obtain ⟨h1, h2⟩ := locOf_ok fr q
      exact me_var i h1 h2 n1 n2
    · split at h
      · rename_i j n q
        cases h
        obtain ⟨h1, _, h2, _⟩ := gloOf_ok fr gl q
        exact me_glob h1 h2 (v := .ref (G.fa j)) rfl (fun _ _ => by unfold RV; rfl) n1
      · rename_i j c ps q
        cases h
        obtain ⟨h1, _, h2, _⟩ := gloOf_ok fr gl q
        exact me_glob h1 h2 (v := .ref (G.ca c)) rfl (fun _ _ => by unfold RV; rfl) n1
      · rename_i a q
        cases h
        obtain ⟨h1, _, v, u, h2, h3, h4⟩ := gloOf_ok fr gl q
        exact me_glob h1 h2 h3 h4 n1
      · rename_i j t q
        cases h
        obtain ⟨h1, _, h2, _⟩ := gloOf_ok fr gl q
        exact me_glob h1 h2 (v := .ref (G.fa j)) rfl (fun _ _ => by unfold RV; rfl) n1
      · rename_i q
        split at h
        · rename_i n q2
          cases h
          obtain ⟨h1, _, h2⟩ := gloOf_ok fr gl q
          exact me_ty n h2 (tyNo_ok q2).1 h1 n3 n1
        · cases h
      · cases h
def cArgs (L : Lv) (cfg : CF) : List Expr → Option (Tb → AM)
  | [] => some fun _ => mNil
  | e :: r => match notStar e, L.E cfg e with
    | true, some m => match cArgs L cfg r with
      | some n => some fun T => mCons (m T) (n T)
      | none => none
    | _, _ => none
theorem cArgs_ok {L : Lv} (hL : LvOk L) {cfg : CF} : ∀ {es : List Expr} {m : Tb → AM}, cArgs L cfg es = some m → noStars es = true ∧ (es = [] → ∀ T, m T = mNil) ∧ ∀ {X : Cx} {G : Gd} {W : WX} {T : Tb} {kk : Nat}, FrOk X G W cfg → GlOk X G cfg T kk → PA X es (tA G (fm X) W (m T))
  | [], m, h => by
    unfold cArgs at h
    cases h
    exact ⟨rfl, fun _ _ => rfl, fun _ _ => ma_nil⟩
  | e :: r, m, h => by
    unfold cArgs at h
    split at h
    · rename_i m1 q1 q2
      split at h
      · rename_i n q3
        cases h
        obtain ⟨h1, _, h3⟩ := cArgs_ok hL q3
        refine ⟨by unfold noStars; rw [q1, h1]; rfl, fun z => (by cases z), fun fr gl => ?_⟩
        exact ma_cons (hL.E q2 fr gl) (h3 fr gl) (star_cons q1)
      · cases h
    · cases h
/-- a display's items -/
def cItems (L : Lv) (cfg : CF) : List Expr → Option (Tb → AM)
  | [] => some fun _ => mNil
  | .Starred e p :: r => match L.E cfg e, cItems L cfg r with
    | some m, some n => some fun T => mStar (m T) (n T)
    | _, _ => none
  | e :: r => match notStar e, L.E cfg e with
    | true, some m => match cItems L cfg r with
      | some n => some fun T => mCons (m T) (n T)
      | none => none
    | _, _ => none
theorem cItems_ok {L : Lv} (hL : LvOk L) {cfg : CF} : ∀ {es : List Expr} {m : Tb → AM}, cItems L cfg es = some m → ∀ {X : Cx} {G : Gd} {W : WX} {T : Tb} {kk : Nat}, FrOk X G W cfg → GlOk X G cfg T kk → PA X es (tA G (fm X) W (m T))
  | [], m, h => by
    unfold cItems at h
    cases h
    exact fun _ _ => ma_nil
  | e :: r, m, h => by
    unfold cItems at h
    intro fr gl
    split at h
    · rename_i q; cases q
    · rename_i q
      cases q
      split at h
      · rename_i m1 n q1 q2
        cases h
        exact ma_star fr.K (hL.E q1 fr gl) (cItems_ok hL q2 fr gl) rfl
      · cases h
    · rename_i q
      cases q
      split at h
      · rename_i m1 q1 q2
        split at h
        · rename_i n q3
          cases h
          exact ma_cons (hL.E q2 fr gl) (cItems_ok hL q3 fr gl) (star_cons q1)
        · cases h
      · cases h
/-- an operator's plain function -/
def cBin : Operator → Option (AV → AV → Sto → Out AV)
  | .Add => some fAdd
  | .Sub => some (fI gSub)
  | .Mult => some fMul
  | .Mod => some (fI gMod)
  | .FloorDiv => some (fI gDiv)
  | _ => none
theorem cBin_ok {op : Operator} {f : AV → AV → Sto → Out AV} (h : cBin op = some f) {X : Cx} {G : Gd} {F : Fm} {W : WX} (hk : X.K = G.K) : ∃ r, OpR X (binaryOp op) r ∧ OpS G F W r f := by
  unfold cBin at h
  split at h
  · cases h; exact ⟨_, op_addB, os_addB hk⟩
  · cases h; exact ⟨_, op_sub, os_sub⟩
  · cases h; exact ⟨_, op_mulB, os_mulB⟩
  · cases h; exact ⟨_, op_mod, os_mod⟩
  · cases h; exact ⟨_, op_fdiv, os_div⟩
  · cases h
def tblOf (cfg : CF) : Expr → Option (Nat × Tbl)
  | .Name x _ => match gloOf cfg x with
    | some (.tbl j t) => some (j, t)
    | _ => none
  | _ => none
def isNone : Expr → Bool
  | .Constant .none _ _ => true
  | _ => false
theorem room64 {k : Nat} {A : Around} (h : Room k A) : A.units + 64 < cLine := by
  have := h.un
  omega
theorem room65 {k : Nat} {A : Around} (h : Room k A) : A.units + 65 < cLine := by
  have := h.un
  omega
theorem room1 {k : Nat} {A : Around} (h : Room k A) : A.units + 1 < cLine := by
  have := h.un
  omega
def cCmp (cfg : CF) (op : CmpOp) (b : Expr) : Option (AV → AV → Sto → Out AV) := match op with
  | .Eq => match cfg.calm with
    | true => some fun x y S => orBad (fEq x y S) (fEqD x y S)
    | false => some fEq
  | .NotEq => match cfg.calm with
    | true => some fun x y S => orBad (fNe x y S) (fNeD x y S)
    | false => some fNe
  | .Lt => some (fI gLt)
  | .LtE => some (fI gLe)
  | .Gt => some (fI gGt)
  | .GtE => some (fI gGe)
  | .Is => match isNone b with
    | true => some fIsN
    | false => some (fIsTy false)
  | .IsNot => match isNone b with
    | true => some fNotN
    | false => some (fIsTy true)
  | .In => match tblOf cfg b with
    | some (j, t) => some (fInT false j t)
    | none => match cfg.calm with
      | true => some fun x y S => orBad (orBad (fIn false x y S) (fInDct false x y S)) (fInX false x y S)
      | false => some (fIn false)
  | .NotIn => match tblOf cfg b with
    | some (j, t) => some (fInT true j t)
    | none => match cfg.calm with
      | true => some fun x y S => orBad (orBad (fIn true x y S) (fInDct true x y S)) (fInX true x y S)
      | false => some (fIn true)
theorem tblOf_ok {cfg : CF} {b : Expr} {j : Nat} {t : Tbl} (h : tblOf cfg b = some (j, t)) {X : Cx} {G : Gd} {W : WX} {T : Tb} {kk : Nat} (fr : FrOk X G W cfg) (gl : GlOk X G cfg T kk) : (∃ es n, KDict X.K X.w (G.fa j) es n) ∧ TblOk X.K (G.fa j) t := by
  unfold tblOf at h
  split at h
  · split at h
    · rename_i q
      cases h
      obtain ⟨_, _, _, h2⟩ := gloOf_ok fr gl q
      exact h2
    · cases h
  · cases h
theorem cCmp_ok {cfg : CF} {op : CmpOp} {b : Expr} {f : AV → AV → Sto → Out AV} (h : cCmp cfg op b = some f) {X : Cx} {G : Gd} {W : WX} {T : Tb} {kk : Nat} (fr : FrOk X G W cfg) (gl : GlOk X G cfg T kk) : ∃ r, OpR X (compareOp op) r ∧ OpS G (fm X) W r f := by
  have hk := fr.K
  unfold cCmp at h
  split at h
  · split at h
    · rename_i q; cases h; exact ⟨_, op_eq.or (op_eqD (room64 (gl.room q))), os_or os_eq (os_eqD hk)⟩
    · cases h; exact ⟨_, op_eq, os_eq⟩
  · split at h
    · rename_i q; cases h; exact ⟨_, op_ne.or (op_neD (room64 (gl.room q))), os_or os_ne (os_neD hk)⟩
    · cases h; exact ⟨_, op_ne, os_ne⟩
  · cases h; exact ⟨_, op_lt, os_lt⟩
  · cases h; exact ⟨_, op_le, os_le⟩
  · cases h; exact ⟨_, op_gt, os_gt⟩
  · cases h; exact ⟨_, op_ge, os_ge⟩
  · split at h
    · cases h; exact ⟨_, op_isN, os_isN⟩
    · cases h; exact ⟨_, op_isTyB, os_isTy⟩
  · split at h
    · cases h; exact ⟨_, op_notN, os_notN⟩
    · cases h; exact ⟨_, op_notTyB, os_notTy⟩
  · split at h
    · rename_i j t q
      cases h
      obtain ⟨⟨es, n, D⟩, ht⟩ := tblOf_ok q fr gl
      exact ⟨_, op_in_kd D, os_inT (neg := false) hk (by rw [← hk]; exact ht)⟩
    · split at h
      · rename_i q; cases h; exact ⟨_, (op_inB.or (op_inDct (room1 (gl.room q)))).or (op_inX (room65 (gl.room q))), os_or (os_or (os_in hk) os_inDct) (os_inX hk)⟩
      · cases h; exact ⟨_, op_inB, os_in hk⟩
  · split at h
    · rename_i j t q
      cases h
      obtain ⟨⟨es, n, D⟩, ht⟩ := tblOf_ok q fr gl
      exact ⟨_, op_notIn_kd D, os_inT (neg := true) hk (by rw [← hk]; exact ht)⟩
    · split at h
      · rename_i q; cases h; exact ⟨_, (op_notInB.or (op_notInDct (room1 (gl.room q)))).or (op_notInX (room65 (gl.room q))), os_or (os_or (os_in hk) os_inDct) (os_inX hk)⟩
      · cases h; exact ⟨_, op_notInB, os_in hk⟩
/-! ### comparisons -/
def cCompare (L : Lv) (cfg : CF) (a : Expr) (ops : List CmpOp) (bs : List Expr) : Option (Tb → EM) := match ops, bs with
  | [op], [b] => match notSet b, L.E cfg a, L.E cfg b, cCmp cfg op b with
    | true, some ma, some mb, some f => some fun T => mBin f (ma T) (mb T)
    | _, _, _, _ => none
  | [op, op'], [b, c] => match notSet c, L.E cfg a, L.E cfg b, L.E cfg c with
    | true, some ma, some mb, some mc => match cCmp cfg op b, cCmp cfg op' c with
      | some f, some g => some fun T => mChain f g (ma T) (mb T) (mc T)
      | _, _ => none
    | _, _, _, _ => none
  | _, _ => none
theorem lastM {op op' : CmpOp} {b c : Expr} (h : notSet c = true) : lastMarks [op, op'] [b, c] = false := by
  show behindInMarks op' c = false
  exact notSet_mark h
theorem cCompare_ok {L : Lv} (hL : LvOk L) {cfg : CF} {a : Expr} {ops : List CmpOp} {bs : List Expr} {m : Tb → EM} (h : cCompare L cfg a ops bs = some m) {X : Cx} {G : Gd} {W : WX} {T : Tb} {kk : Nat} (fr : FrOk X G W cfg) (gl : GlOk X G cfg T kk) {pos : Pos} :
    PE X (.Compare a ops bs pos) (tE G (fm X) W (m T)) ∧ PT X (.Compare a ops bs pos) (tT G (fm X) W (mTb (m T))) := by
  unfold cCompare at h
  split at h
  · rename_i op b
    split at h
    · rename_i ma mb f q1 q2 q3 q4
      cases h
      obtain ⟨r, o1, o2⟩ := cCmp_ok q4 fr gl
      exact ⟨me_cmp o1 o2 (hL.E q2 fr gl) (hL.E q3 fr gl) (notSet_mark q1), mt_cmp o1 o2 (hL.E q2 fr gl) (hL.E q3 fr gl) (notSet_mark q1)⟩
    · cases h
  · rename_i op op' b c
    split at h
    · rename_i ma mb mc q1 q2 q3 q4
      split at h
      · rename_i f g p1 p2
        cases h
        obtain ⟨r, o1, o2⟩ := cCmp_ok p1 fr gl
        obtain ⟨r', o1', o2'⟩ := cCmp_ok p2 fr gl
        have ea := hL.E q2 fr gl
        have eb := hL.E q3 fr gl
        have ec := hL.E q4 fr gl
        exact ⟨me_chain o1 o1' o2 o2' ea eb ec (pe_chain o1 o1' ea eb ec (lastM q1)), mt_chain o1 o1' o2 o2' ea eb ec (lastM q1)⟩
      · cases h
    · cases h
  · cases h
/-! ### and, or -/
def cBool (L : Lv) (cfg : CF) (op : BoolOp) : List Expr → Option (Tb → EM)
  | [] => none
  | a :: r => match L.E cfg a, r with
    | some m, [] => some m
    | some m, _ :: _ => match cBool L cfg op r with
      | some n => match op with
        | .And => some fun T => mAnd (m T) (n T)
        | .Or => some fun T => mOr (m T) (n T)
      | none => none
    | none, _ => none
theorem cBool_ok {L : Lv} (hL : LvOk L) {cfg : CF} {op : BoolOp} : ∀ {es : List Expr} {m : Tb → EM}, cBool L cfg op es = some m → ∀ {X : Cx} {G : Gd} {W : WX} {T : Tb} {kk : Nat}, FrOk X G W cfg → GlOk X G cfg T kk → ∀ {pos : Pos}, PE X (.BoolOp op es pos) (tE G (fm X) W (m T))
  | [], m, h => by cases h
  | [a], m, h => by
    unfold cBool at h
    intro fr gl pos
    split at h
    · rename_i m1 q _
      cases h
      exact me_one (hL.E q fr gl)
    · rename_i q; cases q
    · cases h
  | a :: b :: r, m, h => by
    unfold cBool at h
    intro fr gl pos
    split at h
    · rename_i q; cases q
    · rename_i m1 _ _ q1 q2
      split at h
      · rename_i n q3
        have e := cBool_ok hL q3 fr gl (pos := pos)
        split at h
        · cases h; exact me_and fr.K (hL.E q1 fr gl) e
        · cases h; exact me_or fr.K (hL.E q1 fr gl) e
      · cases h
    · cases h
def cTests (L : Lv) (cfg : CF) (op : BoolOp) : List Expr → Option (Tb → TM)
  | [] => none
  | a :: r => match L.T cfg a, r with
    | some m, [] => some m
    | some m, _ :: _ => match cTests L cfg op r with
      | some n => match op with
        | .And => some fun T => mTand (m T) (n T)
        | .Or => some fun T => mTor (m T) (n T)
      | none => none
    | none, _ => none
theorem cTests_ok {L : Lv} (hL : LvOk L) {cfg : CF} {op : BoolOp} : ∀ {es : List Expr} {m : Tb → TM}, cTests L cfg op es = some m → ∀ {X : Cx} {G : Gd} {W : WX} {T : Tb} {kk : Nat}, FrOk X G W cfg → GlOk X G cfg T kk → ∀ {pos : Pos}, PW X (.BoolOp op es pos) (tT G (fm X) W (m T))
  | [], m, h => by cases h
  | [a], m, h => by
    unfold cTests at h
    intro fr gl pos
    split at h
    · rename_i m1 q _
      cases h
      cases op with
      | And => exact mw_and1 (hL.T q fr gl)
      | Or => exact mw_or1 (hL.T q fr gl)
    · rename_i q; cases q
    · cases h
  | a :: b :: r, m, h => by
    unfold cTests at h
    intro fr gl pos
    split at h
    · rename_i q; cases q
    · rename_i m1 _ _ q1 q2
      split at h
      · rename_i n q3
        have e := cTests_ok hL q3 fr gl (pos := pos)
        split at h
        · cases h; exact mw_and (hL.T q1 fr gl) e
        · cases h; exact mw_or (hL.T q1 fr gl) e
      · cases h
    · cases h
def cT (L : Lv) (cfg : CF) (e : Expr) : Option (Tb → TM) := match e with
  | .UnaryOp .Not a _ => match L.T cfg a with
    | some m => some fun T => mTnot (m T)
    | none => none
  | .BoolOp op es _ => cTests L cfg op es
  | .Compare a ops bs _ => match cCompare L cfg a ops bs with
    | some m => some fun T => mTb (m T)
    | none => none
  | .IfExp c a b _ => match L.T cfg c, L.T cfg a, L.T cfg b with
    | some t, some m, some n => some fun T => mTif (t T) (m T) (n T)
    | _, _, _ => none
  | e => match plainT e, L.E cfg e with
    | true, some m => some fun T => mTr (m T)
    | _, _ => none
theorem cT_ok {L : Lv} (hL : LvOk L) {cfg : CF} {e : Expr} {m : Tb → TM} (h : cT L cfg e = some m) {X : Cx} {G : Gd} {W : WX} {T : Tb} {kk : Nat} (fr : FrOk X G W cfg) (gl : GlOk X G cfg T kk) : PT X e (tT G (fm X) W (m T)) := by
  unfold cT at h
  split at h
  · split at h
    · rename_i m1 q
      cases h
      exact mt_not (hL.T q fr gl)
    · cases h
  · exact (cTests_ok hL h fr gl).pt
  · split at h
    · rename_i m1 q
      cases h
      exact (cCompare_ok hL q fr gl).2
    · cases h
  · split at h
    · rename_i t m1 m2 q1 q2 q3
      cases h
      exact mt_ifE (hL.T q1 fr gl) (hL.T q2 fr gl) (hL.T q3 fr gl)
    · cases h
  · split at h
    · rename_i m1 q1 q2
      cases h
      exact mt_tr fr.K (hL.E q2 fr gl) (plainT_ok q1)
    · cases h
/-! ### subscripts -/
def cOpt (L : Lv) (cfg : CF) : Option Expr → Option (Tb → OM)
  | none => some fun _ => mONone
  | some e => match L.E cfg e with
    | some m => some fun T => mOSome (m T)
    | none => none
theorem cOpt_ok {L : Lv} (hL : LvOk L) {cfg : CF} {o : Option Expr} {m : Tb → OM} (h : cOpt L cfg o = some m) {X : Cx} {G : Gd} {W : WX} {T : Tb} {kk : Nat} (fr : FrOk X G W cfg) (gl : GlOk X G cfg T kk) : PO X o (tO G (fm X) W (m T)) := by
  unfold cOpt at h
  split at h
  · cases h; exact mo_none
  · split at h
    · rename_i q; cases h; exact mo_some (hL.E q fr gl)
    · cases h
def cSub (L : Lv) (cfg : CF) (a b : Expr) : Option (Tb → EM) := match b with
  | .Slice lo hi none _ => match L.E cfg a, cOpt L cfg lo, cOpt L cfg hi with
    | some m, some l, some u => some fun T => mSl (m T) (l T) (u T)
    | _, _, _ => none
  | .Slice none none (some (.UnaryOp .USub (.Constant (.int 1) _ _) _)) _ => match L.E cfg a with
    | some m => some fun T => mRev (m T)
    | none => none
  | .Slice _ _ (some _) _ => none
  | b => match notSlice b, L.E cfg a, L.E cfg b with
    | true, some m, some n => match tblOf cfg a with
      | some (j, t) => some fun T => mBin (fIxT j t) (m T) (n T)
      | none => match cfg.calm with
        | true => some fun T => mBin (fun x y S => orBad (fIx x y S) (fIxDct x y S)) (m T) (n T)
        | false => some fun T => mBin fIx (m T) (n T)
    | _, _, _ => none
theorem cSub_ok {L : Lv} (hL : LvOk L) {cfg : CF} {a b : Expr} {m : Tb → EM} (h : cSub L cfg a b = some m) {X : Cx} {G : Gd} {W : WX} {T : Tb} {kk : Nat} (fr : FrOk X G W cfg) (gl : GlOk X G cfg T kk) {pos : Pos} : PE X (.Subscript a b pos) (tE G (fm X) W (m T)) := by
  unfold cSub at h
  split at h
  · split at h
    · rename_i m1 l u q1 q2 q3
      cases h
      exact me_slice fr.K (hL.E q1 fr gl) (cOpt_ok hL q2 fr gl) (cOpt_ok hL q3 fr gl)
    · cases h
  · split at h
    · rename_i q; cases h; exact me_rev (hL.E q fr gl)
    · cases h
  · cases h
  · split at h
    · rename_i m1 n q1 q2 q3
      split at h
      · rename_i j t q4
        cases h
        obtain ⟨⟨es, n', D⟩, ht⟩ := tblOf_ok q4 fr gl
        exact me_ix ix_kdict (os_ixT fr.K (by rw [← fr.K]; exact D) (by rw [← fr.K]; exact ht)) (hL.E q2 fr gl) (hL.E q3 fr gl) (notSlice_ok q1)
      · split at h
        · rename_i q
          cases h
          exact me_ix (IxR_or ix_seq (ix_dct (room1 (gl.room q)))) (os_or (os_ix fr.K) os_ixDct) (hL.E q2 fr gl) (hL.E q3 fr gl) (notSlice_ok q1)
        · cases h
          exact me_ix ix_seq (os_ix fr.K) (hL.E q2 fr gl) (hL.E q3 fr gl) (notSlice_ok q1)
    · cases h
end Sh

end

noncomputable section
namespace Sh
open PySem PySem.Spec PyProof.Rows L2 LamX He
/-! ### the text of a lambda, told apart -/
def eqList {α : Type} (f : α → α → Bool) : List α → List α → Bool
  | [], [] => true
  | a :: r, b :: q => f a b && eqList f r q
  | _, _ => false
theorem eqList_ok {α : Type} {f : α → α → Bool} (hf : ∀ a b, f a b = true → a = b) : ∀ {l m : List α}, eqList f l m = true → l = m
  | [], [], _ => rfl
  | a :: r, b :: q, h => by
    unfold eqList at h
    rw [Bool.and_eq_true] at h
    rw [hf a b h.1, eqList_ok hf h.2]
  | [], _ :: _, h => by cases h
  | _ :: _, [], h => by cases h
def eqOpt {α : Type} (f : α → α → Bool) : Option α → Option α → Bool
  | none, none => true
  | some a, some b => f a b
  | _, _ => false
theorem eqOpt_ok {α : Type} {f : α → α → Bool} (hf : ∀ a b, f a b = true → a = b) : ∀ {l m : Option α}, eqOpt f l m = true → l = m
  | none, none, _ => rfl
  | some a, some b, h => by rw [hf a b h]
  | none, some _, h => by cases h
  | some _, none, h => by cases h
def eqKw (f : Expr → Expr → Bool) (a b : Keyword) : Bool := decide (a.arg = b.arg) && (f a.value b.value && decide (a.pos = b.pos))
theorem eqKw_ok {f : Expr → Expr → Bool} (hf : ∀ a b, f a b = true → a = b) (a b : Keyword) (h : eqKw f a b = true) : a = b := by
  unfold eqKw at h
  simp only [Bool.and_eq_true,
        decide_eq_true_eq] at h
  obtain ⟨a1, a2, a3⟩ := a
  obtain ⟨b1, b2, b3⟩ := b
  obtain ⟨h1, h2, h3⟩ := h
  have h4 := hf _ _ h2
  clear h2
  simp only at h1 h4 h3
  subst h1 h4 h3
  rfl
def eqE : Nat → Expr → Expr → Bool
  | 0, _, _ => false
  | n + 1, a, b => match a, b with
    | .Name x p, .Name y q => decide (x = y) && decide (p = q)
    | .Constant c k p, .Constant d j q => decide (c = d) && (decide (k = j) && decide (p = q))
    | .Call f es ks p, .Call g fs js q => eqE n f g && (eqList (eqE n) es fs && (eqList (eqKw (eqE n)) ks js && decide (p = q)))
    | .Attribute o x p, .Attribute u y q => eqE n o u && (decide (x = y) && decide (p = q))
    | .Subscript o i p, .Subscript u j q => eqE n o u && (eqE n i j && decide (p = q))
    | .Slice a b c p, .Slice d e f q => eqOpt (eqE n) a d && (eqOpt (eqE n) b e && (eqOpt (eqE n) c f && decide (p = q)))
    | .Tuple es k p, .Tuple fs j q => eqList (eqE n) es fs && (decide (k = j) && decide (p = q))
    | .List es p, .List fs q => eqList (eqE n) es fs && decide (p = q)
    | .BinOp a o b p, .BinOp c u d q => eqE n a c && (decide (o = u) && (eqE n b d && decide (p = q)))
    | .UnaryOp o a p, .UnaryOp u b q => decide (o = u) && (eqE n a b && decide (p = q))
    | .Compare a os es p, .Compare b us fs q => eqE n a b && (decide (os = us) && (eqList (eqE n) es fs && decide (p = q)))
    | .BoolOp o es p, .BoolOp u fs q => decide (o = u) && (eqList (eqE n) es fs && decide (p = q))
    | _, _ => false
theorem eqE_ok : ∀ (n : Nat) (a b : Expr), eqE n a b = true → a = b
  | 0, _, _, h => by cases h
  | n + 1, a, b, h => by
    have ih := eqE_ok n
    unfold eqE at h
    split at h
    · simp only [Bool.and_eq_true, decide_eq_true_eq] at h; rw [h.1, h.2]
    · simp only [Bool.and_eq_true, decide_eq_true_eq] at h; rw [h.1, h.2.1, h.2.2]
    · simp only [Bool.and_eq_true, decide_eq_true_eq] at h; rw [ih _ _ h.1, eqList_ok ih h.2.1, eqList_ok (eqKw_ok ih) h.2.2.1, h.2.2.2]
    · simp only [Bool.and_eq_true, decide_eq_true_eq] at h; rw [ih _ _ h.1, h.2.1, h.2.2]
    · simp only [Bool.and_eq_true, decide_eq_true_eq] at h; rw [ih _ _ h.1, ih _ _ h.2.1, h.2.2]
    · simp only [Bool.and_eq_true, decide_eq_true_eq] at h; rw [eqOpt_ok ih h.1, eqOpt_ok ih h.2.1, eqOpt_ok ih h.2.2.1, h.2.2.2]
    · simp only [Bool.and_eq_true, decide_eq_true_eq] at h; rw [eqList_ok ih h.1, h.2.1, h.2.2]
    · simp only [Bool.and_eq_true, decide_eq_true_eq] at h; rw [eqList_ok ih h.1, h.2]
    · simp only [Bool.and_eq_true, decide_eq_true_eq] at h; rw [ih _ _ h.1, h.2.1, ih _ _ h.2.2.1, h.2.2.2]
    · simp only [Bool.and_eq_true, decide_eq_true_eq] at h; rw [h.1, ih _ _ h.2.1, h.2.2]
    · simp only [Bool.and_eq_true, decide_eq_true_eq] at h; rw [ih _ _ h.1, h.2.1, eqList_ok ih h.2.2.1, h.2.2.2]
    · simp only [Bool.and_eq_true, decide_eq_true_eq] at h; rw [h.1, eqList_ok ih h.2.1, h.2.2]
    · cases h
def eqArg (a b : Arg) : Bool := decide (a.arg = b.arg) && (a.annotation.isNone && (b.annotation.isNone && decide (a.pos = b.pos)))
theorem eqArg_ok (a b : Arg) (h : eqArg a b = true) : a = b := by
  unfold eqArg at h
  simp only [Bool.and_eq_true, decide_eq_true_eq, Option.isNone_iff_eq_none] at h
  obtain ⟨a1, a2, a3⟩ := a
  obtain ⟨b1, b2, b3⟩ := b
  obtain ⟨h1, h2, h3, h4⟩ := h
  simp only at h1 h2 h3 h4
  subst h1 h2 h3 h4
  rfl
def eqArgs (a b : Arguments) : Bool := plainA a && (plainA b && eqList eqArg a.args b.args)
theorem eqArgs_ok {a b : Arguments} (h : eqArgs a b = true) : a = b := by
  unfold eqArgs at h
  simp
        only [Bool.and_eq_true] at h
  rw [plainA_ok h.1, plainA_ok h.2.1, eqList_ok eqArg_ok h.2.2]
/-- the names that a lambda captures, in the order of its closure -/
def freeR : List (Str × NameKind) → List Str
  | [] => []
  | (n, k) :: r => freeR r ++ (if k == .free then [n] else [])
theorem cloFrom_freeR {cells : List (Str × Addr)} : ∀ {names : List (Str × NameKind)} {acc : List (Str × Addr)}, cloFrom cells names acc = ((freeR names).map fun n => (n, (cells.lookup n).getD 0)) ++ acc
  | [], acc => rfl
  | (n, k) :: r, acc => by
    unfold cloFrom freeR
    by_cases hk :
          (k == NameKind.free) = true
    · rw [if_pos hk, if_pos hk, cloFrom_freeR]
      simp
    · rw [if_neg hk, if_neg hk, cloFrom_freeR]
      simp
def ixAll (N : List Str) : List Str → Option (List Nat)
  | [] => some []
  | x :: r => match ix N x, ixAll N r with
    | some i, some is => some (i :: is)
    | _, _ => none
theorem ixAll_ok {N : List Str} : ∀ {l : List Str} {js : List Nat}, ixAll N l = some js → js.map (fun j => N[j]?) = l.map some
  | [], js, h => by
    unfold ixAll at h
    cases h
    rfl
  | x :: r, js, h => by
    unfold ixAll at h
    split at h
    · rename_i i is q1 q2
      cases h
      rw [List.map_cons, List.map_cons, ix_ok q1, ixAll_ok q2]
    · cases h
def posNo (l : List ((Nat × Nat) × Nat)) (p : Pos) : Option Nat := match l with
  | [] => none
  | ((a, b), c) :: r => match Nat.beq a p.line, Nat.beq b p.col with
    | true, true => some c
    | _, _ => posNo r p
def capOk (sc : Scope) (names : List (Str × NameKind)) : Bool := names.all fun y => match y.2 with
  | .free => (match sc.names.lookup y.1 with
    | some .cell => true
    | some .free => true
    | _ => false)
  | _ => true
def cLambda (cfg : CF) (params : Arguments) (body : Expr) (scope : Scope) (pos : Pos) : Option (Tb → EM) := match cfg.lamk, posNo cfg.lamNo pos with
  | true, some c => match eqArgs (cfg.lam c).params params && (eqE 40 (cfg.lam c).body body && (decide ((cfg.lam c).scope = scope) && (decide ((cfg.lam c).q = cfg.q ++ "<lambda>") && (decide ((cfg.lam c).fr = freeR scope.names) && capOk cfg.sc scope.names)))), ixAll cfg.N (cfg.lam c).fr with
    | true, some js => match decide js.Nodup with
      | true => some fun _ => mLam c js
      | false => none
    | _, _ => none
  | _, _ => none
theorem cLambda_ok {cfg : CF} {params : Arguments} {body : Expr} {scope : Scope} {pos : Pos} {m : Tb → EM} (h : cLambda cfg params body scope pos = some m) {X : Cx} {G : Gd} {W : WX} {T : Tb} {kk : Nat} (fr : FrOk X G W cfg) (gl : GlOk X G cfg T kk) : PE X (.Lambda params body scope pos) (tE G (fm X) W (m T)) := by
  unfold cLambda at h
  split at h
  · rename_i c q0 q1
    split at h
    · rename_i js q2 q3
      split at h
      · rename_i q4
        cases h
        simp only [Bool.and_eq_true,
              decide_eq_true_eq] at q2
        obtain ⟨e1, e2, e3, e4, e5, e6⟩ := q2
        obtain ⟨cp, P, TB, hcode, hm, hu⟩ := fr.lamk q0
        have p1 := eqArgs_ok e1
        have p2 := eqE_ok _ _ _ e2
        rw [← p1, ← p2, ← e3]
        have hl := fr.lam
        rw [← hl] at e1 e4 e3 e5 q3 ⊢
        have pl : plainA (G.lam c).params = true := by unfold eqArgs at e1; simp only [Bool.and_eq_true] at e1; exact e1.1
        refine me_lam c js TB hcode (by rw [fr.q]; exact e4) (by rw [e4]; exact hm) (fun p hp e => by rw [e4]; exact hu p hp e) ?_ (fun y hy e => ?_) (fun cells => ?_) ?_ (of_decide_eq_true q4)
        · rw [plainA_ok pl]; rfl
        · rw [fr.sc]
          unfold capOk at e6
          rw [List.all_eq_true] at e6
          rw [e3] at hy
          have z := e6 y hy
          simp only [e] at z
          split at z <;> first
            | exact .inl (by assumption)
            | exact .inr (by assumption)
            | cases z
        · rw [cloFrom_freeR, List.append_nil, e5, e3]
        · have := ixAll_ok q3
          rw [← fr.N] at this
          exact this
      · cases h
    · cases h
  · cases h
/-! ### names that lambdas capture -/
def capN : Nat → Expr → List Str
  | 0, _ => []
  | n + 1, e => match e with
    | .Lambda _ _ sc _ => freeR sc.names
    | .Call f es ks _ => capN n f ++ ((es.map (capN n)).flatten ++ (ks.map fun k => capN n k.value).flatten)
    | .List es _ => (es.map (capN n)).flatten
    | .Tuple es _ _ => (es.map (capN n)).flatten
    | .BinOp a _ b _ => capN n a ++ capN n b
    | .BoolOp _ es _ => (es.map (capN n)).flatten
    | .Compare a _ es _ => capN n a ++ (es.map (capN n)).flatten
    | .UnaryOp _ a _ => capN n a
    | .IfExp a b c _ => capN n a ++ (capN n b ++ capN n c)
    | .Subscript a b _ => capN n a ++ capN n b
    | .Attribute a _ _ => capN n a
    | .Starred a _ => capN n a
    | .ListComp _ [⟨_, it, _, _⟩] _ _ => capN n it
    | _ => []
def ckB (sc : Scope) (x : Str) : Bool := match sc.names.lookup x with
  | some .cell => true
  | some .free => true
  | _ => false
theorem ckB_ok {sc : Scope} {x : Str} (h : ckB sc x = true) : CK sc x := by
  unfold ckB at h
  split at h
  · exact .inl (by assumption)
  · exact .inr (by assumption)
  · cases h
def jsOf (cfg : CF) : List Str → List Nat
  | [] => []
  | x :: r => match ckB cfg.sc x, ix cfg.N x with
    | true, some j => match (jsOf cfg r).contains j with
      | true => jsOf cfg r
      | false => j :: jsOf cfg r
    | _, _ => jsOf cfg r
theorem jsOf_ok {X : Cx} {G : Gd} {W : WX} {cfg : CF} (fr : FrOk X G W cfg) : ∀ {l : List Str}, ∀ j ∈ jsOf cfg l, ∃ n, X.N[j]? = some n ∧ CK X.env.scope n
  | [], j, h => by cases h
  | x :: r, j, h => by
    unfold jsOf at h
    split at h
    · rename_i i q1 q2
      split at h
      · exact jsOf_ok fr j h
      · rcases
            List.mem_cons.mp h with e | h
        · subst e
          exact ⟨x, by rw [fr.N]; exact ix_ok q2, by rw [fr.sc]; exact ckB_ok q1⟩
        · exact jsOf_ok fr j h
    · exact jsOf_ok fr j h
/-! ### built-ins, methods, calls -/
def bt2 (x : Str) : Option (Bool × (List AV → Sto → Out AV)) := match decide (x = "any") with
  | true => some (true, fAny)
  | false => match decide (x = "sum") with
    | true => some (true, fSum)
    | false => match decide (x = "min") with
      | true => some (true, fMin)
      | false => match decide (x = "max") with
        | true => some (true, fMax)
        | false => match decide (x = "int") with
          | true => some (false, fInt)
          | false => match decide (x = "str") with
            | true => some (false, fStr)
            | false => none
def bt1 (x : Str) : Option (Bool × (List AV → Sto → Out AV)) := match decide (x = "len") with
  | true => some (false, fLen)
  | false => match decide (x = "all") with
    | true => some (true, fAll)
    | false => match decide (x = "type") with
      | true => some (false, fType)
      | false => match decide (x = "list") with
        | true => some (false, fList)
        | false => match decide (x = "tuple") with
          | true => some (false, fTuple)
          | false => match decide (x = "sorted") with
            | true => some (true, fSortedA)
            | false => match decide (x = "dict") with
              | true => some (false, fDict)
              | false => bt2 x
def tyNos (cfg : CF) : List Expr → Option (List Nat)
  | [] => some []
  | .Name y _ :: r => match gloOf cfg y, tyNo y, tyNos cfg r with
    | some .bt, some n, some ns => some (n :: ns)
    | _, _, _ => none
  | _ => none
theorem tyNos_ok {cfg : CF} : ∀ {es : List Expr} {ns : List Nat}, tyNos cfg es = some ns → allLe6 ns = true ∧ ∀ {X : Cx} {G : Gd} {W : WX} {T : Tb} {kk : Nat}, FrOk X G W cfg → GlOk X G cfg T kk → PA X es (tCs (ns.map fun c => .ty (tyN c)))
  | [], ns, h => by
    unfold tyNos at h
    cases h
    exact ⟨rfl, fun _ _ => pa_cs0⟩
  | e :: r, ns, h => by
    unfold tyNos at h
    split at h
    · rename_i q; cases q
    · rename_i y p r' q
      cases q
      split at h
      · rename_i n ns' q1 q2 q3
        cases h
        obtain ⟨h1, h2⟩ := tyNos_ok q3
        obtain ⟨b1, b2⟩ := tyNo_ok q2
        refine ⟨by unfold allLe6; rw [b2]; exact h1, fun fr gl => ?_⟩
        obtain ⟨g1, g2, g3⟩ := gloOf_ok fr gl q1
        obtain ⟨n1, n2, n3⟩ := okName_ok g2
        exact pa_cs (pe_bltn g1 g3 (v := .ty (tyN n)) b1 rfl n3 n1) (h2 fr gl) (star_cons rfl)
      · cases h
    · cases h
def isIsi (x : Str) : Bool := decide (x = "isinstance")
def isRng (x : Str) : Bool := decide (x = "range")
def isLst (x : Str) : Bool := decide (x = "list")
def lenLe (cs : List Nat) : Bool := Nat.ble cs.length 100
def cBt (L : Lv) (cfg : CF) (x : Str) (args : List Expr) : Option (Tb → EM) := match isIsi x, args with
  | true, [a, .Name c _] => match notStar a, L.E cfg a, gloOf cfg c, tyNo c with
    | true, some m, some .bt, some n => some fun T => mIsi [n] (m T)
    | _, _, _, _ => none
  | true, [a, .Tuple es _ _] => match notStar a, L.E cfg a, tyNos cfg es with
    | true, some m, some ns => match lenLe ns with
      | true => some fun T => mIsi ns (m T)
      | false => none
    | _, _, _ => none
  | false, [.Call (.Attribute e n apos) [] [] cpos] => match isLst x && (decide (n = "items") && (cfg.calm && (notSuper e && (apos.endLine == cpos.line)))) with
    | true => match L.E cfg e with
      | some m => some fun T => mItems (m T)
      | none => none
    | false => match bt1 x, cArgs L cfg [.Call (.Attribute e n apos) [] [] cpos] with
      | some (c, f), some m => match !c || cfg.calm with
        | true => some fun T => mCall f (m T)
        | false => none
      | _, _ => none
  | false, [.Call (.Name y py) [a] [] pp] => match isLst x && (isRng y && (cfg.calm && notStar a)), gloOf cfg y, L.E cfg a with
    | true, some .bt, some m => some fun T => mLRg1 (m T)
    | _, _, _ => match bt1 x, cArgs L cfg [.Call (.Name y py) [a] [] pp] with
      | some (c, f), some m => match !c || cfg.calm with
        | true => some fun T => mCall f (m T)
        | false => none
      | _, _ => none
  | false, a :: r => match bt1 x, cArgs L cfg (a :: r) with
    | some (c, f), some m => match !c || cfg.calm with
      | true => some fun T => mCall f (m T)
      | false => none
    | _, _ => none
  | _, _ => none
theorem bt2_ok {X : Cx} {G : Gd} {W : WX} {cfg : CF} {x : Str} {c : Bool} {f : List AV → Sto → Out AV} {a : Expr} {r : List Expr} {m : AM} {p pos : Pos} (h : bt2 x = some (c, f)) (hc : (!c || cfg.calm) = true) (fr : FrOk X G W cfg) (g1 : Gl X x) (g3 : X.mg x = none) (ha : PA X (a :: r) (tA G (fm X) W m))
    (s1 : starEach (a :: r) X.env = (false, eval a X.env) :: starEach r X.env) (s2 : (backTo pos (starEach r X.env)).any (·.1) = false) : PE X (.Call (.Name x p) (a :: r) [] pos) (tE G (fm X) W (mCall f m)) := by
  unfold bt2 at h
  split at h
  · rename_i e
    have e := of_decide_eq_true e
    cases h
    subst e
    exact me_callB (cr_any (fr.calm (by simpa using hc))) (cs_any fr.K) g3 rfl ha g1 (by decide) (by decide) s1 s2
  · split at h
    · rename_i e
      have e := of_decide_eq_true e
      cases h
      subst e
      exact me_callB (cr_sum (fr.calm (by simpa using hc))) (cs_sum fr.K) g3 rfl ha g1 (by decide) (by decide) s1 s2
    · split at h
      · rename_i e
        have e := of_decide_eq_true e
        cases h
        subst e
        exact me_callB (cr_minB (fr.calm (by simpa using hc))) (cs_min fr.K) g3 rfl ha g1 (by decide) (by decide) s1 s2
      · split at h
        · rename_i e
          have e := of_decide_eq_true e
          cases h
          subst e
          exact me_callB (cr_maxB (fr.calm (by simpa using hc))) (cs_max fr.K) g3 rfl ha g1 (by decide) (by decide) s1 s2
        · split at h
          · rename_i e
            have e := of_decide_eq_true e
            cases h
            subst e
            exact me_callTy call_int1 cs_int g3 rfl ha g1 (by decide) (by decide) s1 s2
          · split at h
            · rename_i e
              have e := of_decide_eq_true e
              cases h
              subst e
              exact me_callTy call_str_int cs_str g3 rfl ha g1 (by decide) (by decide) s1 s2
            · cases h
theorem bt1_ok {X : Cx} {G : Gd} {W : WX} {cfg : CF} {T : Tb} {kk : Nat} {x : Str} {c : Bool} {f : List AV → Sto → Out AV} {a : Expr} {r : List Expr} {m : AM} {p pos : Pos} (h : bt1 x = some (c, f)) (hc : (!c || cfg.calm) = true) (fr : FrOk X G W cfg) (g1 : Gl X x) (g3 : X.mg x = none) (hst : noStars (a :: r) = true) (ha : PA X (a :: r) (tA G (fm X) W m)) :
    PE X (.Call (.Name x p) (a :: r) [] pos) (tE G (fm X) W (mCall f m)) := by
  unfold noStars at hst
  rw [Bool.and_eq_true] at hst
  have s1 := star_cons (env := X.env) (es := r) hst.1
  have s2 := star_plain (env := X.env) (pos := pos) hst.2
  unfold bt1 at h
  split at h
  · rename_i e
    have e := of_decide_eq_true e
    cases h
    subst e
    exact me_callB call_lenB (cs_len fr.K) g3 rfl ha g1 (by decide) (by decide) s1 s2
  · split at h
    · rename_i e
      have e := of_decide_eq_true e
      cases h
      subst e
      exact me_callB (cr_all (fr.calm (by simpa using hc))) (cs_all fr.K) g3 rfl ha g1 (by decide) (by decide) s1 s2
    · split at h
      · rename_i e
        have e := of_decide_eq_true e
        cases h
        subst e
        exact me_callTy call_type1 (cs_type fr.K) g3 rfl ha g1 (by decide) (by decide) s1 s2
      · split at h
        · rename_i e
          have e := of_decide_eq_true e
          cases h
          subst e
          exact me_callTy call_list_of (cs_list fr.K) g3 rfl ha g1 (by decide) (by decide) s1 s2
        · split at h
          · rename_i e
            have e := of_decide_eq_true e
            cases h
            subst e
            exact me_callTy call_tuple_of (cs_tuple fr.K) g3 rfl ha g1 (by decide) (by decide) s1 s2
          · split at h
            · rename_i e
              have e := of_decide_eq_true e
              cases h
              subst e
              exact me_callB (cr_srtA (fr.calm (by simpa using hc))) (cs_sortedA fr.K) g3 rfl ha g1 (by decide) (by decide) s1 s2
            · split at h
              · rename_i e
                have e := of_decide_eq_true e
                cases h
                subst e
                exact me_callTy call_dictD cs_dict g3 rfl ha g1 (by decide) (by decide) s1 s2
              · exact bt2_ok h hc fr g1 g3 ha s1 s2
theorem cBt_ok {L : Lv} (hL : LvOk L) {cfg : CF} {x : Str} {args : List Expr} {m : Tb → EM} (h : cBt L cfg x args = some m) {X : Cx} {G : Gd} {W : WX} {T : Tb} {kk : Nat} (fr : FrOk X G W cfg) (gl : GlOk X G cfg T kk) (g1 : Gl X x) (g3 : X.mg x = none) {p pos : Pos} :
    PE X (.Call (.Name x p) args [] pos) (tE G (fm X) W (m T)) := by
  unfold cBt at h
  split at h
  · rename_i a c pc q0
    have e0 := of_decide_eq_true q0
    subst e0
    split at h
    · rename_i m1 n q1 q2 q3 q4
      cases h
      obtain ⟨h1, h2, h3⟩ := gloOf_ok fr gl q3
      obtain ⟨n1, n2, n3⟩ := okName_ok h2
      obtain ⟨b1, b2⟩ := tyNo_ok q4
      exact me_isi1 n fr.K gl.kit b2 rfl g3 h3 b1 (hL.E q2 fr gl) g1 h1 n3 n1 (star_cons q1) (star_cons rfl) (star_plain (es := [.Name c pc]) rfl)
    · cases h
  · rename_i a es k pt q0
    have e0 := of_decide_eq_true q0
    subst e0
    split at h
    · rename_i m1 ns q1 q2 q3
      split at h
      · rename_i q4
        cases h
        obtain ⟨h1, h2⟩ := tyNos_ok q3
        exact me_isiT ns fr.K gl.kit h1 rfl g3 (h2 fr gl) (Nat.le_of_ble_eq_true q4) (hL.E q2 fr gl) g1 (star_cons q1) (star_cons rfl) (star_plain (es := [.Tuple es k pt]) rfl)
      · cases h
    · cases h
  · rename_i e n apos cpos q0
    split at h
    · rename_i q1
      simp only [Bool.and_eq_true] at q1
      obtain ⟨z1, z2, z3, z4, z5⟩ := q1
      have e1 := of_decide_eq_true z1
      have e2 := of_decide_eq_true z2
      subst e1 e2
      split at h
      · rename_i m1 q2
        cases h
        exact me_items rfl (fr.calm z3) (hL.E q2 fr gl) g3 g1 (notSuper_ok z4) z5 (star_cons rfl)
      · cases h
    · split at h
      · rename_i c f m1 q2 q3
        split at h
        · rename_i q4
          cases h
          obtain ⟨h1, _, h3⟩ := cArgs_ok hL q3
          exact bt1_ok (T := T) (kk := kk) q2 q4 fr g1 g3 h1 (h3 fr gl)
        · cases h
      · cases h
  · rename_i y py a pp q0
    split at h
    · rename_i m1 q1 q2 q3
      cases h
      simp only [Bool.and_eq_true] at q1
      obtain ⟨z1, z2, z3, z4⟩ := q1
      have e1 := of_decide_eq_true z1
      have e2 := of_decide_eq_true z2
      subst e1 e2
      obtain ⟨h1, _, h3⟩ := gloOf_ok fr gl q2
      exact me_lRg1 (fr.calm z3) g1 g3 h1 h3 (hL.E q3 fr gl) (star_cons z4) (star_cons rfl)
    · split at h
      · rename_i c f m1 q2 q3
        split at h
        · rename_i q4
          cases h
          obtain ⟨h1, _, h3⟩ := cArgs_ok hL q3
          exact bt1_ok (T := T) (kk := kk) q2 q4 fr g1 g3 h1 (h3 fr gl)
        · cases h
      · cases h
  · rename_i a r _ _ q0
    split at h
    · rename_i c f m1 q2 q3
      split at h
      · rename_i q4
        cases h
        obtain ⟨h1, _, h3⟩ := cArgs_ok hL q3
        exact bt1_ok (T := T) (kk := kk) q2 q4 fr g1 g3 h1 (h3 fr gl)
      · cases h
    · cases h
  · cases h
def cMeth (L : Lv) (cfg : CF) (o : Expr) (name : Str) (apos : Pos) (args : List Expr) (pos : Pos) : Option (Tb → EM) := match notSuper o && (apos.endLine == pos.line), L.E cfg o, cArgs L cfg args with
  | true, some mo, some ma => match args with
    | [] => match decide (name = "pop") with
      | true => some fun T => mMeth isL fPop (mo T) mNil
      | false => none
    | [_] => match decide (name = "append") with
      | true => some fun T => mMeth isL fAppend (mo T) (ma T)
      | false => match decide (name = "extend") with
        | true => some fun T => mMeth isL fExtend (mo T) (ma T)
        | false => match decide (name = "update") with
          | true => some fun T => mMeth isDk fUpdate (mo T) (ma T)
          | false => match decide (name = "pop") with
            | true => some fun T => mMeth isL fPopA (mo T) (ma T)
            | false => match decide (name = "remove") with
              | true => some fun T => mMeth isL fRem (mo T) (ma T)
              | false => match decide (name = "index") with
                | true => some fun T => mMeth isL fIdx (mo T) (ma T)
                | false => none
    | _ => none
  | _, _, _ => none
theorem cMeth_ok {L : Lv} (hL : LvOk L) {cfg : CF} {o : Expr} {name : Str} {apos pos : Pos} {args : List Expr} {m : Tb → EM} (h : cMeth L cfg o name apos args pos = some m) {X : Cx} {G : Gd} {W : WX} {T : Tb} {kk : Nat} (fr : FrOk X G W cfg) (gl : GlOk X G cfg T kk) :
    PE X (.Call (.Attribute o name apos) args [] pos) (tE G (fm X) W (m T)) := by
  unfold cMeth at h
  split at h
  · rename_i mo ma q1 q2 q3
    rw [Bool.and_eq_true] at q1
    obtain ⟨s1, s2⟩ := q1
    obtain ⟨h1, _, h3⟩ := cArgs_ok hL q3
    have eo := hL.E q2 fr gl
    have ea := h3 fr gl
    split at h
    · split at h
      · rename_i e
        have e := of_decide_eq_true e
        cases h
        subst e
        exact me_pop fr.K eo (notSuper_ok s1) s2
      · cases h
    · rename_i a
      have st := h1
      unfold noStars at st
      rw [Bool.and_eq_true] at st
      have k1 := star_cons (env := X.env) (es := []) st.1
      have k2 := few_ok (env := X.env) (pos := pos) h1 (by show 1 < 30; decide)
      split at h
      · rename_i e
        have e := of_decide_eq_true e
        cases h
        subst e
        exact me_append fr.K eo ea (notSuper_ok s1) k2 s2 k1 rfl
      · split at h
        · rename_i e
          have e := of_decide_eq_true e
          cases h
          subst e
          exact me_extend fr.K eo ea (notSuper_ok s1) k2 s2 k1 rfl
        · split at h
          · rename_i e
            have e := of_decide_eq_true e
            cases h
            subst e
            exact me_update fr.K eo ea (notSuper_ok s1) k2 s2 k1 rfl
          · split at h
            · rename_i e
              have e := of_decide_eq_true e
              cases h
              subst e
              exact me_bm (id := "list.pop") fr.K (pe_bm PySem.F.plainAttrs_list PySem.F.slot_list_pop PySem.F.type_list_pop mt_popAt eo ea (notSuper_ok s1) k2 s2 k1 rfl) isL_ok ms_popA
            · split at h
              · rename_i e
                have e := of_decide_eq_true e
                cases h
                subst e
                exact me_bm (id := "list.remove") fr.K (pe_bm PySem.F.plainAttrs_list PySem.F.slot_list_remove PySem.F.type_list_remove mt_remove eo ea (notSuper_ok s1) k2 s2 k1 rfl) isL_ok ms_rem
              · split at h
                · rename_i e
                  have e := of_decide_eq_true e
                  cases h
                  subst e
                  exact me_bm (id := "list.index") fr.K (pe_bm PySem.F.plainAttrs_list PySem.F.slot_list_index PySem.F.type_list_index mt_index eo ea (notSuper_ok s1) k2 s2 k1 rfl) isL_ok (ms_idx fr.K)
                · cases h
    · cases h
  · cases h
/-- d.get, d.setdefault -/
def cGet (L : Lv) (cfg : CF) (o : Expr) (name : Str) (apos : Pos) (args : List Expr) (pos : Pos) : Option (Tb → EM) := match cfg.calm && (notSuper o && (apos.endLine == pos.line)), args with
  | true, [a] => match notStar a && decide (name = "get"), L.E cfg o, L.E cfg a with
    | true, some mo, some m => some fun T => mGet1 (mo T) (m T)
    | _, _, _ => none
  | true, [a, b] => match notStar a && notStar b, L.E cfg o, L.E cfg a, L.E cfg b with
    | true, some mo, some m, some n => match decide (name = "get") with
      | true => match tblOf cfg o with
        | some (j, t) => some fun T => mKGet2 j t (mo T) (m T) (n T)
        | none => some fun T => mGet2 (mo T) (m T) (n T)
      | false => match decide (name = "setdefault") with
        | true => some fun T => mSetd (mo T) (m T) (n T)
        | false => none
    | _, _, _, _ => none
  | _, _ => none
theorem cGet_ok {L : Lv} (hL : LvOk L) {cfg : CF} {o : Expr} {name : Str} {apos pos : Pos} {args : List Expr} {m : Tb → EM} (h : cGet L cfg o name apos args pos = some m) {X : Cx} {G : Gd} {W : WX} {T : Tb} {kk : Nat} (fr : FrOk X G W cfg) (gl : GlOk X G cfg T kk) :
    PE X (.Call (.Attribute o name apos) args [] pos) (tE G (fm X) W (m T)) := by
  unfold cGet at h
  split at h
  · rename_i a q0
    simp only [Bool.and_eq_true] at q0
    obtain ⟨z1, z2, z3⟩ := q0
    split at h
    · rename_i mo m1 q1 q2 q3
      cases h
      obtain ⟨y1, y2⟩ := ba q1
      have e := of_decide_eq_true y2
      subst e
      exact me_get1 (room1 (gl.room z1)) (hL.E q2 fr gl) (hL.E q3 fr gl) (m1_of (env := X.env) (notSuper_ok z2) y1 z3)
    · cases h
  · rename_i a b q0
    simp only [Bool.and_eq_true] at q0
    obtain ⟨z1, z2, z3⟩ := q0
    split at h
    · rename_i mo m1 m2 q1 q2 q3 q4
      obtain ⟨y1, y2⟩ := ba q1
      split at h
      · rename_i e
        have e := of_decide_eq_true e
        split at h
        · rename_i j t q5
          cases h
          subst e
          obtain ⟨⟨es, n, D⟩, ht⟩ := tblOf_ok q5 fr gl
          exact me_kget2 fr.K D ht (hL.E q2 fr gl) (hL.E q3 fr gl) (hL.E q4 fr gl) (m2_of (env := X.env) (notSuper_ok z2) y1 y2 z3)
        · cases h
          subst e
          exact me_get2 (room1 (gl.room z1)) (hL.E q2 fr gl) (hL.E q3 fr gl) (hL.E q4 fr gl) (m2_of (env := X.env) (notSuper_ok z2) y1 y2 z3)
      · split at h
        · rename_i e
          have e := of_decide_eq_true e
          cases h
          subst e
          exact me_setd (hL.E q2 fr gl) (hL.E q3 fr gl) (hL.E q4 fr gl) (m2_of (env := X.env) (notSuper_ok z2) y1 y2 z3)
        · cases h
    · cases h
  · cases h
def cKws (L : Lv) (cfg : CF) : List Keyword → Option (Tb → AM)
  | [] => some fun _ => mNil
  | ⟨_, e, _⟩ :: r => match L.E cfg e, cKws L cfg r with
    | some m, some n => some fun T => mCons (m T) (n T)
    | _, _ => none
theorem cKws_ok {L : Lv} (hL : LvOk L) {cfg : CF} : ∀ {kws : List Keyword} {m : Tb → AM}, cKws L cfg kws = some m → ∀ {X : Cx} {G : Gd} {W : WX} {T : Tb} {kk : Nat}, FrOk X G W cfg → GlOk X G cfg T kk → PK X kws (tA G (fm X) W (m T))
  | [], m, h => by
    unfold cKws at h
    cases h
    exact fun _ _ => mk_nil
  | ⟨nm, e, p⟩ :: r, m, h => by
    unfold cKws at h
    split at h
    · rename_i m1 n q1 q2
      cases h
      exact fun fr gl => mk_cons (hL.E q1 fr gl) (cKws_ok hL q2 fr gl)
    · cases h
/-- arguments by place and by name -/
def cArgK (L : Lv) (cfg : CF) (args : List Expr) (kws : List Keyword) : Option (List Str × (Tb → AM) × (Tb → AM)) := match kwNm kws, cArgs L cfg args, cKws L cfg kws with
  | some ks, some m, some n => match Nat.blt (args.length + kws.length) 29 with
    | true => some (ks, m, n)
    | false => none
  | _, _, _ => none
structure ArgK (X : Cx) (G : Gd) (W : WX) (args : List Expr) (kws : List Keyword) (ks : List Str) (m n : AM) : Prop where
  st : noStars args = true
  ma : PA X args (tA G (fm X) W m)
  m0 : args = [] → m = mNil
  mw : PK X kws (tA G (fm X) W n)
  ks : kwNm kws = some ks
  ln : args.length + kws.length < 29
theorem cArgK_ok {L : Lv} (hL : LvOk L) {cfg : CF} {args : List Expr} {kws : List Keyword} {ks : List Str} {m n : Tb → AM} (h : cArgK L cfg args kws = some (ks, m, n)) {X : Cx} {G : Gd} {W : WX} {T : Tb} {kk : Nat} (fr : FrOk X G W cfg) (gl : GlOk X G cfg T kk) : ArgK X G W args kws ks (m T) (n T) := by
  unfold cArgK at h
  split at h
  · rename_i k a b q1 q2 q3
    split at h
    · rename_i q4
      cases h
      obtain ⟨h1, h2, h3⟩ := cArgs_ok hL q2
      exact ⟨h1, h3 fr gl, fun e => h2 e T, cKws_ok hL q3 fr gl, q1, Nat.le_of_ble_eq_true q4⟩
    · cases h
  · cases h
/-- sorted, by keywords -/
def boolK : Expr → Option Bool
  | .Constant (.bool b) _ _ => some b
  | _ => none
def cBtK (L : Lv) (cfg : CF) (x : Str) (args : List Expr) (kws : List Keyword) : Option (Tb → EM) := match decide (x = "sorted") && cfg.calm, args, cArgK L cfg args kws with
  | true, _ :: _, some (ks, m, n) => match decide (ks = [Str.ofString "key"]) with
    | true => some fun T => mCallB fSortK (m T) (n T)
    | false => match decide (ks = [Str.ofString "reverse"]) with
      | true => match kws with
        | [⟨_, e, _⟩] => match boolK e with
          | some b => some fun T => mCallB (fSortR b) (m T) (n T)
          | none => none
        | _ => none
      | false => none
  | _, _, _ => none
theorem cBtK_ok {L : Lv} (hL : LvOk L) {cfg : CF} {x : Str} {args : List Expr} {kws : List Keyword} {m : Tb → EM} (h : cBtK L cfg x args kws = some m) {X : Cx} {G : Gd} {W : WX} {T : Tb} {kk : Nat} (fr : FrOk X G W cfg) (gl : GlOk X G cfg T kk) (g1 : Gl X x) (g3 : X.mg x = none) {p pos : Pos} :
    PE X (.Call (.Name x p) args kws pos) (tE G (fm X) W (m T)) := by
  unfold cBtK at h
  split at h
  · rename_i a r ks m1 m2 q1 q2
    obtain ⟨z1, z2⟩ := ba q1
    have e1 := of_decide_eq_true z1
    subst e1
    have hc := fr.calm z2
    have ak := cArgK_ok hL q2 fr gl
    have hst := ak.st
    unfold noStars at hst
    rw [Bool.and_eq_true] at hst
    have s1 := star_cons (env := X.env) (es := r) hst.1
    have s2 := star_plain (env := X.env) (pos := pos) hst.2
    split at h
    · rename_i q3
      have e3 := of_decide_eq_true q3
      subst e3
      cases h
      exact me_callBK cr_sortN (cs_sortK fr.K) g3 rfl ak.ma ak.mw ak.ks g1 (by decide) (by decide) s1 s2
    · split at h
      · rename_i q3
        have e3 := of_decide_eq_true q3
        subst e3
        split at h
        · split at h
          · rename_i b q4
            cases h
            exact me_callBK (cr_sortRA hc) (cs_sortRA fr.K) g3 rfl ak.ma ak.mw ak.ks g1 (by decide) (by decide) s1 s2
          · cases h
        · cases h
      · cases h
  · cases h
/-- a method of an own instance -/
def cMthO (L : Lv) (cfg : CF) (o : Expr) (name : Str) (apos : Pos) (args : List Expr) (kws : List Keyword) (pos : Pos) : Option (Tb → EM) := match cfg.calm && (notSuper o && (apos.endLine == pos.line)), cfg.no name, L.E cfg o, cArgK L cfg args kws with
  | true, some k, some mo, some (ks, m, n) => match decide (cfg.nm k = name) with
    | true => some fun T => mMth T.m k ks (mo T) (m T) (n T)
    | false => none
  | _, _, _, _ => none
theorem cMthO_ok {L : Lv} (hL : LvOk L) {cfg : CF} {o : Expr} {name : Str} {apos pos : Pos} {args : List Expr} {kws : List Keyword} {m : Tb → EM} (h : cMthO L cfg o name apos args kws pos = some m) {X : Cx} {G : Gd} {W : WX} {T : Tb} {kk : Nat} (fr : FrOk X G W cfg) (gl : GlOk X G cfg T kk) :
    PE X (.Call (.Attribute o name apos) args kws pos) (tE G (fm X) W (m T)) := by
  unfold cMthO at h
  split at h
  · rename_i k mo ks m1 n1 q1 q2 q3 q4
    split at h
    · rename_i q5
      cases h
      simp only [Bool.and_eq_true] at q1
      obtain ⟨z1, z2, z3⟩ := q1
      have a := cArgK_ok hL q4 fr gl
      exact me_mth fr.K fr.nd fr.cb fr.tk gl.m gl.nm (by rw [fr.nm]; exact of_decide_eq_true q5) (gl.room z1) (hL.E q3 fr gl) a.ma a.m0 a.st a.mw a.ks a.ln (notSuper_ok z2) z3
    · cases h
  · cases h
def cMethB (L : Lv) (cfg : CF) (o : Expr) (name : Str) (apos : Pos) (args : List Expr) (kws : List Keyword) (pos : Pos) : Option (Tb → EM) := match kws with
  | [] => match cMeth L cfg o name apos args pos with
    | some m => some m
    | none => cGet L cfg o name apos args pos
  | _ => none
theorem cMethB_ok {L : Lv} (hL : LvOk L) {cfg : CF} {o : Expr} {name : Str} {apos pos : Pos} {args : List Expr} {kws : List Keyword} {m : Tb → EM} (h : cMethB L cfg o name apos args kws pos = some m) {X : Cx} {G : Gd} {W : WX} {T : Tb} {kk : Nat} (fr : FrOk X G W cfg) (gl : GlOk X G cfg T kk) :
    PE X (.Call (.Attribute o name apos) args kws pos) (tE G (fm X) W (m T)) := by
  unfold cMethB at h
  split at h
  · split at h
    · rename_i q
      cases h
      exact cMeth_ok hL q fr gl
    · exact cGet_ok hL h fr gl
  · cases h
/-- a built-in's method, an own one -/
def cMethA (L : Lv) (cfg : CF) (o : Expr) (name : Str) (apos : Pos) (args : List Expr) (kws : List Keyword) (pos : Pos) : Option (Tb → EM) := match cMethB L cfg o name apos args kws pos, cMthO L cfg o name apos args kws pos with
  | some m, some n => some fun T => mOrB (m T) (n T)
  | some m, none => some m
  | none, n => n
def cCall (L : Lv) (cfg : CF) (f : Expr) (args : List Expr) (kws : List Keyword) (pos : Pos) : Option (Tb → EM) := match f with
  | .Name x _ => match okName x && cfg.calm, locOf cfg x with
    | true, some i => match kws, cArgs L cfg args with
      | [], some m => some fun T => mCallV T.d T.l i (m T)
      | _, _ => none
    | true, none => match gloOf cfg x with
      | some (.fn j ps) => match kws with
        | [] => match cArgs L cfg args with
          | some m => some fun T => mCallF ps.length (T.f j) (m T)
          | none => none
        | k :: r => match cArgK L cfg args (k :: r) with
          | some (ks, m, n) => some fun T => mCallK ps ks (T.f j) (m T) (n T)
          | none => none
      | some (.cls j c ps) => match cArgK L cfg args kws with
        | some (ks, m, n) => some fun T => mMake c ps ks (T.f j) (m T) (n T)
        | none => none
      | some .bt => match kws with
        | [] => cBt L cfg x args
        | k :: r => cBtK L cfg x args (k :: r)
      | _ => none
    | false, _ => none
  | .Attribute o name apos => cMethA L cfg o name apos args kws pos
  | _ => none
theorem cCall_ok {L : Lv} (hL : LvOk L) {cfg : CF} {f : Expr} {pos : Pos} {args : List Expr} {kws : List Keyword} {m : Tb → EM} (h : cCall L cfg f args kws pos = some m) {X : Cx} {G : Gd} {W : WX} {T : Tb} {kk : Nat} (fr : FrOk X G W cfg) (gl : GlOk X G cfg T kk) :
    PE X (.Call f args kws pos) (tE G (fm X) W (m T)) := by
  unfold cCall at h
  split at h
  · rename_i x px
    split at h
    · rename_i i q1 q2
      rw [Bool.and_eq_true] at q1
      obtain ⟨q1, qc⟩ := q1
      obtain ⟨n1, n2, n3⟩ := okName_ok q1
      obtain ⟨l1, l2⟩ := locOf_ok fr q2
      split at h
      · rename_i m1 q3
        cases h
        obtain ⟨h1, h2, h3⟩ := cArgs_ok hL q3
        exact me_callV i fr.nd fr.cb fr.tk gl.d gl.l (gl.room qc) (h3 fr gl) (fun e => h2 e T) h1 l1 l2 n1 n2
      · cases h
    · rename_i q1 q2
      rw [Bool.and_eq_true] at q1
      obtain ⟨q1, qc⟩ := q1
      obtain ⟨n1, n2, n3⟩ := okName_ok q1
      split at h
      · rename_i j ps q4
        obtain ⟨g1, _, g2, Fc⟩ := gloOf_ok fr gl q4
        split at h
        · split at h
          · rename_i m1 q3
            cases h
            obtain ⟨h1, h2, h3⟩ := cArgs_ok hL q3
            obtain ⟨fd, Fk, pl⟩ := Fc.ok
            exact me_call fr.nd fr.cb fr.tk Fk (gl.room qc) g2 Fc.kp pl.binds (h3 fr gl) (fun e => h2 e T) h1 g1 n1
          · cases h
        · split at h
          · rename_i ks m1 m2 q3
            cases h
            have a := cArgK_ok hL q3 fr gl
            exact me_callK fr.nd fr.cb fr.tk Fc (gl.room qc) g2 a.ma a.m0 a.st a.mw a.ks g1 n1
          · cases h
      · rename_i j c ps q4
        obtain ⟨g1, _, g2, M, p0, Fc⟩ := gloOf_ok fr gl q4
        split at h
        · rename_i ks m1 m2 q3
          cases h
          have a := cArgK_ok hL q3 fr gl
          exact me_make fr.nd fr.cb fr.tk M Fc ((gl.room qc).mono (by have := gl.pos; omega)) g2 a.ma a.m0 a.st a.mw a.ks g1 n1
        · cases h
      · rename_i q4
        obtain ⟨g1, _, g2⟩ := gloOf_ok fr gl q4
        split at h
        · exact cBt_ok hL h fr gl g1 g2
        · exact cBtK_ok hL h fr gl g1 g2
      · cases h
    · cases h
  · unfold cMethA at h
    split at h
    · rename_i m1 m2 q1 q2
      cases h
      exact me_orB (cMethB_ok hL q1 fr gl) (cMthO_ok hL q2 fr gl)
    · rename_i m1 q1 q2
      cases h
      exact cMethB_ok hL q1 fr gl
    · exact cMthO_ok hL h fr gl
  · cases h
end Sh

end

noncomputable section
namespace Sh
open PySem PySem.Spec PyProof.Rows L2 LamX He
/-! ### targets of names and tuples -/
def stOk (cfg : CF) (x : Str) : Bool := match cfg.sc.names.lookup x with
  | some .local => true
  | some .cell => cfg.fnc x
  | _ => false
theorem stOk_ok {X : Cx} {G : Gd} {W : WX} {cfg : CF} {x : Str} (fr : FrOk X G W cfg) (h : stOk cfg x = true) : L2.Loc X.env.scope x ∧ (X.fn x = true ∨ X.env.scope.names.lookup x = some .local) := by
  unfold stOk at h
  rw [fr.sc]
  unfold L2.Loc
  split at h
  · rename_i q; exact ⟨.inl q, .inr q⟩
  · rename_i q; exact ⟨.inr q, .inl (fr.fnc x h)⟩
  · cases h
theorem asg_star {e : Expr} {es : List Expr} {env : Env} (h : notStar e = true) : assignEach (e :: es) env = (false, assign e env) :: assignEach es env := by
  cases e <;> first
    | rfl
    | cases h
theorem asg_plain {env : Env} : ∀ {es : List Expr}, noStars es = true → (assignEach es env).length = es.length ∧ (assignEach es env).findIdx? (·.1) = none
  | [], _ => ⟨rfl, rfl⟩
  | e :: r, h => by
    unfold noStars at h
    rw [Bool.and_eq_true] at h
    obtain ⟨h1, h2⟩ := asg_plain (env := env) h.2
    rw [asg_star h.1]
    refine ⟨by simp [h1], ?_⟩
    rw [List.findIdx?_cons]
    simp [h2]
def cTgs (f : Expr → Option GM) : List Expr → Option GsM
  | [] => some gsNil
  | e :: r => match notStar e, f e with
    | true, some g => match cTgs f r with
      | some gs => some (gsCons g gs)
      | none => none
    | _, _ => none
def cTg : Nat → CF → Expr → Option GM
  | 0, _, _ => none
  | n + 1, cfg, e => match e with
    | .Name x _ => match stOk cfg x, ix cfg.N x with
      | true, some i => some (gSet i)
      | _, _ => none
    | .Tuple es _ _ => match cfg.calm, cTgs (cTg n cfg) es with
      | true, some gs => some (gTupL es.length gs)
      | _, _ => none
    | _ => none
theorem cTgs_star {f : Expr → Option GM} : ∀ {es : List Expr} {gs : GsM}, cTgs f es = some gs → noStars es = true
  | [], _, _ => rfl
  | e :: r, gs, h => by
    unfold cTgs at h
    split at h
    · rename_i g q1 q2
      split at h
      · rename_i gs' q3
        unfold noStars
        rw [q1, cTgs_star q3]
        rfl
      · cases h
    · cases h
section
variable {X : Cx} {G : Gd} {W : WX} {cfg : CF}
theorem cTg_ok (fr : FrOk X G W cfg) : ∀ (n : Nat) {e : Expr} {g : GM}, cTg n cfg e = some g → PG X e (tGm G (fm X) g)
  | 0, e, g, h => by cases h
  | n + 1, e, g, h => by
    unfold cTg at h
    split at h
    · rename_i x p
      split at h
      · rename_i i q1 q2
        cases h
        obtain ⟨s1, s2⟩ := stOk_ok fr q1
        exact mg_name i fr.nd (by rw [fr.N]; exact ix_ok q2) s1 s2
      · cases h
    · rename_i es k p
      split at h
      · rename_i gs q1 q2
        cases h
        have all : ∀ {es : List Expr} {gs : GsM}, cTgs (cTg n cfg) es = some gs → PGs X es (tGs G (fm X) gs) := by
          intro es
          induction es with
          | nil => intro gs h; unfold cTgs at h; cases h; exact mgs_nil
          | cons e r ih =>
            intro gs h
            unfold cTgs at h
            split at h
            · rename_i g1 p1 p2
              split at h
              · rename_i gs' p3
                cases h
                exact mgs_cons' (cTg_ok fr n p2) (ih p3) (by rw [asg_star p1]; rfl)
              · cases h
            · cases h
        obtain ⟨a1, a2⟩ := asg_plain (env := X.env) (cTgs_star q2)
        exact mg_tupL es.length fr.K (fr.calm q1) (all q2) a1 a2
      · cases h
    · cases h
/-- the slots that a target stores -/
def tgIx : Nat → List Str → Expr → List (Str × Nat)
  | 0, _, _ => []
  | n + 1, N, e => match e with
    | .Name x _ => match ix N x with
      | some i => [(x, i)]
      | none => []
    | .Tuple es _ _ => (es.map (tgIx n N)).flatten
    | _ => []
theorem cTg_v (fr : FrOk X G W cfg) {F : Fm} {vs : List Nat} : ∀ (n : Nat) {e : Expr} {g : GM}, cTg n cfg e = some g → (∀ p ∈ tgIx n cfg.N e, p.2 ∈ vs) → PG X e (tGv G F vs g)
  | 0, e, g, h, _ => by cases h
  | n + 1, e, g, h, hv => by
    unfold cTg at h
    unfold tgIx at hv
    split at h
    · rename_i x p
      split at h
      · rename_i i q1 q2
        cases h
        obtain ⟨s1, s2⟩ := stOk_ok fr q1
        simp only [q2] at hv
        exact mgv_name i fr.nd (by rw [fr.N]; exact ix_ok q2) s1 (hv (x, i) List.mem_cons_self) s2
      · cases h
    · rename_i es k p
      split at h
      · rename_i gs q1 q2
        cases h
        have all : ∀ {es : List Expr} {gs : GsM}, (∀ p ∈ (es.map (tgIx n cfg.N)).flatten, p.2 ∈ vs) → cTgs (cTg n cfg) es = some gs → PGs X es (tGsv G F vs gs) := by
          intro es
          induction es with
          | nil => intro gs _ h; unfold cTgs at h; cases h; exact mgvs_nil
          | cons e r ih =>
            intro gs hv h
            unfold cTgs at h
            split at h
            · rename_i g1 p1 p2
              split at h
              · rename_i gs' p3
                cases h
                exact mgvs_cons (cTg_v fr n p2 fun p hp => hv p (by simp [hp])) (ih (fun p hp => hv p (by
                  rw [List.map_cons, List.flatten_cons, List.mem_append]
                  exact .inr hp)) p3) (by rw [asg_star p1]; rfl)
              · cases h
            · cases h
        obtain ⟨a1, a2⟩ := asg_plain (env := X.env) (cTgs_star q2)
        exact mgv_tupL es.length fr.K (fr.calm q1) (all hv q2) a1 a2
      · cases h
    · cases h
end
/-! ### iterators -/
def cIter0 (L : Lv) (cfg : CF) (tg it : Expr) : Option (Tb → IM) := match tg, it with
  | .Tuple _ _ _, .Call (.Name x _) [a, b] [] _ => match decide (x = "zip"), gloOf cfg x with
    | true, some .bt => match cArgs L cfg [a, b] with
      | some m => some fun T => mZip (m T)
      | none => none
    | true, _ => none
    | false, _ => match L.E cfg it with
      | some m => some fun T => mItD (m T)
      | none => none
  | .Tuple _ _ _, .Call (.Name x _) [a] [] _ => match decide (x = "enumerate"), gloOf cfg x with
    | true, some .bt => match cArgs L cfg [a] with
      | some m => some fun T => mEnum (m T)
      | none => none
    | true, _ => none
    | false, _ => match L.E cfg it with
      | some m => some fun T => mItD (m T)
      | none => none
  | _, _ => match L.E cfg it with
    | some m => some fun T => mItD (m T)
    | none => none
theorem cIter0_ok {L : Lv} (hL : LvOk L) {cfg : CF} {tg it : Expr} {m : Tb → IM} (h : cIter0 L cfg tg it = some m) {X : Cx} {G : Gd} {W : WX} {T : Tb} {kk : Nat} (fr : FrOk X G W cfg) (gl : GlOk X G cfg T kk) : PI X tg it (tI G (fm X) W (m T)) := by
  unfold cIter0 at h
  split at h
  · split at h
    · rename_i q1 q2
      have e := of_decide_eq_true q1
      subst e
      obtain ⟨g1, _, g3⟩ := gloOf_ok fr gl q2
      split at h
      · rename_i m1 q3
        cases h
        obtain ⟨h1, _, h3⟩ := cArgs_ok hL q3
        unfold noStars at h1
        rw [Bool.and_eq_true] at h1
        exact mi_zip fr.K g3 (h3 fr gl) g1 (star_cons h1.1) (star_plain h1.2)
      · cases h
    · cases h
    · split at h
      · rename_i q; cases h; exact mi_anyD fr.K (hL.E q fr gl)
      · cases h
  · split at h
    · rename_i q1 q2
      have e := of_decide_eq_true q1
      subst e
      obtain ⟨g1, _, g3⟩ := gloOf_ok fr gl q2
      split at h
      · rename_i m1 q3
        cases h
        obtain ⟨h1, _, h3⟩ := cArgs_ok hL q3
        unfold noStars at h1
        rw [Bool.and_eq_true] at h1
        exact mi_enum fr.K g3 (h3 fr gl) g1 (star_cons h1.1)
      · cases h
    · cases h
    · split at h
      · rename_i q; cases h; exact mi_anyD fr.K (hL.E q fr gl)
      · cases h
  · split at h
    · rename_i q; cases h; exact mi_anyD fr.K (hL.E q fr gl)
    · cases h
/-- range, d.items(), the others -/
def cIter (L : Lv) (cfg : CF) (tg it : Expr) : Option (Tb → IM) := match it with
  | .Call (.Name x _) [a] [] _ => match decide (x = "range"), gloOf cfg x with
    | true, some .bt => match cArgs L cfg [a] with
      | some m => some fun T => mRg1 (m T)
      | none => none
    | true, _ => none
    | false, _ => cIter0 L cfg tg it
  | .Call (.Name x _) [a, b] [] _ => match decide (x = "range"), gloOf cfg x with
    | true, some .bt => match cArgs L cfg [a, b] with
      | some m => some fun T => mRg2 (m T)
      | none => none
    | true, _ => none
    | false, _ => cIter0 L cfg tg it
  | .Call (.Attribute e n apos) [] [] cpos => match decide (n = "items") && (notSuper e && (apos.endLine == cpos.line)), tg with
    | true, .Tuple _ _ _ => match L.E cfg e with
      | some m => some fun T => mItI (m T)
      | none => none
    | _, _ => cIter0 L cfg tg it
  | _ => cIter0 L cfg tg it
theorem cIter_ok {L : Lv} (hL : LvOk L) {cfg : CF} {tg it : Expr} {m : Tb → IM} (h : cIter L cfg tg it = some m) {X : Cx} {G : Gd} {W : WX} {T : Tb} {kk : Nat} (fr : FrOk X G W cfg) (gl : GlOk X G cfg T kk) : PI X tg it (tI G (fm X) W (m T)) := by
  unfold cIter at h
  split at h
  · split at h
    · rename_i q1 q2
      have e := of_decide_eq_true q1
      subst e
      obtain ⟨g1, _, g3⟩ := gloOf_ok fr gl q2
      split at h
      · rename_i m1 q3
        cases h
        obtain ⟨h1, _, h3⟩ := cArgs_ok hL q3
        unfold noStars at h1
        rw [Bool.and_eq_true] at h1
        exact mi_rg1 g3 (h3 fr gl) g1 (star_cons h1.1)
      · cases h
    · cases h
    · exact cIter0_ok hL h fr gl
  · split at h
    · rename_i q1 q2
      have e := of_decide_eq_true q1
      subst e
      obtain ⟨g1, _, g3⟩ := gloOf_ok fr gl q2
      split at h
      · rename_i m1 q3
        cases h
        obtain ⟨h1, _, h3⟩ := cArgs_ok hL q3
        unfold noStars noStars at h1
        simp
              only [Bool.and_eq_true] at h1
        exact mi_rg2 g3 (h3 fr gl) g1 (by rw [star_cons h1.1, star_cons h1.2.1]; rfl) (by rw [star_cons h1.2.1]; rfl)
      · cases h
    · cases h
    · exact cIter0_ok hL h fr gl
  · split at h
    · rename_i q1
      simp only [Bool.and_eq_true] at q1
      obtain ⟨z1, z2, z3⟩ := q1
      have e := of_decide_eq_true z1
      subst e
      split at h
      · rename_i m1 q
        cases h
        exact mi_items (hL.E q fr gl) (notSuper_ok z2) z3
      · cases h
    · exact cIter0_ok hL h fr gl
  · exact cIter0_ok hL h fr gl
/-- what is locked while it is walked over: a dict that is told by a name, a field, an item -/
def simpleE : Nat → Expr → Bool
  | 0, _ => false
  | n + 1, e => match e with
    | .Name _ _ => true
    | .Constant _ _ _ => true
    | .Attribute a _ _ => simpleE n a
    | .Subscript a b _ => simpleE n a && simpleE n b
    | _ => false
def lkOf : Expr → Option Expr
  | .Call (.Attribute e n _) [] [] _ => match decide (n = "items") && simpleE 8 e with
    | true => some e
    | false => none
  | e => match simpleE 8 e with
    | true => some e
    | false => none
def lkE (L : Lv) (cfg : CF) (it : Expr) : Option (Tb → EM) := match lkOf it with
  | some e => L.E cfg e
  | none => none
/-- a comprehension, its dict locked -/
def cLk (L : Lv) (cfg : CF) (it : Expr) (o : Option (Tb → EM)) : Option (Tb → EM) := match o, lkE L cfg it with
  | some m, some me => some fun T => mLkE (me T) (m T)
  | o, _ => o
theorem cLk_ok {L : Lv} {cfg : CF} {it e : Expr} {o : Option (Tb → EM)} {m : Tb → EM} {X : Cx} {G : Gd} {W : WX} {T : Tb} (ho : ∀ {m}, o = some m → PE X e (tE G (fm X) W (m T))) (h : cLk L cfg it o = some m) : PE X e (tE G (fm X) W (m T)) := by
  unfold cLk at h
  split at h
  · rename_i m1 me q
    cases h
    exact me_lk (ho rfl)
  · exact ho h
/-! ### comprehensions -/
def blkCfg (cfg : CF) (scope : Scope) : CF := { cfg with sc := relS scope cfg.sc, fnc := fun x => scope.names.lookup x == some .cell, top := false }
def capIx (scope : Scope) : List Str → Nat → List Nat
  | [], _ => []
  | x :: r, i => match scope.names.lookup x with
    | some .free => i :: capIx scope r (i + 1)
    | _ => capIx scope r (i + 1)
theorem capIx_ok {scope : Scope} : ∀ {N : List Str} {i j : Nat} {n : Str}, N[j]? = some n → scope.names.lookup n = some .free → i + j ∈ capIx scope N i
  | [], i, j, n, h, _ => by simp at h
  | x :: r, i, j, n, h, hf => by
    unfold capIx
    cases j with
    | zero =>
      simp at h
      subst h
      rw [hf]
      exact List.mem_cons_self
    | succ j =>
      have := capIx_ok (i := i + 1) (by simpa using h) hf
      have e : i + 1 + j = i + (j + 1) := by omega
      rw [e] at this
      split
      · exact List.mem_cons_of_mem _ this
      · exact this
theorem blk_fr {X : Cx} {G : Gd} {W : WX} {cfg : CF} (fr : FrOk X G W cfg) {scope : Scope} {s : Shared} {H : Hp} {Lc : Addr} {cl : List (Str × Addr)} {fp : List Addr} (out : CellsOut X cl) : FrOk (X.blk s H scope (compEnvC scope cl Lc X.env) fp) G W0 (blkCfg cfg scope) where
  N := fr.N
  sc := by
    show relS scope X.env.scope = relS scope cfg.sc
    rw [fr.sc]
  q := fr.q
  K := fr.K
  nd := fr.nd
  cb := cbx_blk out
  tk := L2.takes0
  lam := fr.lam
  nm := fr.nm
  fnc := fun x h => h
  calm := fr.calm
  top := fun h => by cases h
  po := fun h => by cases h
  lamk := fr.lamk
theorem blk_gl {X : Cx} {G : Gd} {cfg : CF} {T : Tb} {kk : Nat} (gl : GlOk X G cfg T kk) {scope : Scope} {s : Shared} {H : Hp} {Lc : Addr} {cl : List (Str × Addr)} {fp : List Addr} : GlOk (X.blk s H scope (compEnvC scope cl Lc X.env) fp) G (blkCfg cfg scope) T kk :=
  ⟨gl.glob, gl.d, gl.l, gl.room, gl.kit, gl.exm, gl.nm, gl.fld, gl.m, gl.pos⟩
def cIfs (L : Lv) (cfg : CF) : List Expr → Option (Tb → Option TM)
  | [] => some fun _ => none
  | [e] => match L.T cfg e with
    | some m => some fun T => some (mBlkT (m T))
    | none => none
  | _ => none
/-- the parts of a comprehension: its iterator, its target's slots, its target, its tests, its element -/
def cComp (L : Lv) (cfg : CF) (elt tg it : Expr) (ifs : List Expr) (scope : Scope) : Option (Tb → EM) := match cfg.calm && (notSet it && blkC cfg.N cfg.sc scope (tgIx 5 cfg.N tg)), cIter L cfg tg it, cTg 5 (blkCfg cfg scope) tg with
  | true, some mi, some g => match cIfs L (blkCfg cfg scope) ifs, L.E (blkCfg cfg scope) elt with
    | some mt, some me => some fun T => mLc (mi T) ((tgIx 5 cfg.N tg).map (·.2)) (capIx scope cfg.N 0) g (mt T) (mBlk (jsOf (blkCfg cfg scope) (capN 40 elt)) (me T))
    | _, _ => none
  | _, _, _ => none
theorem cComp_parts {L : Lv} (hL : LvOk L) {cfg : CF} {elt tg it : Expr} {ifs : List Expr} {scope : Scope} {m : Tb → EM} (h : cComp L cfg elt tg it ifs scope = some m) {X : Cx} {G : Gd} {W : WX} {T : Tb} {kk : Nat} (fr : FrOk X G W cfg) (gl : GlOk X G cfg T kk) :
    ∃ (own : List (Str × Nat)) (cap : List Nat) (mi : IM) (g : GM) (mt : Option TM) (me : EM), m T = mLc mi (own.map (·.2)) cap g mt me ∧ X.calm = true ∧ PI X tg it (tI G (fm X) W mi) ∧ BlkOk X.N X.env.scope scope own ∧
      (∀ (j : Nat) (n : Str), X.N[j]? = some n → scope.names.lookup n = some .free → j ∈ cap) ∧
      (∀ (s : Shared) (H : Hp) (Lc : Addr) (cl : List (Str × Addr)) (fp : List Addr), CellsOut X cl → PG (X.blk s H scope (compEnvC scope cl Lc X.env) fp) tg (tGv G F0 (own.map (·.2)) g)) ∧
      (∀ (s : Shared) (H : Hp) (Lc : Addr) (cl : List (Str × Addr)) (fp : List Addr), CellsOut X cl → PTs (X.blk s H scope (compEnvC scope cl Lc X.env) fp) ifs (tT G F0 W0 (tYesM mt))) ∧
      (∀ (s : Shared) (H : Hp) (Lc : Addr) (cl : List (Str × Addr)) (fp : List Addr), CellsOut X cl → PE (X.blk s H scope (compEnvC scope cl Lc X.env) fp) elt (tE G F0 W0 me)) ∧ ∀ x, foldedSetIterable it X.env x = pure x := by
  unfold cComp at h
  split at h
  · rename_i mi g q1 q2 q3
    split at h
    · rename_i mt me q4 q5
      cases h
      simp only [Bool.and_eq_true] at q1
      obtain ⟨z1, z2, z3⟩ := q1
      refine ⟨tgIx 5 cfg.N tg, capIx scope cfg.N 0, mi T, g, mt T, _, rfl, fr.calm z1, cIter_ok hL q2 fr gl, ?_, fun j n e1 e2 => ?_, fun s H Lc cl fp out => ?_, fun s H Lc cl fp out => ?_, fun s H Lc cl fp out => ?_, notSet_it z2⟩
      · rw [fr.N, fr.sc]
        exact blkOk_by z3
      · rw [fr.N] at e1
        have := capIx_ok (i := 0) e1 e2
        rw [Nat.zero_add] at this
        exact this
      · exact cTg_v (blk_fr fr out) 5 q3 fun p hp => List.mem_map.mpr ⟨p, hp, rfl⟩
      · unfold cIfs at q4
        split at q4
        · cases q4; exact pts_none
        · split at q4
          · rename_i mt' p1
            cases q4
            exact pts_some (mt_blk (hL.T p1 (blk_fr fr out) (blk_gl gl)))
          · cases q4
        · cases q4
      · exact me_blk (jsOf_ok (blk_fr fr out)) (hL.E q5 (blk_fr fr out) (blk_gl gl))
    · cases h
  · cases h
def cDComp (L : Lv) (cfg : CF) (kx vx tg it : Expr) (ifs : List Expr) (scope : Scope) : Option (Tb → EM) := match cfg.calm && (notSet it && blkC cfg.N cfg.sc scope (tgIx 5 cfg.N tg)), cIter L cfg tg it, cTg 5 (blkCfg cfg scope) tg with
  | true, some mi, some g => match cIfs L (blkCfg cfg scope) ifs, L.E (blkCfg cfg scope) kx, L.E (blkCfg cfg scope) vx with
    | some mt, some mk, some mv => some fun T => mDc (mi T) ((tgIx 5 cfg.N tg).map (·.2)) (capIx scope cfg.N 0) g (mt T) (mBlk (jsOf (blkCfg cfg scope) (capN 40 kx)) (mk T)) (mBlk (jsOf (blkCfg cfg scope) (capN 40 vx)) (mv T))
    | _, _, _ => none
  | _, _, _ => none
theorem cDComp_ok {L : Lv} (hL : LvOk L) {cfg : CF} {kx vx tg it : Expr} {ifs : List Expr} {scope : Scope} {m : Tb → EM} (h : cDComp L cfg kx vx tg it ifs scope = some m) {X : Cx} {G : Gd} {W : WX} {T : Tb} {kk : Nat} (fr : FrOk X G W cfg) (gl : GlOk X G cfg T kk) {pos : Pos} :
    PE X (.DictComp kx vx [⟨tg, it, ifs, 0⟩] scope pos) (tE G (fm X) W (m T)) := by
  unfold cDComp at h
  split at h
  · rename_i mi g q1 q2 q3
    split at h
    · rename_i mt mk mv q4 q5 q6
      cases h
      simp only [Bool.and_eq_true] at q1
      obtain ⟨z1, z2, z3⟩ := q1
      refine me_dc (tgIx 5 cfg.N tg) (capIx scope cfg.N 0) (room1 (gl.room z1)) fr.cb (fr.calm z1) fr.nd (cIter_ok hL q2 fr gl) ?_ (fun j n e1 e2 => ?_) (fun s H Lc cl fp out => ?_) (fun s H Lc cl fp out => ?_) (fun s H Lc cl fp out => ?_) (fun s H Lc cl fp out => ?_) (notSet_it z2)
      · rw [fr.N, fr.sc]
        exact blkOk_by z3
      · rw [fr.N] at e1
        have := capIx_ok (i := 0) e1 e2
        rw [Nat.zero_add] at this
        exact this
      · exact cTg_v (blk_fr fr out) 5 q3 fun p hp => List.mem_map.mpr ⟨p, hp, rfl⟩
      · unfold cIfs at q4
        split at q4
        · cases q4; exact pts_none
        · split at q4
          · rename_i mt' p1
            cases q4
            exact pts_some (mt_blk (hL.T p1 (blk_fr fr out) (blk_gl gl)))
          · cases q4
        · cases q4
      · exact me_blk (jsOf_ok (blk_fr fr out)) (hL.E q5 (blk_fr fr out) (blk_gl gl))
      · exact me_blk (jsOf_ok (blk_fr fr out)) (hL.E q6 (blk_fr fr out) (blk_gl gl))
    · cases h
  · cases h
theorem cIfs_ok {L : Lv} (hL : LvOk L) {cfg : CF} {ifs : List Expr} {mt : Tb → Option TM} (h : cIfs L cfg ifs = some mt) {X : Cx} {G : Gd} {T : Tb} {kk : Nat} (fr : FrOk X G W0 cfg) (gl : GlOk X G cfg T kk) : PTs X ifs (tT G F0 W0 (tYesM (mt T))) := by
  unfold cIfs at h
  split at h
  · cases h; exact pts_none
  · split at h
    · rename_i mt' p1
      cases h
      exact pts_some (mt_blk (hL.T p1 fr gl))
    · cases h
  · cases h
def cComp2 (L : Lv) (cfg : CF) (elt tg it : Expr) (ifs : List Expr) (tg1 it1 : Expr) (ifs1 : List Expr) (scope : Scope) : Option (Tb → EM) := match cfg.calm && (notSet it && (notSet it1 && blkC cfg.N cfg.sc scope (tgIx 5 cfg.N tg ++ tgIx 5 cfg.N tg1))), cIter L cfg tg it, cTg 5 (blkCfg cfg scope) tg, cTg 5 (blkCfg cfg scope) tg1 with
  | true, some mi, some g, some g1 => match cIfs L (blkCfg cfg scope) ifs, cIfs L (blkCfg cfg scope) ifs1, cIter L (blkCfg cfg scope) tg1 it1, L.E (blkCfg cfg scope) elt with
    | some mt, some mt1, some mi1, some me => some fun T => mCz (newL []) (mi T) ((tgIx 5 cfg.N tg ++ tgIx 5 cfg.N tg1).map (·.2)) (capIx scope cfg.N 0) g (mt T) (efIn (mBlkI (mi1 T)) ((tgIx 5 cfg.N tg1).map (·.2)) g1 (mt1 T) (efL (mBlk (jsOf (blkCfg cfg scope) (capN 40 elt)) (me T))))
    | _, _, _, _ => none
  | _, _, _, _ => none
theorem cComp2_ok {L : Lv} (hL : LvOk L) {cfg : CF} {elt tg it tg1 it1 : Expr} {ifs ifs1 : List Expr} {scope : Scope} {m : Tb → EM} (h : cComp2 L cfg elt tg it ifs tg1 it1 ifs1 scope = some m) {X : Cx} {G : Gd} {W : WX} {T : Tb} {kk : Nat} (fr : FrOk X G W cfg) (gl : GlOk X G cfg T kk) {pos : Pos} :
    PE X (.ListComp elt [⟨tg, it, ifs, 0⟩, ⟨tg1, it1, ifs1, 0⟩] scope pos) (tE G (fm X) W (m T)) := by
  unfold cComp2 at h
  split at h
  · rename_i mi g g1 q1 q2 q3 q4
    split at h
    · rename_i mt mt1 mi1 me q5 q6 q7 q8
      have e := Option.some.inj h
      subst e
      clear h
      simp only [Bool.and_eq_true] at q1
      obtain ⟨z1, z2, z3, z4⟩ := q1
      have P1 := fun (s : Shared) (H : Hp) (Lc : Addr) (cl : List (Str × Addr)) (fp : List Addr) (out : CellsOut X cl) => cIfs_ok hL q5 (blk_fr fr out (s := s) (H := H) (Lc := Lc) (fp := fp)) (blk_gl gl)
      have P2 := fun (s : Shared) (H : Hp) (Lc : Addr) (cl : List (Str × Addr)) (fp : List Addr) (out : CellsOut X cl) => cIfs_ok hL q6 (blk_fr fr out (s := s) (H := H) (Lc := Lc) (fp := fp)) (blk_gl gl)
      have P3 := fun (s : Shared) (H : Hp) (Lc : Addr) (cl : List (Str × Addr)) (fp : List Addr) (out : CellsOut X cl) => mi_blk (F := F0) (cIter_ok hL q7 (blk_fr fr out (s := s) (H := H) (Lc := Lc) (fp := fp)) (blk_gl gl))
      have P4 := fun (s : Shared) (H : Hp) (Lc : Addr) (cl : List (Str × Addr)) (fp : List Addr) (out : CellsOut X cl) => cTg_v (F := F0) (vs := (tgIx 5 cfg.N tg1).map (·.2)) (blk_fr fr out (s := s) (H := H) (Lc := Lc) (fp := fp)) 5 q4 fun p hp => List.mem_map.mpr ⟨p, hp, rfl⟩
      have P5 := fun (s : Shared) (H : Hp) (Lc : Addr) (cl : List (Str × Addr)) (fp : List Addr) (out : CellsOut X cl) => cTg_v (F := F0) (vs := (tgIx 5 cfg.N tg ++ tgIx 5 cfg.N tg1).map (·.2)) (blk_fr fr out (s := s) (H := H) (Lc := Lc) (fp := fp)) 5 q3 fun p hp => List.mem_map.mpr ⟨p, List.mem_append_left _ hp, rfl⟩
      have P6 := fun (s : Shared) (H : Hp) (Lc : Addr) (cl : List (Str × Addr)) (fp : List Addr) (out : CellsOut X cl) => me_blk (F := F0) (jsOf_ok (blk_fr fr out (s := s) (H := H) (Lc := Lc) (fp := fp)) (l := capN 40 elt)) (hL.E q8 (blk_fr fr out) (blk_gl gl))
      have P7 : BlkOk X.N X.env.scope scope (tgIx 5 cfg.N tg ++ tgIx 5 cfg.N tg1) := by
        rw [fr.N, fr.sc]
        exact blkOk_by z4
      have P8 : ∀ i ∈ (tgIx 5 cfg.N tg1).map (·.2), i ∈ (tgIx 5 cfg.N tg ++ tgIx 5 cfg.N tg1).map (·.2) := fun i hi => by
        rw [List.map_append]
        exact List.mem_append_right _ hi
      have P9 : ∀ (j : Nat) (n : Str), X.N[j]? = some n → scope.names.lookup n = some .free → j ∈ capIx scope cfg.N 0 := fun j n e1 e2 => by
        rw [fr.N] at e1
        have := capIx_ok (i := 0) e1 e2
        rw [Nat.zero_add] at this
        exact this
      have P0 : PI X tg it (tI G (fm X) W (mi T)) := cIter_ok hL q2 fr gl
      have Z := me_lc2 (X := X) (G := G) (W := W) (pos := pos) (i := mi T) (i1 := mBlkI (mi1 T)) (g := g) (g1 := g1) (t := mt T) (t1 := mt1 T) (m := mBlk (jsOf (blkCfg cfg scope) (capN 40 elt)) (me T)) (tgIx 5 cfg.N tg ++ tgIx 5 cfg.N tg1) ((tgIx 5 cfg.N tg1).map (·.2)) (capIx scope cfg.N 0) fr.cb (fr.calm z1) fr.nd P0 P7 P8 P9 P5 P1 P3 P4 P2 P6 (notSet_it z2) fun env => notSet_it z3
      dsimp only
      exact Z
    · cases h
  · cases h
/-- the parts of a dict comprehension of two clauses -/
structure D2 where
  i : IM
  g : GM
  t : Option TM
  e : EM
  g1 : GM
  t1 : Option TM
  k : EM
  v : EM
def cDC2 (L : Lv) (cfg : CF) (kx vx tg it : Expr) (ifs : List Expr) (tg1 it1 : Expr) (ifs1 : List Expr) (scope : Scope) : Option (Tb → D2) := match cfg.calm && (notSet it && (notSet it1 && blkC cfg.N cfg.sc scope (tgIx 5 cfg.N tg ++ tgIx 5 cfg.N tg1))), cIter L cfg tg it, cTg 5 (blkCfg cfg scope) tg, cTg 5 (blkCfg cfg scope) tg1 with
  | true, some mi, some g, some g1 => match cIfs L (blkCfg cfg scope) ifs, cIfs L (blkCfg cfg scope) ifs1, L.E (blkCfg cfg scope) it1, L.E (blkCfg cfg scope) kx, L.E (blkCfg cfg scope) vx with
    | some mt, some mt1, some me, some mk, some mv => some fun T => ⟨mi T, g, mt T, mBlk (jsOf (blkCfg cfg scope) (capN 40 it1)) (me T), g1, mt1 T, mBlk (jsOf (blkCfg cfg scope) (capN 40 kx)) (mk T), mBlk (jsOf (blkCfg cfg scope) (capN 40 vx)) (mv T)⟩
    | _, _, _, _, _ => none
  | _, _, _, _ => none
structure D2Ok (X : Cx) (G : Gd) (W : WX) (kx vx tg it : Expr) (ifs : List Expr) (tg1 it1 : Expr) (ifs1 : List Expr) (scope : Scope) (own : List (Str × Nat)) (cap vs1 : List Nat) (d : D2) : Prop where
  c : X.calm = true
  hi : PI X tg it (tI G (fm X) W d.i)
  ok : BlkOk X.N X.env.scope scope own
  cap : ∀ (j : Nat) (n : Str), X.N[j]? = some n → scope.names.lookup n = some .free → j ∈ cap
  g : ∀ (s : Shared) (H : Hp) (Lc : Addr) (cl : List (Str × Addr)) (fp : List Addr) (out : CellsOut X cl), PG (X.blk s H scope (compEnvC scope cl Lc X.env) fp) tg (tGv G F0 (own.map (·.2)) d.g)
  t : ∀ (s : Shared) (H : Hp) (Lc : Addr) (cl : List (Str × Addr)) (fp : List Addr) (out : CellsOut X cl), PTs (X.blk s H scope (compEnvC scope cl Lc X.env) fp) ifs (tT G F0 W0 (tYesM d.t))
  e : ∀ (s : Shared) (H : Hp) (Lc : Addr) (cl : List (Str × Addr)) (fp : List Addr) (out : CellsOut X cl), PE (X.blk s H scope (compEnvC scope cl Lc X.env) fp) it1 (tE G F0 W0 d.e)
  g1 : ∀ (s : Shared) (H : Hp) (Lc : Addr) (cl : List (Str × Addr)) (fp : List Addr) (out : CellsOut X cl), PG (X.blk s H scope (compEnvC scope cl Lc X.env) fp) tg1 (tGv G F0 vs1 d.g1)
  t1 : ∀ (s : Shared) (H : Hp) (Lc : Addr) (cl : List (Str × Addr)) (fp : List Addr) (out : CellsOut X cl), PTs (X.blk s H scope (compEnvC scope cl Lc X.env) fp) ifs1 (tT G F0 W0 (tYesM d.t1))
  k : ∀ (s : Shared) (H : Hp) (Lc : Addr) (cl : List (Str × Addr)) (fp : List Addr) (out : CellsOut X cl), PE (X.blk s H scope (compEnvC scope cl Lc X.env) fp) kx (tE G F0 W0 d.k)
  v : ∀ (s : Shared) (H : Hp) (Lc : Addr) (cl : List (Str × Addr)) (fp : List Addr) (out : CellsOut X cl), PE (X.blk s H scope (compEnvC scope cl Lc X.env) fp) vx (tE G F0 W0 d.v)
  s : ∀ x, foldedSetIterable it X.env x = pure x
  s1 : ∀ env x, foldedSetIterable it1 env x = pure x
  sub : ∀ i ∈ vs1, i ∈ own.map (·.2)
theorem cDC2_ok {L : Lv} (hL : LvOk L) {cfg : CF} {kx vx tg it tg1 it1 : Expr} {ifs ifs1 : List Expr} {scope : Scope} {m : Tb → D2} (h : cDC2 L cfg kx vx tg it ifs tg1 it1 ifs1 scope = some m) {X : Cx} {G : Gd} {W : WX} {T : Tb} {kk : Nat} (fr : FrOk X G W cfg) (gl : GlOk X G cfg T kk) :
    D2Ok X G W kx vx tg it ifs tg1 it1 ifs1 scope (tgIx 5 cfg.N tg ++ tgIx 5 cfg.N tg1) (capIx scope cfg.N 0) ((tgIx 5 cfg.N tg1).map (·.2)) (m T) ∧ X.A.units + 1 < cLine := by
  unfold cDC2 at h
  split at h
  · rename_i mi g g1 q1 q2 q3 q4
    split at h
    · rename_i mt mt1 me mk mv q5 q6 q7 q8 q9
      have e := Option.some.inj h
      subst e
      clear h
      simp only [Bool.and_eq_true] at q1
      obtain ⟨z1, z2, z3, z4⟩ := q1
      refine ⟨⟨fr.calm z1, cIter_ok hL q2 fr gl, ?_, fun j n e1 e2 => ?_, fun s H Lc cl fp out => ?_, fun s H Lc cl fp out => ?_, fun s H Lc cl fp out => ?_, fun s H Lc cl fp out => ?_, fun s H Lc cl fp out => ?_, fun s H Lc cl fp out => ?_, fun s H Lc cl fp out => ?_, notSet_it z2, fun env => notSet_it z3, fun i hi => ?_⟩, room1 (gl.room z1)⟩
      · rw [fr.N, fr.sc]
        exact blkOk_by z4
      · rw [fr.N] at e1
        have := capIx_ok (i := 0) e1 e2
        rw [Nat.zero_add] at this
        exact this
      · exact cTg_v (blk_fr fr out) 5 q3 fun p hp => List.mem_map.mpr ⟨p, List.mem_append_left _ hp, rfl⟩
      · exact cIfs_ok hL q5 (blk_fr fr out) (blk_gl gl)
      · exact me_blk (jsOf_ok (blk_fr fr out)) (hL.E q7 (blk_fr fr out) (blk_gl gl))
      · exact cTg_v (blk_fr fr out) 5 q4 fun p hp => List.mem_map.mpr ⟨p, hp, rfl⟩
      · exact cIfs_ok hL q6 (blk_fr fr out) (blk_gl gl)
      · exact me_blk (jsOf_ok (blk_fr fr out)) (hL.E q8 (blk_fr fr out) (blk_gl gl))
      · exact me_blk (jsOf_ok (blk_fr fr out)) (hL.E q9 (blk_fr fr out) (blk_gl gl))
      · rw [List.map_append]
        exact List.mem_append_right _ hi
    · cases h
  · cases h
def cDComp2 (L : Lv) (cfg : CF) (kx vx tg it : Expr) (ifs : List Expr) (tg1 it1 : Expr) (ifs1 : List Expr) (scope : Scope) : Option (Tb → EM) := match cDC2 L cfg kx vx tg it ifs tg1 it1 ifs1 scope with
  | some f => some fun T => mDc2 (f T).i ((tgIx 5 cfg.N tg ++ tgIx 5 cfg.N tg1).map (·.2)) (capIx scope cfg.N 0) (f T).g (f T).t (f T).e ((tgIx 5 cfg.N tg1).map (·.2)) (f T).g1 (f T).t1 (f T).k (f T).v
  | none => none
theorem cDComp2_ok {L : Lv} (hL : LvOk L) {cfg : CF} {kx vx tg it tg1 it1 : Expr} {ifs ifs1 : List Expr} {scope : Scope} {m : Tb → EM} (h : cDComp2 L cfg kx vx tg it ifs tg1 it1 ifs1 scope = some m) {X : Cx} {G : Gd} {W : WX} {T : Tb} {kk : Nat} (fr : FrOk X G W cfg) (gl : GlOk X G cfg T kk) {pos : Pos} :
    PE X (.DictComp kx vx [⟨tg, it, ifs, 0⟩, ⟨tg1, it1, ifs1, 0⟩] scope pos) (tE G (fm X) W (m T)) := by
  unfold cDComp2 at h
  split at h
  · rename_i f q
    cases h
    obtain ⟨d, hu⟩ := cDC2_ok (T := T) hL q fr gl
    exact me_dc2 _ _ fr.K hu fr.cb d.c fr.nd d.hi d.ok d.cap d.g d.t d.e d.g1 d.t1 d.k d.v d.s d.s1 d.sub
  · cases h
/-! ### displays of dicts -/
def cPairs (L : Lv) (cfg : CF) : List (Option Expr) → List Expr → Option (Tb → PM)
  | [], [] => some fun _ => pNil
  | some k :: ks, v :: vs => match L.E cfg k, L.E cfg v, cPairs L cfg ks vs with
    | some mk, some mv, some m => some fun T => pCons (mk T) (mv T) (m T)
    | _, _, _ => none
  | _, _ => none
theorem cPairs_ok {L : Lv} (hL : LvOk L) {cfg : CF} {pos : Pos} {X : Cx} {G : Gd} {W : WX} {T : Tb} {kk : Nat} (fr : FrOk X G W cfg) (gl : GlOk X G cfg T kk) : ∀ {ks : List (Option Expr)} {vs : List Expr} {m : Tb → PM}, cPairs L cfg ks vs = some m → PPm X G (fm X) W pos ks vs (m T) ∧ ks.all (·.isSome) = true ∧ ks.length = vs.length
  | [], [], m, h => by
    unfold cPairs at h
    cases h
    exact ⟨pp_nil, rfl, rfl⟩
  | [], v :: vs, m, h => by
    unfold cPairs at h
    cases h
  | some k :: ks, v :: vs, m, h => by
    unfold cPairs at h
    split at h
    · rename_i mk mv m1 q1 q2 q3
      cases h
      obtain ⟨h1, h2, h3⟩ := cPairs_ok hL fr gl q3
      exact ⟨pp_cons (hL.E q1 fr gl) (hL.E q2 fr gl) h1, by rw [List.all_cons, h2]; rfl, by rw [List.length_cons, List.length_cons, h3]⟩
    · cases h
  | none :: ks, vs, m, h => by
    unfold cPairs at h
    cases vs <;> cases h
  | some k :: ks, [], m, h => by
    unfold cPairs at h
    cases h
/-! ### expressions -/
def cE (L : Lv) (cfg : CF) (e : Expr) : Option (Tb → EM) := match e with
  | .Name x _ => cName cfg x
  | .Constant c _ _ => match c with
    | .none => some fun _ => mC .non
    | .bool b => some fun _ => mC (.bl b)
    | .int i => some fun _ => mC (.int i)
    | .str s => some fun _ => mC (.str s.cps.toList)
    | _ => none
  | .Tuple es _ _ => match cItems L cfg es with
    | some m => some fun T => mTup (m T)
    | none => none
  | .List es _ => match cItems L cfg es with
    | some m => some fun T => mLst (m T)
    | none => none
  | .Dict [] [] _ => some fun _ => mDnew
  | .BoolOp op es _ => cBool L cfg op es
  | .UnaryOp .Not a _ => match L.E cfg a with
    | some m => some fun T => mNot (m T)
    | none => none
  | .UnaryOp .USub a _ => match L.E cfg a with
    | some m => some fun T => mNeg (m T)
    | none => none
  | .IfExp c a b _ => match L.T cfg c, L.E cfg a, L.E cfg b with
    | some t, some m, some n => some fun T => mIf (t T) (m T) (n T)
    | _, _, _ => none
  | .Compare a ops bs _ => cCompare L cfg a ops bs
  | .BinOp a op b _ => match L.E cfg a, L.E cfg b, cBin op with
    | some m, some n, some f => some fun T => mBin f (m T) (n T)
    | _, _, _ => none
  | .Subscript a b _ => cSub L cfg a b
  | .Call f args kws pos => cCall L cfg f args kws pos
  | .Attribute o f _ => match notSuper o, cfg.no f, L.E cfg o with
    | true, some k, some m => match decide (cfg.nm k = f) with
      | true => some fun T => mFld cfg.fld k (m T)
      | false => none
    | _, _, _ => none
  | .Lambda ps b sc pos => cLambda cfg ps b sc pos
  | .ListComp elt [⟨tg, it, ifs, 0⟩] scope _ => cLk L cfg it (cComp L cfg elt tg it ifs scope)
  | .DictComp kx vx [⟨tg, it, ifs, 0⟩] scope _ => cLk L cfg it (cDComp L cfg kx vx tg it ifs scope)
  | .ListComp elt [⟨tg, it, ifs, 0⟩, ⟨tg1, it1, ifs1, 0⟩] scope _ => cLk L cfg it (cComp2 L cfg elt tg it ifs tg1 it1 ifs1 scope)
  | .DictComp kx vx [⟨tg, it, ifs, 0⟩, ⟨tg1, it1, ifs1, 0⟩] scope _ => cLk L cfg it (cDComp2 L cfg kx vx tg it ifs tg1 it1 ifs1 scope)
  | .Dict [none, some k] [a, v] _ => match L.E cfg a, L.E cfg k, L.E cfg v with
    | some m, some mk, some mv => some fun T => mStar1 (m T) (mk T) (mv T)
    | _, _, _ => none
  | .Dict [none, none] [a, b] _ => match L.E cfg a, L.E cfg b with
    | some m, some n => some fun T => mStar2 (m T) (n T)
    | _, _ => none
  | .Dict (some k :: ks) vs _ => match cPairs L cfg (some k :: ks) vs with
    | some m => match Nat.ble (some k :: ks).length 15 with
      | true => some fun T => mDisp (m T)
      | false => none
    | none => none
  | _ => none
theorem toS_eta (s : Str) : s = toS s.cps.toList := by
  obtain ⟨a⟩ := s
  rfl
theorem cE_ok {L : Lv} (hL : LvOk L) {cfg : CF} {e : Expr} {m : Tb → EM} (h : cE L cfg e = some m) {X : Cx} {G : Gd} {W : WX} {T : Tb} {kk : Nat} (fr : FrOk X G W cfg) (gl : GlOk X G cfg T kk) : PE X e (tE G (fm X) W (m T)) := by
  unfold cE at h
  split at h
  · exact cName_ok h fr gl
  · split at h
    · cases h; exact me_non
    · cases h; exact me_bl
    · cases h; exact me_int
    · cases h; exact me_str _ (toS_eta _)
    · cases h
  · split at h
    · rename_i q; cases h; exact me_tup (cItems_ok hL q fr gl)
    · cases h
  · split at h
    · rename_i q; cases h; exact me_lst (cItems_ok hL q fr gl)
    · cases h
  · cases h; exact me_dnew
  · exact cBool_ok hL h fr gl
  · split at h
    · rename_i q; cases h; exact me_not fr.K (hL.E q fr gl)
    · cases h
  · split at h
    · rename_i q; cases h; exact me_neg (hL.E q fr gl)
    · cases h
  · split at h
    · rename_i q1 q2 q3; cases h; exact me_if (hL.T q1 fr gl) (hL.E q2 fr gl) (hL.E q3 fr gl)
    · cases h
  · exact (cCompare_ok hL h fr gl).1
  · split at h
    · rename_i q1 q2 q3
      cases h
      obtain ⟨r, o1, o2⟩ := cBin_ok (F := fm X) (W := W) q3 fr.K
      exact me_bin o1 o2 (hL.E q1 fr gl) (hL.E q2 fr gl)
    · cases h
  · exact cSub_ok hL h fr gl
  · exact cCall_ok hL h fr gl
  · split at h
    · rename_i k m1 q1 q2 q3
      split at h
      · rename_i q4
        cases h
        exact me_fld fr.K gl.fld gl.nm (by rw [fr.nm]; exact of_decide_eq_true q4) (hL.E q3 fr gl) (notSuper_ok q1)
      · cases h
    · cases h
  · exact cLambda_ok h fr gl
  · refine cLk_ok (fun {m} h => ?_) h
    obtain ⟨own, cap, mi, g, mt, me, e1, e2, e3, e4, e5, e6, e7, e8, e9⟩ := cComp_parts hL h fr gl
    rw [e1]
    exact me_lc own cap fr.cb e2 fr.nd e3 e4 e5 e6 e7 e8 e9
  · exact cLk_ok (fun h => cDComp_ok hL h fr gl) h
  · exact cLk_ok (fun h => cComp2_ok hL h fr gl) h
  · exact cLk_ok (fun h => cDComp2_ok hL h fr gl) h
  · split at h
    · rename_i q1 q2 q3
      cases h
      exact me_star1 (hL.E q1 fr gl) (hL.E q2 fr gl) (hL.E q3 fr gl)
    · cases h
  · split at h
    · rename_i q1 q2
      cases h
      exact me_star2 (hL.E q1 fr gl) (hL.E q2 fr gl)
    · cases h
  · split at h
    · rename_i q1
      split at h
      · rename_i q2
        cases h
        obtain ⟨h1, h2, h3⟩ := cPairs_ok hL fr gl q1
        exact me_disp h1 h2 h3 (fun z => by cases z) (Nat.le_of_ble_eq_true q2)
      · cases h
    · cases h
  · cases h
end Sh

end

noncomputable section
namespace Sh
open PySem PySem.Spec PyProof.Rows L2 LamX He
/-! ### statements -/
section
variable {X : Cx} {G : Gd} {W : WX} {F : Fm} {pos : Pos}
def mCnt : SM := fun ls S => .ok (.ct, ls) S
theorem ms_cnt : PS X (.Continue pos) (tS G F W mCnt) := PS_imp ps_continue fun D σ H ⟨ρ, S, ls, T, h⟩ => h ρ H σ (Ext.refl _ _) T
theorem ms_pass : PS X (.Pass pos) (tS G F W mNx) := PS_imp ps_pass fun D σ H ⟨ρ, S, ls, T, h⟩ => h ρ H σ (Ext.refl _ _) T
/-- a, b = x, y where the stores go from the right -/
def mPar2 (i j : Nat) (m : AM) : SM := fun ls S => (m ls S).bind fun xs S1 => match xs, Nat.blt i ls.length, Nat.blt j ls.length with
  | [v, w], true, true => .ok (.nx, setL (setL ls i (.v v)) j (.v w)) S1
  | _, _, _ => .bad
theorem ms_par2 {i j : Nat} {x y : Str} {a b : Expr} {m : AM} {px py pt : Pos} {kt k2 : Nat} {pt2 : Pos} (hc : X.calm = true) (hN : X.N.Nodup) (hi : X.N[i]? = some x) (hj : X.N[j]? = some y) (hij : i ≠ j)
    (hx : X.env.scope.names.lookup x = some .local) (hy : X.env.scope.names.lookup y = some .local) (ha : PA X [a, b] (tA G F W m))
    (hw : swappedStores [.Tuple [.Name x px, .Name y py] kt pt] (.Tuple [a, b] k2 pt2) X.env = pure (some [x, y])) (hs : swapsWithSole [.Tuple [.Name x px, .Name y py] kt pt] (.Tuple [a, b] k2 pt2) pos.line X.env = pure false) :
    PS X (.Assign [.Tuple [.Name x px, .Name y py] kt pt] (.Tuple [a, b] k2 pt2) pos) (tS G F W (mPar2 i j m)) := by
  refine PS_imp (ps_par hc hN hi hj hij hx hy ha hw hs) fun D σ H ⟨ρ, S, ls, T, h⟩ => ?_
  refine tA_bind T h fun vs S1 ρ1 H1 xs h1 x1 T1 r1 => ?_
  split at h1
  · rename_i v w q1 q2
    obtain ⟨y1, y2, rfl, ra, rb⟩ := rvs2 r1
    have l1 := Nat.le_of_ble_eq_true q1
    have l2 := Nat.le_of_ble_eq_true q2
    exact ⟨y1, y2, rfl, h1 ρ1 H1 _ x1 ((T1.set l1 ra).set (by rw [setL_len]; exact l2) rb)⟩
  · exact h1.elim
def mPar3 (i j l : Nat) (m : AM) : SM := fun ls S => (m ls S).bind fun xs S1 => match xs, Nat.blt i ls.length, Nat.blt j ls.length, Nat.blt l ls.length with
  | [u, v, w], true, true, true => .ok (.nx, setL (setL (setL ls i (.v u)) j (.v v)) l (.v w)) S1
  | _, _, _, _ => .bad
theorem rvs3 {ρ : List Addr} {H : Hp} {a b c : AV} {xs : List V} (r : RVs G ρ H [a, b, c] xs) : ∃ x y z, xs = [x, y, z] ∧ RV G ρ H a x ∧ RV G ρ H b y ∧ RV G ρ H c z := by
  unfold RVs at r
  obtain ⟨x, xs', rfl, ra, r⟩ := r
  obtain ⟨y, z, rfl, rb, rc⟩ := rvs2 r
  exact ⟨x, y, z, rfl, ra, rb, rc⟩
theorem ms_par3 {i j l : Nat} {x y z : Str} {a b c : Expr} {m : AM} {px py pz pt : Pos} {kt k2 : Nat} {pt2 : Pos} (hc : X.calm = true) (hN : X.N.Nodup) (hi : X.N[i]? = some x) (hj : X.N[j]? = some y) (hl : X.N[l]? = some z) (hij : i ≠ j) (hil : i ≠ l) (hjl : j ≠ l)
    (hx : X.env.scope.names.lookup x = some .local) (hy : X.env.scope.names.lookup y = some .local) (hz : X.env.scope.names.lookup z = some .local) (ha : PA X [a, b, c] (tA G F W m))
    (hw : swappedStores [.Tuple [.Name x px, .Name y py, .Name z pz] kt pt] (.Tuple [a, b, c] k2 pt2) X.env = pure (some [x, y, z])) (hs : swapsWithSole [.Tuple [.Name x px, .Name y py, .Name z pz] kt pt] (.Tuple [a, b, c] k2 pt2) pos.line X.env = pure false) :
    PS X (.Assign [.Tuple [.Name x px, .Name y py, .Name z pz] kt pt] (.Tuple [a, b, c] k2 pt2) pos) (tS G F W (mPar3 i j l m)) := by
  refine PS_imp (ps_par3 hc hN hi hj hl hij hil hjl hx hy hz ha hw hs) fun D σ H ⟨ρ, S, ls, T, h⟩ => ?_
  refine tA_bind T h fun vs S1 ρ1 H1 xs h1 x1 T1 r1 => ?_
  split at h1
  · rename_i u v w q1 q2 q3
    obtain ⟨y1, y2, y3, rfl, ra, rb, rc⟩ := rvs3 r1
    have l1 := Nat.le_of_ble_eq_true q1
    have l2 := Nat.le_of_ble_eq_true q2
    have l3 := Nat.le_of_ble_eq_true q3
    exact ⟨y1, y2, y3, rfl, h1 ρ1 H1 _ x1 (((T1.set l1 ra).set (by rw [setL_len]; exact l2) rb).set (by rw [setL_len, setL_len]; exact l3) rc)⟩
  · exact h1.elim
end
/-! what the text says of the stores -/
inductive Swp where
  | no | yes | bad
def swpOf (v : Expr) (t : Option Expr) (l : Nat) (sc : Scope) : Swp := match swapsWith v t l (envD sc) with
  | .pure false => .no
  | .pure true => .yes
  | _ => .bad
theorem swp_no {v : Expr} {t : Option Expr} {l : Nat} {sc : Scope} {env : Env} (hs : env.scope = sc) (h : swpOf v t l sc = .no) : swapsWith v t l env = pure false := by
  rw [swaps_eq hs]
  unfold swpOf at h
  split at h
  · assumption
  · cases h
  · cases h
theorem swp_yes {v : Expr} {t : Option Expr} {l : Nat} {sc : Scope} {env : Env} (hs : env.scope = sc) (h : swpOf v t l sc = .yes) : swapsWith v t l env = pure true := by
  rw [swaps_eq hs]
  unfold swpOf at h
  split at h
  · cases h
  · assumption
  · cases h
inductive Sst where
  | no | two | three | bad
def sstOf (t v : Expr) (xs : List Str) (sc : Scope) : Sst := match swappedStores [t] v (envD sc) with
  | .pure none => .no
  | .pure (some ys) => match decide (xs = ys), ys.length with
    | true, 2 => .two
    | true, 3 => .three
    | _, _ => .bad
  | _ => .bad
theorem sst_no {t v : Expr} {xs : List Str} {sc : Scope} {env : Env} (hs : env.scope = sc) (h : sstOf t v xs sc = .no) : swappedStores [t] v env = pure none := by
  rw [stores_eq hs]
  unfold sstOf at h
  split at h
  · assumption
  · split at h <;> cases h
  · cases h
theorem sst_yes {t v : Expr} {xs : List Str} {sc : Scope} {env : Env} (hs : env.scope = sc) (h : sstOf t v xs sc = .two ∨ sstOf t v xs sc = .three) : swappedStores [t] v env = pure (some xs) := by
  rw [stores_eq hs]
  unfold sstOf at h
  split at h
  · rcases h with h | h <;> cases h
  · rename_i ys q
    have e : xs = ys := by
      split at h
      · rename_i p _; exact of_decide_eq_true p
      · rename_i p _; exact of_decide_eq_true p
      · rcases h with h | h <;> cases h
    rw [e]
    exact q
  · rcases h with h | h <;> cases h
/-! targets: names, attributes, tuples of such -/
def cTgA (cfg : CF) (o : Expr) (f : Str) : Option GM := match o with
  | .Name x _ => match okName x, locOf cfg x, cfg.no f with
    | true, some i, some k => match decide (cfg.nm k = f) with
      | true => some (gFld cfg.fld k (mVar i))
      | false => none
    | _, _, _ => none
  | _ => none
def cTgsF (f : Expr → Option (Tb → GM)) : List Expr → Option (Tb → GsM)
  | [] => some fun _ => gsNil
  | e :: r => match notStar e, f e with
    | true, some g => match cTgsF f r with
      | some gs => some fun T => gsCons (g T) (gs T)
      | none => none
    | _, _ => none
def cTgF (L : Lv) : Nat → CF → Expr → Option (Tb → GM)
  | 0, _, _ => none
  | n + 1, cfg, e => match e with
    | .Name x _ => match stOk cfg x, ix cfg.N x with
      | true, some i => some fun _ => gSet i
      | _, _ => none
    | .Attribute o f _ => match cTgA cfg o f with
      | some g => some fun _ => g
      | none => none
    | .Subscript o i _ => match cfg.calm && notSlice i, L.E cfg o, L.E cfg i with
      | true, some mo, some mi => some fun T => gSubM (mo T) (mi T)
      | _, _, _ => none
    | .Tuple es _ _ => match cfg.calm, cTgsF (cTgF L n cfg) es with
      | true, some gs => some fun T => gTupL es.length (gs T)
      | _, _ => none
    | _ => none
theorem cTgsF_star {f : Expr → Option (Tb → GM)} : ∀ {es : List Expr} {gs : Tb → GsM}, cTgsF f es = some gs → noStars es = true
  | [], _, _ => rfl
  | e :: r, gs, h => by
    unfold cTgsF at h
    split at h
    · rename_i g q1 q2
      split at h
      · rename_i gs' q3
        unfold noStars
        rw [q1, cTgsF_star q3]
        rfl
      · cases h
    · cases h
section
variable {X : Cx} {G : Gd} {W : WX} {cfg : CF} {T : Tb} {kk : Nat} {L : Lv}
theorem cTgF_ok (hL : LvOk L) (fr : FrOk X G W cfg) (gl : GlOk X G cfg T kk) : ∀ (n : Nat) {e : Expr} {g : Tb → GM}, cTgF L n cfg e = some g → PG X e (tGm G (fm X) (g T))
  | 0, e, g, h => by cases h
  | n + 1, e, g, h => by
    unfold cTgF at h
    split at h
    · rename_i x p
      split at h
      · rename_i i q1 q2
        cases h
        obtain ⟨s1, s2⟩ := stOk_ok fr q1
        exact mg_name i fr.nd (by rw [fr.N]; exact ix_ok q2) s1 s2
      · cases h
    · rename_i o f p
      split at h
      · rename_i g1 q0
        cases h
        unfold cTgA at q0
        split at q0
        · rename_i x px
          split at q0
          · rename_i i k q1 q2 q3
            split at q0
            · rename_i q4
              cases q0
              obtain ⟨l1, l2⟩ := locOf_ok fr q2
              obtain ⟨n1, n2, n3⟩ := okName_ok q1
              exact mg_fld (W := W) fr.K gl.fld gl.nm (by rw [fr.nm]; exact of_decide_eq_true q4) (me_var i l1 l2 n1 n2)
            · cases q0
          · cases q0
        · cases q0
      · cases h
    · rename_i o i p
      split at h
      · rename_i mo mi q1 q2 q3
        cases h
        obtain ⟨z1, z2⟩ := ba q1
        exact mg_sub (room1 (gl.room z1)) (hL.E q2 fr gl) (hL.E q3 fr gl) z2
      · cases h
    · rename_i es k p
      split at h
      · rename_i gs q1 q2
        cases h
        have all : ∀ {es : List Expr} {gs : Tb → GsM}, cTgsF (cTgF L n cfg) es = some gs → PGs X es (tGs G (fm X) (gs T)) := by
          intro es
          induction es with
          | nil => intro gs h; unfold cTgsF at h; cases h; exact mgs_nil
          | cons e r ih =>
            intro gs h
            unfold cTgsF at h
            split at h
            · rename_i g1 p1 p2
              split at h
              · rename_i gs' p3
                cases h
                exact mgs_cons' (cTgF_ok hL fr gl n p2) (ih p3) (by rw [asg_star p1]; rfl)
              · cases h
            · cases h
        obtain ⟨a1, a2⟩ := asg_plain (env := X.env) (cTgsF_star q2)
        exact mg_tupL es.length fr.K (fr.calm q1) (all q2) a1 a2
      · cases h
    · cases h
end
/-- o.f = v -/
def cSetA (L : Lv) (cfg : CF) (o : Expr) (f : Str) (pa : Pos) (v : Expr) (pos : Pos) : Option (Tb → SM) := match swpOf v (some (.Attribute o f pa)) pos.line cfg.sc with
  | .no => match cfg.no f, L.E cfg v, L.E cfg o with
    | some k, some m, some mo => match decide (cfg.nm k = f) with
      | true => some fun T => mSetF cfg.fld k (m T) (mo T)
      | false => none
    | _, _, _ => none
  | _ => none
theorem cSetA_ok {L : Lv} (hL : LvOk L) {cfg : CF} {o v : Expr} {f : Str} {pa pos : Pos} {m : Tb → SM} (h : cSetA L cfg o f pa v pos = some m) {X : Cx} {G : Gd} {W : WX} {T : Tb} {kk : Nat} (fr : FrOk X G W cfg) (gl : GlOk X G cfg T kk) : PS X (.Assign [.Attribute o f pa] v pos) (tS G (fm X) W (m T)) := by
  unfold cSetA at h
  split at h
  · rename_i q0
    split at h
    · rename_i k m1 mo q1 q2 q3
      split at h
      · rename_i q4
        cases h
        exact ms_setF fr.K gl.fld gl.nm (by rw [fr.nm]; exact of_decide_eq_true q4) (hL.E q3 fr gl) (hL.E q2 fr gl) (swp_no fr.sc q0)
      · cases h
    · cases h
  · cases h
def isLoc (cfg : CF) (x : Str) : Bool := decide (cfg.sc.names.lookup x = some .local)
/-- a walk's statement, its dict locked -/
def cLkS (L : Lv) (cfg : CF) (it : Expr) (o : Option (Tb → SM)) : Option (Tb → SM) := match o, lkE L cfg it with
  | some m, some me => some fun T => mLk (me T) (m T)
  | o, _ => o
theorem cLkS_ok {L : Lv} {cfg : CF} {it : Expr} {st : Stmt} {o : Option (Tb → SM)} {m : Tb → SM} {X : Cx} {G : Gd} {W : WX} {T : Tb} (ho : ∀ {m}, o = some m → PS X st (tS G (fm X) W (m T))) (h : cLkS L cfg it o = some m) : PS X st (tS G (fm X) W (m T)) := by
  unfold cLkS at h
  split at h
  · rename_i m1 me q
    cases h
    exact ms_lk (ho rfl)
  · exact ho h
def cDCompS (L : Lv) (cfg : CF) (kx vx tg it : Expr) (ifs : List Expr) (scope : Scope) (i : Nat) : Option (Tb → SM) := match cfg.calm && (notSet it && blkC cfg.N cfg.sc scope (tgIx 5 cfg.N tg)), cIter L cfg tg it, cTg 5 (blkCfg cfg scope) tg with
  | true, some mi, some g => match cIfs L (blkCfg cfg scope) ifs, L.E (blkCfg cfg scope) kx, L.E (blkCfg cfg scope) vx with
    | some mt, some mk, some mv => some fun T => mSetDc (mi T) ((tgIx 5 cfg.N tg).map (·.2)) (capIx scope cfg.N 0) g (mt T) (mBlk (jsOf (blkCfg cfg scope) (capN 40 kx)) (mk T)) (mBlk (jsOf (blkCfg cfg scope) (capN 40 vx)) (mv T)) i
    | _, _, _ => none
  | _, _, _ => none
theorem cDCompS_ok {L : Lv} (hL : LvOk L) {cfg : CF} {kx vx tg it : Expr} {ifs : List Expr} {scope : Scope} {i : Nat} {m : Tb → SM} (h : cDCompS L cfg kx vx tg it ifs scope i = some m) {X : Cx} {G : Gd} {W : WX} {T : Tb} {kk : Nat} (fr : FrOk X G W cfg) (gl : GlOk X G cfg T kk) {pos spos py : Pos} {y : Str} (hy : X.N[i]? = some y) (hyl : X.env.scope.names.lookup y = some .local)
    (hsw : swapsWith (.DictComp kx vx [⟨tg, it, ifs, 0⟩] scope pos) (some (.Name y py)) spos.line X.env = pure true) : PS X (.Assign [.Name y py] (.DictComp kx vx [⟨tg, it, ifs, 0⟩] scope pos) spos) (tS G (fm X) W (m T)) := by
  unfold cDCompS at h
  split at h
  · rename_i mi g q1 q2 q3
    split at h
    · rename_i mt mk mv q4 q5 q6
      cases h
      simp only [Bool.and_eq_true] at q1
      obtain ⟨z1, z2, z3⟩ := q1
      refine ms_setDc i (tgIx 5 cfg.N tg) (capIx scope cfg.N 0) (room1 (gl.room z1)) fr.cb (fr.calm z1) fr.nd hy hyl hsw (cIter_ok hL q2 fr gl) ?_ (fun j n e1 e2 => ?_) (fun s H Lc cl fp out => ?_) (fun s H Lc cl fp out => ?_) (fun s H Lc cl fp out => ?_) (fun s H Lc cl fp out => ?_) (notSet_it z2)
      · rw [fr.N, fr.sc]
        exact blkOk_by z3
      · rw [fr.N] at e1
        have := capIx_ok (i := 0) e1 e2
        rw [Nat.zero_add] at this
        exact this
      · exact cTg_v (blk_fr fr out) 5 q3 fun p hp => List.mem_map.mpr ⟨p, hp, rfl⟩
      · unfold cIfs at q4
        split at q4
        · cases q4; exact pts_none
        · split at q4
          · rename_i mt' p1
            cases q4
            exact pts_some (mt_blk (hL.T p1 (blk_fr fr out) (blk_gl gl)))
          · cases q4
        · cases q4
      · exact me_blk (jsOf_ok (blk_fr fr out)) (hL.E q5 (blk_fr fr out) (blk_gl gl))
      · exact me_blk (jsOf_ok (blk_fr fr out)) (hL.E q6 (blk_fr fr out) (blk_gl gl))
    · cases h
  · cases h
def cDComp2S (L : Lv) (cfg : CF) (kx vx tg it : Expr) (ifs : List Expr) (tg1 it1 : Expr) (ifs1 : List Expr) (scope : Scope) (i : Nat) : Option (Tb → SM) := match cDC2 L cfg kx vx tg it ifs tg1 it1 ifs1 scope with
  | some f => some fun T => mSetDc2 (f T).i ((tgIx 5 cfg.N tg ++ tgIx 5 cfg.N tg1).map (·.2)) (capIx scope cfg.N 0) (f T).g (f T).t (f T).e ((tgIx 5 cfg.N tg1).map (·.2)) (f T).g1 (f T).t1 (f T).k (f T).v i
  | none => none
theorem cDComp2S_ok {L : Lv} (hL : LvOk L) {cfg : CF} {kx vx tg it tg1 it1 : Expr} {ifs ifs1 : List Expr} {scope : Scope} {i : Nat} {m : Tb → SM} (h : cDComp2S L cfg kx vx tg it ifs tg1 it1 ifs1 scope i = some m) {X : Cx} {G : Gd} {W : WX} {T : Tb} {kk : Nat} (fr : FrOk X G W cfg) (gl : GlOk X G cfg T kk) {pos spos py : Pos} {y : Str} (hy : X.N[i]? = some y) (hyl : X.env.scope.names.lookup y = some .local)
    (hsw : swapsWith (.DictComp kx vx [⟨tg, it, ifs, 0⟩, ⟨tg1, it1, ifs1, 0⟩] scope pos) (some (.Name y py)) spos.line X.env = pure true) : PS X (.Assign [.Name y py] (.DictComp kx vx [⟨tg, it, ifs, 0⟩, ⟨tg1, it1, ifs1, 0⟩] scope pos) spos) (tS G (fm X) W (m T)) := by
  unfold cDComp2S at h
  split at h
  · rename_i f q
    cases h
    obtain ⟨d, hu⟩ := cDC2_ok (T := T) hL q fr gl
    exact ms_setDc2 i _ _ fr.K hu fr.cb d.c fr.nd hy hyl hsw d.hi d.ok d.cap d.g d.t d.e d.g1 d.t1 d.k d.v d.s d.s1 d.sub
  · cases h
/-- a store to a name -/
def cSetN (L : Lv) (cfg : CF) (x : Str) (px : Pos) (v : Expr) (pos : Pos) : Option (Tb → SM) := match stOk cfg x, ix cfg.N x, swpOf v (some (.Name x px)) pos.line cfg.sc with
  | true, some i, .no => match L.E cfg v with
    | some m => some fun T => mAsg (m T) (gSet i)
    | none => none
  | true, some i, .yes => match v, isLoc cfg x with
    | .ListComp elt [⟨tg, it, ifs, 0⟩] scope _, true => cLkS L cfg it (match cComp L cfg elt tg it ifs scope with
      | some m => some fun T => mAsg (m T) (gSet i)
      | none => none)
    | .DictComp kx vx [⟨tg, it, ifs, 0⟩] scope _, true => cLkS L cfg it (cDCompS L cfg kx vx tg it ifs scope i)
    | .DictComp kx vx [⟨tg, it, ifs, 0⟩, ⟨tg1, it1, ifs1, 0⟩] scope _, true => cLkS L cfg it (cDComp2S L cfg kx vx tg it ifs tg1 it1 ifs1 scope i)
    | _, _ => none
  | _, _, _ => none
theorem cSetN_ok {L : Lv} (hL : LvOk L) {cfg : CF} {x : Str} {px pos : Pos} {v : Expr} {m : Tb → SM} (h : cSetN L cfg x px v pos = some m) {X : Cx} {G : Gd} {W : WX} {T : Tb} {kk : Nat} (fr : FrOk X G W cfg) (gl : GlOk X G cfg T kk) : PS X (.Assign [.Name x px] v pos) (tS G (fm X) W (m T)) := by
  unfold cSetN at h
  split at h
  · rename_i i q1 q2 q3
    split at h
    · rename_i m1 q4
      cases h
      obtain ⟨s1, s2⟩ := stOk_ok fr q1
      exact ms_set i fr.nd (by rw [fr.N]; exact ix_ok q2) s1 (hL.E q4 fr gl) (swp_no fr.sc q3) s2
    · cases h
  · rename_i i q1 q2 q3
    split at h
    · rename_i elt tg it ifs scope p1 q4
      refine cLkS_ok (fun {m} h => ?_) h
      split at h
      · rename_i m1 q5
        cases h
        obtain ⟨own, cap, mi, g, mt, me, e1, e2, e3, e4, e5, e6, e7, e8, e9⟩ := cComp_parts hL q5 fr gl
        show PS X _ (tS G (fm X) W (mAsg (m1 T) (gSet i)))
        rw [e1]
        exact ms_setLc i own cap fr.cb e2 fr.nd (by rw [fr.N]; exact ix_ok q2) (by rw [fr.sc]; exact of_decide_eq_true q4) (swp_yes fr.sc q3) e3 e4 e5 e6 e7 e8 e9
      · cases h
    · rename_i kx vx tg it ifs scope p1 q4
      exact cLkS_ok (fun h => cDCompS_ok hL h fr gl (by rw [fr.N]; exact ix_ok q2) (by rw [fr.sc]; exact of_decide_eq_true q4) (swp_yes fr.sc q3)) h
    · rename_i kx vx tg it ifs tg1 it1 ifs1 scope p1 q4
      exact cLkS_ok (fun h => cDComp2S_ok hL h fr gl (by rw [fr.N]; exact ix_ok q2) (by rw [fr.sc]; exact of_decide_eq_true q4) (swp_yes fr.sc q3)) h
    · cases h
  · cases h
/-- a, b = .. -/
def cSetT (L : Lv) (cfg : CF) (es : List Expr) (kt : Nat) (pt : Pos) (v : Expr) (pos : Pos) : Option (Tb → SM) := match swpOf v (some (.Tuple es kt pt)) pos.line cfg.sc with
  | .no => match es, v with
    | [.Name x px, .Name y py], .Tuple [a, b] k2 pt2 => match sstOf (.Tuple es kt pt) v [x, y] cfg.sc with
      | .no => match L.E cfg v, cTgF L 5 cfg (.Tuple es kt pt) with
        | some m, some g => some fun T => mAsg (m T) (g T)
        | _, _ => none
      | .two => match cfg.calm && (isLoc cfg x && isLoc cfg y), ix cfg.N x, ix cfg.N y with
        | true, some i, some j => match decide (i = j), cArgs L cfg [a, b] with
          | false, some m => some fun T => mPar2 i j (m T)
          | _, _ => none
        | _, _, _ => none
      | _ => none
    | [.Name x px, .Name y py, .Name z pz], .Tuple [a, b, c] k2 pt2 => match sstOf (.Tuple es kt pt) v [x, y, z] cfg.sc with
      | .no => match L.E cfg v, cTgF L 5 cfg (.Tuple es kt pt) with
        | some m, some g => some fun T => mAsg (m T) (g T)
        | _, _ => none
      | .three => match cfg.calm && (isLoc cfg x && (isLoc cfg y && isLoc cfg z)), ix cfg.N x, ix cfg.N y, ix cfg.N z with
        | true, some i, some j, some l => match decide (i = j) || (decide (i = l) || decide (j = l)), cArgs L cfg [a, b, c] with
          | false, some m => some fun T => mPar3 i j l (m T)
          | _, _ => none
        | _, _, _, _ => none
      | _ => none
    | es, v => match sstOf (.Tuple es kt pt) v [] cfg.sc with
      | .no => match L.E cfg v, cTgF L 5 cfg (.Tuple es kt pt) with
        | some m, some g => some fun T => mAsg (m T) (g T)
        | _, _ => none
      | _ => none
  | _ => none
theorem cSetT_ok {L : Lv} (hL : LvOk L) {cfg : CF} {es : List Expr} {kt : Nat} {pt pos : Pos} {v : Expr} {m : Tb → SM} (h : cSetT L cfg es kt pt v pos = some m) {X : Cx} {G : Gd} {W : WX} {T : Tb} {kk : Nat} (fr : FrOk X G W cfg) (gl : GlOk X G cfg T kk) : PS X (.Assign [.Tuple es kt pt] v pos) (tS G (fm X) W (m T)) := by
  unfold cSetT at h
  split at h
  · rename_i q0
    have sw := swp_no fr.sc q0
    have plain : ∀ {es : List Expr} {v : Expr} {m1 : Tb → EM} {g : Tb → GM}, swapsWith v (some (.Tuple es kt pt)) pos.line X.env = pure false → swappedStores [.Tuple es kt pt] v X.env = pure none → L.E cfg v = some m1 → cTgF L 5 cfg (.Tuple es kt pt) = some g → PS X (.Assign [.Tuple es kt pt] v pos) (tS G (fm X) W (mAsg (m1 T) (g T))) := fun sw st p1 p2 =>
      ms_asg (hL.E p1 fr gl) (cTgF_ok hL fr gl 5 p2) sw st rfl
    split at h
    · rename_i x px y py a b k2 pt2
      split at h
      · rename_i q1
        split at h
        · rename_i m1 g p1 p2
          cases h
          exact plain sw (sst_no fr.sc q1) p1 p2
        · cases h
      · rename_i q1
        split at h
        · rename_i i j p1 p2 p3
          split at h
          · rename_i m1 p4 p5
            cases h
            simp only [Bool.and_eq_true] at p1
            obtain ⟨z1, z2, z3⟩ := p1
            exact ms_par2 (fr.calm z1) fr.nd (by rw [fr.N]; exact ix_ok p2) (by rw [fr.N]; exact ix_ok p3) (of_decide_eq_false p4) (by rw [fr.sc]; exact of_decide_eq_true z2) (by rw [fr.sc]; exact of_decide_eq_true z3) ((cArgs_ok hL p5).2.2 fr gl) (sst_yes fr.sc (.inl q1)) sw
          · cases h
        · cases h
      · cases h
    · rename_i x px y py z pz a b c k2 pt2
      split at h
      · rename_i q1
        split at h
        · rename_i m1 g p1 p2
          cases h
          exact plain sw (sst_no fr.sc q1) p1 p2
        · cases h
      · rename_i q1
        split at h
        · rename_i i j l p1 p2 p3 p6
          split at h
          · rename_i m1 p4 p5
            cases h
            simp only [Bool.and_eq_true] at p1
            obtain ⟨z1, z2, z3, z4⟩ := p1
            simp only [Bool.or_eq_false_iff, decide_eq_false_iff_not] at p4
            exact ms_par3 (fr.calm z1) fr.nd (by rw [fr.N]; exact ix_ok p2) (by rw [fr.N]; exact ix_ok p3) (by rw [fr.N]; exact ix_ok p6) p4.1 p4.2.1 p4.2.2 (by rw [fr.sc]; exact of_decide_eq_true z2) (by rw [fr.sc]; exact of_decide_eq_true z3) (by rw [fr.sc]; exact of_decide_eq_true z4) ((cArgs_ok hL p5).2.2 fr gl) (sst_yes fr.sc (.inr q1)) sw
          · cases h
        · cases h
      · cases h
    · split at h
      · rename_i q1
        split at h
        · rename_i m1 g p1 p2
          cases h
          exact plain sw (sst_no fr.sc q1) p1 p2
        · cases h
      · cases h
  · cases h
/-- o[i] = v; o[a:] = v -/
def cSetI (L : Lv) (cfg : CF) (o i : Expr) (pi : Pos) (v : Expr) (pos : Pos) : Option (Tb → SM) := match swpOf v (some (.Subscript o i pi)) pos.line cfg.sc with
  | .no => match i with
    | .Slice (some lo) none none _ => match L.E cfg o, L.E cfg lo, L.E cfg v with
      | some mo, some ml, some mv => some fun T => mSetSl (mo T) (ml T) (mv T)
      | _, _, _ => none
    | i => match sstOf (.Subscript o i pi) v [] cfg.sc with
      | .no => match L.E cfg v, cTgF L 5 cfg (.Subscript o i pi) with
        | some m, some g => some fun T => mAsg (m T) (g T)
        | _, _ => none
      | _ => none
  | _ => none
theorem cSetI_ok {L : Lv} (hL : LvOk L) {cfg : CF} {o i : Expr} {pi pos : Pos} {v : Expr} {m : Tb → SM} (h : cSetI L cfg o i pi v pos = some m) {X : Cx} {G : Gd} {W : WX} {T : Tb} {kk : Nat} (fr : FrOk X G W cfg) (gl : GlOk X G cfg T kk) : PS X (.Assign [.Subscript o i pi] v pos) (tS G (fm X) W (m T)) := by
  unfold cSetI at h
  split at h
  · rename_i q0
    have sw := swp_no fr.sc q0
    split at h
    · split at h
      · rename_i q1 q2 q3
        cases h
        exact ms_setSl (hL.E q1 fr gl) (hL.E q2 fr gl) (hL.E q3 fr gl) sw
      · cases h
    · split at h
      · rename_i q1
        split at h
        · rename_i m1 g p1 p2
          cases h
          exact ms_asg (hL.E p1 fr gl) (cTgF_ok hL fr gl 5 p2) sw (sst_no fr.sc q1) rfl
        · cases h
      · cases h
  · cases h
/-- del o[a:] -/
def cDel (L : Lv) (cfg : CF) (t : Expr) : Option (Tb → SM) := match t with
  | .Subscript o (.Slice (some lo) none none _) _ => match L.E cfg o, L.E cfg lo with
    | some mo, some ml => some fun T => mDelSl (mo T) (ml T)
    | _, _ => none
  | _ => none
theorem cDel_ok {L : Lv} (hL : LvOk L) {cfg : CF} {t : Expr} {pos : Pos} {m : Tb → SM} (h : cDel L cfg t = some m) {X : Cx} {G : Gd} {W : WX} {T : Tb} {kk : Nat} (fr : FrOk X G W cfg) (gl : GlOk X G cfg T kk) : PS X (.Delete [t] pos) (tS G (fm X) W (m T)) := by
  unfold cDel at h
  split at h
  · split at h
    · rename_i q1 q2
      cases h
      exact ms_delSl (hL.E q1 fr gl) (hL.E q2 fr gl)
    · cases h
  · cases h
/-- the names that a statement's own expressions capture -/
def capS : Stmt → List Str
  | .Return (some e) _ => capN 40 e
  | .Expr e _ => capN 40 e
  | .Assign _ e _ => capN 40 e
  | .If e _ _ _ => capN 40 e
  | .For _ e _ _ _ => capN 40 e
  | _ => []
def cSs (f : Stmt → Option (Tb → SM)) : List Stmt → Option (Tb → SM)
  | [] => some fun _ => mNx
  | [s] => f s
  | s :: r => match f s, cSs f r with
    | some m, some n => some fun T => mSeq (m T) (n T)
    | _, _ => none
theorem cSs_ok {f : Stmt → Option (Tb → SM)} {X : Cx} {G : Gd} {W : WX} {T : Tb} (hf : ∀ {s m}, f s = some m → PS X s (tS G (fm X) W (m T))) : ∀ {b : List Stmt} {m : Tb → SM}, cSs f b = some m → PSs X b (tS G (fm X) W (m T))
  | [], m, h => by
    unfold cSs at h
    cases h
    exact ms_nil
  | [s], m, h => by
    unfold cSs at h
    exact ms_one (hf h)
  | s :: t :: r, m, h => by
    unfold cSs at h
    split at h
    · rename_i m1 n q1 q2
      cases h
      exact ms_cons (hf q1) (cSs_ok hf q2)
    · cases h
end Sh

end

noncomputable section
namespace Sh
open PySem PySem.Spec PyProof.Rows L2 LamX He
/-! ### raise X() -/
def mRaise0 (c : Nat) : SM := fun ls S => .ex ⟨c, []⟩ ls S
section
variable {X : Cx} {G : Gd} {W : WX} {F : Fm}
theorem pmk_ex0 {x : Str} {C : Addr} {p pos : Pos} (q : PySem.W.excIn X.K C veBm "ValueError.__new__" = true) (gC : X.mg x = some (.ref C)) (kC : PySem.W.keepIn X.K (.ref C) = true) (r : Raises X (.ref C)) (hg : Gl X x) (hdb : (x == ("__debug__" : Str)) = false) :
    PMk X (.Call (.Name x p) [] [] pos) (fun _ H Q => Q (.ref C) none H) := by
  intro pins s σ H Q I h
  refine wpAny_Call_Name_kw
        (ld_glob I hg gC ?_ hdb)
  refine PySem.W.callWith_K0 I.kIn kC ?_
  show wpAny _ _ (call (.ref C) []) _ _ _
  obtain ⟨bm, N, nm, qn, bs, hdct, sn, sub, ab, col, dd, k0, k1, k2, k3, k5, mN, hC, hN, hni, T⟩ := exc_obj I.kIn q
  exact wpAny_call_exc_subT PySem.F.excBase_ValueError T hC hN hni (fun h' e hm => mk_of I hm r h (I.hok.gone hm.new)) (Nat.zero_le _)
theorem msr0 {x : Str} {p pos pos2 : Pos} (c : Nat) (hc : X.calm = true) (q : PySem.W.excIn X.K (G.ca c) veBm "ValueError.__new__" = true) (gC : X.mg x = some (.ref (G.ca c))) (kC : PySem.W.keepIn X.K (.ref (G.ca c)) = true) (r : Raises X (.ref (G.ca c))) (tk : Takes X W) (hg : Gl X x) (hdb : (x == ("__debug__" : Str)) = false) :
    PS X (.Raise (some (.Call (.Name x p) [] [] pos)) none pos2) (tS G F W (mRaise0 c)) :=
  PS_imp (ps_raise hc tk (pmk_ex0 q gC kC r hg hdb)) fun D σ H ⟨ρ, S, ls, T, h⟩ => h ρ H σ (Ext.refl _ _) T _ _ ⟨rfl, rfl⟩
end
/-! ### try -/
def suiteCfg (cfg : CF) : CF := { cfg with calm := false, top := false, lamk := false }
theorem suite_fr {X : Cx} {G : Gd} {W : WX} {cfg : CF} (fr : FrOk X G W cfg) {a : Addr} {pn : List (Addr × Obj)} : FrOk (X.suite a pn) G W0 (suiteCfg cfg) where
  N := fr.N
  sc := fr.sc
  q := fr.q
  K := fr.K
  nd := fr.nd
  cb := fr.cb
  tk := L2.takes0
  lam := fr.lam
  nm := fr.nm
  fnc := fr.fnc
  calm := fun h => by cases h
  top := fun h => by cases h
  po := fun h => by cases h
  lamk := fun h => by cases h
theorem suite_gl {X : Cx} {G : Gd} {cfg : CF} {T : Tb} {kk : Nat} (gl : GlOk X G cfg T kk) {a : Addr} {pn : List (Addr × Obj)} : GlOk (X.suite a pn) G (suiteCfg cfg) T kk :=
  ⟨gl.glob, gl.d, gl.l, fun h => (by cases h), gl.kit, gl.exm, gl.nm, gl.fld, gl.m, gl.pos⟩
theorem tr_fr {X : Cx} {G : Gd} {W W' : WX} {cfg : CF} (fr : FrOk X G W cfg) {pn : List (Addr × Obj)} {xe : Value → Shared → Prop} (tk : Takes (X.tr pn xe) W') (po : PassesOwn (model X.prog X.w) X.A X.env xe) : FrOk (X.tr pn xe) G W' cfg where
  N := fr.N
  sc := fr.sc
  q := fr.q
  K := fr.K
  nd := fr.nd
  cb := fr.cb
  tk := tk
  lam := fr.lam
  nm := fr.nm
  fnc := fr.fnc
  calm := fr.calm
  top := fr.top
  po := fun _ => po
  lamk := fr.lamk
theorem tr_gl {X : Cx} {G : Gd} {cfg : CF} {T : Tb} {kk : Nat} (gl : GlOk X G cfg T kk) {pn : List (Addr × Obj)} {xe : Value → Shared → Prop} : GlOk (X.tr pn xe) G cfg T kk :=
  ⟨gl.glob, gl.d, gl.l, gl.room, gl.kit, gl.exm, gl.nm, gl.fld, gl.m, gl.pos⟩
def exNo (cfg : CF) (x : Str) : Option (Nat × Option Nat) := match gloOf cfg x with
  | some (.exc c f) => some (c, f)
  | _ => none
theorem exNo_ok {X : Cx} {G : Gd} {W : WX} {cfg : CF} {T : Tb} {kk : Nat} {x : Str} {c : Nat} {f : Option Nat} (h : exNo cfg x = some (c, f)) (fr : FrOk X G W cfg) (gl : GlOk X G cfg T kk) : Names X x (.ref (G.ca c)) ∧ GIOk X G T kk x (.exc c f) := by
  unfold exNo at h
  split at h
  · rename_i q
    cases h
    obtain ⟨h1, h2, h3⟩ := gloOf_ok fr gl q
    exact ⟨⟨h1, (okName_ok h2).1, .inl h3.1⟩, h3⟩
  · cases h
/-- a clause's plain form -/
def cHand (L : Lv) (cfg : CF) (n : Str) : ExceptHandler → Option (Tb → Nat × HF)
  | .ExceptHandler (some (.Name x _)) (some n') [.Return (some (.Tuple [.Constant (.str w) _ _, .Attribute (.Name n2 _) fld _] _ _)) _] _ => match decide (n' = n) && decide (n2 = n), exNo cfg x with
    | true, some (c, some f) => match decide (cfg.nm f = fld) with
      | true => some fun _ => (c, .tf w.cps.toList f)
      | false => none
    | _, _ => none
  | .ExceptHandler (some (.Name x _)) (some n') [.Return (some (.Attribute (.Name n2 _) fld _)) _] _ => match decide (n' = n) && decide (n2 = n), exNo cfg x with
    | true, some (c, some f) => match decide (cfg.nm f = fld) with
      | true => some fun _ => (c, .f f)
      | false => none
    | _, _ => none
  | .ExceptHandler (some (.Name x _)) (some n') [.Return (some (.Tuple [.Constant (.str w) _ _, .Constant .none _ _] _ _)) _] _ => match decide (n' = n), exNo cfg x with
    | true, some (c, _) => some fun _ => (c, .tn w.cps.toList)
    | _, _ => none
  | .ExceptHandler (some (.Name x _)) none (b :: r) _ => match exNo cfg x, cSs (L.S (suiteCfg cfg)) (b :: r) with
    | some (c, _), some m => some fun T => (c, .no (m T))
    | _, _ => none
  | _ => none
def cHands (L : Lv) (cfg : CF) (n : Str) : List ExceptHandler → Option (Tb → List (Nat × HF))
  | [] => some fun _ => []
  | h :: r => match cHand L cfg n h, cHands L cfg n r with
    | some m, some ms => some fun T => m T :: ms T
    | _, _ => none
theorem xfc_of {K : PySem.W.Frag} {mg : Str → Option Value} {x fld : Str} {C fI : Addr} (T : PySem.OXn.OTxt K mg x fld C fI) : XfC K C := ⟨T.ga, T.gg, T.exC, T.hdC⟩
theorem cHand_ok {L : Lv} (hL : LvOk L) {cfg : CF} {n : Str} {hd : ExceptHandler} {m : Tb → Nat × HF} (h : cHand L cfg n hd = some m) {X : Cx} {G : Gd} {W : WX} {T : Tb} {kk i : Nat} (fr : FrOk X G W cfg) (gl : GlOk X G cfg T kk) (hi : X.N[i]? = some n) (hv : Vis X.env.scope n) (hn : okName n = true)
    {hds : List ExceptHandler} {l : List HE} (r : HdsOkA X n hds l) : HdsOkA X n (hd :: hds) (heOf X G i (m T) :: l) := by
  obtain ⟨n1, n2, n3⟩ := okName_ok hn
  unfold cHand at h
  split at h
  · rename_i x px n' w j1 p1 nn p2 fld p3 k4 p4 p5 p6
    split at h
    · rename_i c f q1 q2
      split at h
      · rename_i q3
        cases h
        rw [Bool.and_eq_true] at q1
        have e1 := of_decide_eq_true q1.1
        have e2 := of_decide_eq_true q1.2
        have e3 := of_decide_eq_true q3
        rw [← fr.nm] at e3
        subst e1 e2 e3
        obtain ⟨a1, _, fI, OT⟩ := exNo_ok q2 fr gl
        show HdsOkA X _ _ ((_, true, _) :: l)
        refine .cons a1 (fun a oe cls d pn atZ hf => ?_) r
        rw [toS_eta w]
        exact pss_one (ps_ret (pe_tup (pa_cons (X := X.suite a ((a, oe) :: pn)) pe_str (pa_cons (pe_xf (xfc_of OT) OT.noN atZ hf (pe_var hi hv n1 n2) rfl) pa_nil))))
      · cases h
    · cases h
  · rename_i x px n' nn p2 fld p3 p5 p6
    split at h
    · rename_i c f q1 q2
      split at h
      · rename_i q3
        cases h
        rw [Bool.and_eq_true] at q1
        have e1 := of_decide_eq_true q1.1
        have e2 := of_decide_eq_true q1.2
        have e3 := of_decide_eq_true q3
        rw [← fr.nm] at e3
        subst e1 e2 e3
        obtain ⟨a1, _, fI, OT⟩ := exNo_ok q2 fr gl
        show HdsOkA X _ _ ((_, true, _) :: l)
        exact .cons a1 (fun a oe cls d pn atZ hf => pss_one (ps_ret (pe_xf (xfc_of OT) OT.noN atZ hf (pe_var hi hv n1 n2) rfl))) r
      · cases h
    · cases h
  · rename_i x px n' w j1 p1 k2 p2 k4 p4 p5 p6
    split at h
    · rename_i c f q1 q2
      cases h
      have e1 := of_decide_eq_true q1
      subst e1
      obtain ⟨a1, _⟩ := exNo_ok q2 fr gl
      show HdsOkA X _ _ ((_, true, _) :: l)
      refine .cons a1 (fun a oe cls d pn atZ hf => ?_) r
      rw [toS_eta w]
      exact pss_one (ps_ret (pe_tup (pa_cons (X := X.suite a ((a, oe) :: pn)) pe_str (pa_cons pe_non pa_nil))))
    · cases h
  · rename_i x px b r' p6
    split at h
    · rename_i c f m1 q1 q2
      cases h
      obtain ⟨a1, _⟩ := exNo_ok q1 fr gl
      show HdsOkA X _ _ ((_, false, _) :: l)
      exact .bare a1 (fun a oe cls d pn atZ hf => cSs_ok (X := X.suite a ((a, oe) :: pn)) (fun z => hL.S z (suite_fr fr) (suite_gl gl)) q2) r
    · cases h
  · cases h
theorem cHands_ok {L : Lv} (hL : LvOk L) {cfg : CF} {n : Str} {X : Cx} {G : Gd} {W : WX} {T : Tb} {kk i : Nat} (fr : FrOk X G W cfg) (gl : GlOk X G cfg T kk) (hi : X.N[i]? = some n) (hv : Vis X.env.scope n) (hn : okName n = true) : ∀ {hds : List ExceptHandler} {m : Tb → List (Nat × HF)}, cHands L cfg n hds = some m → HdsOkA X n hds ((m T).map (heOf X G i))
  | [], m, h => by
    unfold cHands at h
    cases h
    exact .nil
  | hd :: r, m, h => by
    unfold cHands at h
    split at h
    · rename_i m1 ms q1 q2
      cases h
      exact cHand_ok hL q1 fr gl hi hv hn (cHands_ok hL fr gl hi hv hn q2)
    · cases h
/-- the name that the clauses bind -/
def asName : List ExceptHandler → Option Str
  | [] => none
  | .ExceptHandler _ (some n) _ _ :: _ => some n
  | _ :: r => asName r
def cTry (L : Lv) (cfg : CF) (body : List Stmt) (h₀ : ExceptHandler) (hds : List ExceptHandler) : Option (Tb → SM) := match asName (h₀ :: hds) with
  | some n => match cfg.top && (cfg.calm && (isLoc cfg n && okName n)), ix cfg.N n, cHands L cfg n (h₀ :: hds) with
    | true, some i, some hs => match cSs (L.S cfg) body with
      | some mb => some fun T => mTry cfg.nc i (hs T) (mb T)
      | none => none
    | _, _, _ => none
  | none => none
theorem cTry_ok {L : Lv} {cfg : CF} (hL : LvOk L) {body : List Stmt} {h₀ : ExceptHandler} {hds : List ExceptHandler} {m : Tb → SM} (h : cTry L cfg body h₀ hds = some m) {X : Cx} {G : Gd} {W : WX} {T : Tb} {kk : Nat} {pos : Pos} (fr : FrOk X G W cfg) (gl : GlOk X G cfg T kk) : PS X (.Try body (h₀ :: hds) [] [] pos) (tS G (fm X) W (m T)) := by
  unfold cTry at h
  split at h
  · rename_i n q0
    split at h
    · rename_i i hs q1 q2 q3
      split at h
      · rename_i mb q4
        cases h
        simp only [Bool.and_eq_true] at q1
        obtain ⟨z1, z2, z3, z4⟩ := q1
        obtain ⟨t1, t2⟩ := fr.top z1
        have hl : X.env.scope.names.lookup n = some .local := by rw [fr.sc]; exact of_decide_eq_true z3
        have hi : X.N[i]? = some n := by rw [fr.N]; exact ix_ok q2
        exact ms_try fr.K gl.exm gl.nm t1 t2 fr.nd hi hl fr.tk (fun W' pn xe tk po => cSs_ok (X := X.tr pn xe) (fun z => hL.S z (tr_fr fr tk po) (tr_gl gl)) q4) (cHands_ok hL fr gl hi (.inl hl) z4 q3)
      · cases h
    · cases h
  · cases h
/-! ### a statement -/
def cS0 (L : Lv) (cfg : CF) (s : Stmt) : Option (Tb → SM) := match s with
  | .Return none _ => some fun _ => mRetN
  | .Return (some e) _ => match L.E cfg e with
    | some m => some fun T => mRet (m T)
    | none => none
  | .Expr e pos => match swpOf e none pos.line cfg.sc, L.E cfg e with
    | .no, some m => some fun T => mExpr (m T)
    | _, _ => none
  | .If c a b _ => match L.T cfg c, cSs (L.S cfg) a, cSs (L.S cfg) b with
    | some t, some m, some n => some fun T => mIfS (t T) (m T) (n T)
    | _, _, _ => none
  | .For tg it body [] _ => cLkS L cfg it (match cfg.top && (cfg.calm && notSet it), cIter L cfg tg it, cTg 5 cfg tg, cSs (L.S cfg) body with
    | true, some i, some g, some m => some fun T => mFor (i T) g (m T)
    | _, _, _, _ => none)
  | .Delete [t] _ => cDel L cfg t
  | .While c body [] _ => match cfg.top, L.T cfg c, cSs (L.S cfg) body with
    | true, some t, some m => some fun T => mWhile (t T) (m T)
    | _, _, _ => none
  | .Assign [.Name x px] v pos => cSetN L cfg x px v pos
  | .Assign [.Tuple es k p] v pos => cSetT L cfg es k p v pos
  | .Assign [.Attribute o f p] v pos => cSetA L cfg o f p v pos
  | .Assign [.Subscript o i p] v pos => cSetI L cfg o i p v pos
  | .Raise (some (.Call (.Name x _) [a] [] _)) none _ => match cfg.calm && (notStar a && okName x), exNo cfg x, L.E cfg a with
    | true, some (c, some f), some m => some fun T => mRaise c f (m T)
    | _, _, _ => none
  | .Raise (some (.Call (.Name x _) [] [] _)) none _ => match cfg.calm && okName x, exNo cfg x with
    | true, some (c, none) => some fun _ => mRaise0 c
    | _, _ => none
  | .Break _ => some fun _ => mBrk
  | .Continue _ => some fun _ => mCnt
  | .Pass _ => some fun _ => mNx
  | .Try body (h₀ :: hds) [] [] _ => cTry L cfg body h₀ hds
  | _ => none
theorem cS0_ok {L : Lv} {cfg : CF} (hL : LvOk L) {s : Stmt} {m : Tb → SM} (h : cS0 L cfg s = some m) {X : Cx} {G : Gd} {W : WX} {T : Tb} {kk : Nat} (fr : FrOk X G W cfg) (gl : GlOk X G cfg T kk) : PS X s (tS G (fm X) W (m T)) := by
  have ss : ∀ {b : List Stmt} {m : Tb → SM}, cSs (L.S cfg) b = some m → PSs X b (tS G (fm X) W (m T)) := fun q => cSs_ok (fun z => hL.S z fr gl) q
  unfold cS0 at h
  split at h
  · cases h; exact ms_retN
  · split at h
    · rename_i q; cases h; exact ms_ret (hL.E q fr gl)
    · cases h
  · split at h
    · rename_i q1 q2; cases h; exact ms_expr (hL.E q2 fr gl) (swp_no fr.sc q1)
    · cases h
  · split at h
    · rename_i q1 q2 q3; cases h; exact ms_if (hL.T q1 fr gl) (ss q2) (ss q3)
    · cases h
  · refine cLkS_ok (fun {m} h => ?_) h
    split at h
    · rename_i q1 q2 q3 q4
      cases h
      simp only [Bool.and_eq_true] at q1
      exact ms_for (fr.po q1.1) (fr.calm q1.2.1) (cIter_ok hL q2 fr gl) (cTg_ok fr 5 q3) (ss q4) (notSet_it q1.2.2)
    · cases h
  · exact cDel_ok hL h fr gl
  · split at h
    · rename_i q1 q2 q3; cases h; exact ms_while (fr.po q1) (hL.T q2 fr gl) (ss q3)
    · cases h
  · exact cSetN_ok hL h fr gl
  · exact cSetT_ok hL h fr gl
  · exact cSetA_ok hL h fr gl
  · exact cSetI_ok hL h fr gl
  · split at h
    · rename_i c f m1 q1 q2 q3
      cases h
      simp only [Bool.and_eq_true] at q1
      obtain ⟨z1, z2, z3⟩ := q1
      obtain ⟨a1, _, fI, OT⟩ := exNo_ok q2 fr gl
      exact msr c f (fr.calm z1) OT rfl (gl.room z1) fr.tk (hL.E q3 fr gl) a1.1 (star_cons z2) rfl
    · cases h
  · split at h
    · rename_i c q1 q2
      cases h
      rw [Bool.and_eq_true] at q1
      obtain ⟨a1, a2, a3, a4, a5, a6⟩ := exNo_ok q2 fr gl
      exact msr0 c (fr.calm q1.1) a3 a2 a4 (raises_own a5 a6) fr.tk a1.1 a1.2.1
    · cases h
  · cases h; exact ms_brk
  · cases h; exact ms_cnt
  · cases h; exact ms_pass
  · exact cTry_ok hL h fr gl
  · cases h
def cS (L : Lv) (cfg : CF) (s : Stmt) : Option (Tb → SM) := match jsOf cfg (capS s), cS0 L cfg s with
  | [], some m => some m
  | j :: js, some m => some fun T => mRegS (j :: js) (m T)
  | _, none => none
theorem cS_ok {L : Lv} {cfg : CF} (hL : LvOk L) {s : Stmt} {m : Tb → SM} (h : cS L cfg s = some m) {X : Cx} {G : Gd} {W : WX} {T : Tb} {kk : Nat} (fr : FrOk X G W cfg) (gl : GlOk X G cfg T kk) : PS X s (tS G (fm X) W (m T)) := by
  unfold cS at h
  split at h
  · rename_i m1 q1 q2
    cases h
    exact cS0_ok hL q2 fr gl
  · rename_i j js m1 q1 q2
    cases h
    exact ms_reg (by rw [← q1]; exact jsOf_ok fr) (cS0_ok hL q2 fr gl)
  · cases h
/-! ### all levels -/
/-- what is not covered is bad -/
def orB {α : Type} (b : Tb → α) (o : Option (Tb → α)) : Option (Tb → α) := match o with
  | some m => some m
  | none => some b
def mBadT : TM := fun _ _ => .bad
theorem mt_bad {X : Cx} {G : Gd} {W : WX} {F : Fm} {e : Expr} : PT X e (tT G F W mBadT) := ⟨fun _ _ _ _ _ _ ⟨_, _, _, _, h⟩ => h.elim⟩
theorem ms_bad1 {X : Cx} {G : Gd} {W : WX} {F : Fm} {s : Stmt} : PS X s (tS G F W mBadS) := ⟨fun _ _ _ _ _ _ ⟨_, _, _, _, h⟩ => h.elim⟩
theorem orB_ok {α : Type} {b : Tb → α} {o : Option (Tb → α)} {m : Tb → α} (h : orB b o = some m) : o = some m ∨ m = b := by
  unfold orB at h
  split at h
  · cases h; exact .inl rfl
  · cases h; exact .inr rfl
def lv : Nat → Lv
  | 0 => ⟨fun _ _ => none, fun _ _ => none, fun _ _ => none⟩
  | n + 1 => ⟨fun cfg e => orB (fun _ => mBad) (cE (lv n) cfg e), fun cfg e => orB (fun _ => mBadT) (cT (lv n) cfg e), fun cfg s => orB (fun _ => mBadS) (cS (lv n) cfg s)⟩
theorem lv_ok : ∀ n, LvOk (lv n)
  | 0 => ⟨fun h => (by cases h), fun h => (by cases h), fun h => (by cases h)⟩
  | n + 1 => ⟨fun h _ _ _ _ _ fr gl => (orB_ok h).elim (fun h => cE_ok (lv_ok n) h fr gl) fun h => by rw [h]; exact me_bad, fun h _ _ _ _ _ fr gl => (orB_ok h).elim (fun h => cT_ok (lv_ok n) h fr gl) fun h => by rw [h]; exact mt_bad,
      fun h _ _ _ _ _ fr gl => (orB_ok h).elim (fun h => cS_ok (lv_ok n) h fr gl) fun h => by rw [h]; exact ms_bad1⟩
end Sh

end

noncomputable section
namespace Sh
open PySem PySem.Spec PyProof.Rows L2 LamX He
/-! ### defs and lambdas of a text -/
/-- what is the same for all frames of a text -/
structure Tx where
  globs : List (Str × GI)
  lam : Nat → LamD
  lamNo : List ((Nat × Nat) × Nat)
  nm : Nat → Str
  nc : Nat
  fld : FldT
  no : Str → Option Nat
structure PgOk (P : Program) (w : World) (K : PySem.W.Frag) (mg : Str → Option Value) (base : Heap) (G : Gd) (tx : Tx) (T : Tb) (kk : Nat) : Prop where
  hK : K = G.K
  glob : ∀ x gi, look tx.globs x = some gi → GIOkP P w K mg base G T kk x gi
  d : ∀ j n f, T.d j = some (n, f) → ∃ fd ps, FnOk P w K mg base (L2.CX P w) kk (G.fa j) fd ps (SPf G n f) ∧ PySem.W.keepIn K (.ref (G.fa j)) = true ∧ Binds K fd ps []
  l : ∀ c n f, T.l c = some (n, f) → LamSp P w K mg base G kk c n f
  kit : KitOk G.K
  exm : ExmOk G tx.nc
  nm : NmInj G
  fld : FldOk G tx.fld
  m : ∀ c m ps f, T.m c m = some (ps, f) → Cls G.K (G.ca c) ∧ ∃ ad p0, Meth G.K (G.ca c) (G.nm m) ad ∧ FnC P w K mg base G kk ad (p0 :: ps) f
  pos : 1 ≤ kk
def cfgD (tx : Tx) (x : Str) (N : List Str) (sc : Scope) (mk : Bool) : CF := { N := N, sc := sc, q := x ++ ".<locals>.", glob := tx.globs, lam := tx.lam, lamNo := tx.lamNo, fnc := fun _ => true, calm := true, top := true, lamk := mk, nm := tx.nm, nc := tx.nc, fld := tx.fld, no := tx.no }
def cfgL (tx : Tx) (q : Str) (N : List Str) (sc : Scope) : CF := { N := N, sc := sc, q := q ++ ".<locals>.", glob := tx.globs, lam := tx.lam, lamNo := tx.lamNo, fnc := fun _ => false, calm := true, top := false, lamk := false, nm := tx.nm, nc := tx.nc, fld := tx.fld, no := tx.no }
/-- what the making of lambdas asks of a def -/
def LkOk (base : Heap) (mg : Str → Option Value) (G : Gd) (x : Str) (cd : Value) : Prop := ∃ cp Pt, TabB base mg cp Pt ∧ cd = .ref cp ∧ (Pt, x ++ ".<locals>." ++ "<lambda>") ∈ G.T ∧ ∀ p ∈ G.T, p.1 = Pt → p.2 = x ++ ".<locals>." ++ "<lambda>"
section
variable {P : Program} {w : World} {K : PySem.W.Frag} {mg : Str → Option Value} {base : Heap} {G : Gd} {tx : Tx} {T : Tb} {kk : Nat}
theorem fr_def {N ps : List Str} {x : Str} {sc : Scope} {f : Addr} {cdv : Value} {A : Around} {outer : List Env} {s : Shared} {H : Hp} {E : XK} {mk : Bool} (pg : PgOk P w K mg base G tx T kk) (hl : G.lam = tx.lam) (hn : G.nm = tx.nm) (Sc : FnScope N ps sc) (lk : mk = true → LkOk base mg G x cdv) :
    FrOk (cxOf (L2.CX P w) P w K mg base N x sc f cdv A outer s H E) G (WF E) (cfgD tx x N sc mk) where
  N := rfl
  sc := rfl
  q := rfl
  K := pg.hK
  nd := Sc.nd
  cb := cbx_of
  tk := L2.takes_of (X := cxOf (L2.CX P w) P w K mg base N x sc f cdv A outer s H E) rfl rfl rfl rfl
  lam := hl
  nm := hn
  fnc := fun _ _ => rfl
  calm := fun _ => rfl
  top := fun _ => ⟨rfl, rfl⟩
  po := fun _ => PassesOwn.leaving
  lamk := lk
theorem gl_def {N : List Str} {x : Str} {sc : Scope} {f : Addr} {cdv : Value} {A : Around} {outer : List Env} {s : Shared} {H : Hp} {E : XK} {mk : Bool} (pg : PgOk P w K mg base G tx T kk) (hr : Room kk (A.deeper (envOfC x sc s.heap.objs.size f cdv))) :
    GlOk (cxOf (L2.CX P w) P w K mg base N x sc f cdv A outer s H E) G (cfgD tx x N sc mk) T kk :=
  ⟨pg.glob, pg.d, pg.l, fun _ => hr, pg.kit, pg.exm, pg.nm, pg.fld, pg.m, pg.pos⟩
theorem def_ok {x nm : Str} {st : Stmt} {f : Addr} {fd : FuncData} {N ps : List Str} {n : Nat} {m : Tb → SM} (mk : Bool) (pg : PgOk P w K mg base G tx T kk) (hl : G.lam = tx.lam) (hnm : G.nm = tx.nm) (Fd : FunD K nm x (defArgs st) (defBody st) (defScope st) [] [] f fd) (Sc : FnScope N ps (defScope st)) (hn : ps.length = n)
    (lk : mk = true → LkOk base mg G x fd.code) (hc : cSs ((lv 40).S (cfgD tx x N (defScope st) mk)) (defBody st) = some m) : FnOk P w K mg base (L2.CX P w) (kk + 2) f fd ps (SPf G n (runF N.length (m T))) :=
  fn_ok (m := m T) (Fs := fun s => ⟨N, cellsFrom (s.heap.objs.size + 1) (defScope st).names [], defScope st⟩) Fd Sc hn fun cdv A outer s H E hcd hr => by
    have fr := fr_def (N := N) (f := f) (cdv := cdv) (A := A) (outer := outer) (s := s) (H := H) (E := E) pg hl hnm Sc fun z => by rw [← hcd]; exact lk z
    exact cSs_ok (fun z => (lv_ok 40).S z fr (gl_def pg (hr.mono (by omega)))) hc
/-! a def that hands lambdas back -/
def zReg (js : List Nat) (m : ZM) : ZM := fun ls S => match regL js ls S with
  | some (l, S1) => m l S1
  | none => .bad
theorem mz_reg {X : Cx} {W : WX} {js : List Nat} {m : ZM} {b : List Stmt} (hjs : ∀ j ∈ js, ∃ n, X.N[j]? = some n ∧ CK X.env.scope n) (h : PBz X G W b m) : PBz X G W b (zReg js m) := ⟨fun pins s σ H ρ S ls Pq I Tt z => by
  unfold zReg at z
  cases q : regL js ls S with
  | none => rw [q] at z; exact z.elim
  | some p =>
    obtain ⟨l, S1⟩ := p
    rw [q] at z
    obtain ⟨ρ', T1, x, _⟩ := reg_ok I Tt hjs q
    exact thn (h.run pins s σ H ρ' S1 l Pq I T1 (Out.sat_mono (fun _ _ z => z) (fun _ _ _ z => z.ext x) z)) fun fl s2 ⟨u, v, σ2, H2, ρ2, S2, L2, a, e, I2, r, x2, t⟩ => ⟨u, v, σ2, H2, ρ2, S2, L2, a, e, I2, r, x.trans x2, t⟩⟩
def cZs (cfg : CF) : List Stmt → Option (Tb → ZM)
  | [] => none
  | s :: r => match s, r with
    | .Return (some e) _, [] => match (lv 40).E cfg e with
      | some m => some fun T => zReg (jsOf cfg (capN 40 e)) (zRet (m T))
      | none => none
    | s, r => match (lv 40).S cfg s, cZs cfg r with
      | some m, some n => some fun T => zSeq (m T) (n T)
      | _, _ => none
theorem cZs_ok {cfg : CF} {X : Cx} {W : WX} (fr : FrOk X G W cfg) (gl : GlOk X G cfg T kk) : ∀ {b : List Stmt} {m : Tb → ZM}, cZs cfg b = some m → PBz X G W b (m T)
  | [], m, h => by cases h
  | s :: r, m, h => by
    unfold cZs at h
    split at h
    · split at h
      · rename_i m1 q
        cases h
        exact mz_reg (jsOf_ok fr) (mz_ret ((lv_ok 40).E q fr gl))
      · cases h
    · split at h
      · rename_i m1 n q1 q2
        cases h
        exact mz_cons ((lv_ok 40).S q1 fr gl) (cZs_ok fr gl q2)
      · cases h
theorem def_okZ {x nm : Str} {st : Stmt} {f : Addr} {fd : FuncData} {N ps : List Str} {n : Nat} {m : Tb → ZM} (mk : Bool) (pg : PgOk P w K mg base G tx T kk) (hl : G.lam = tx.lam) (hnm : G.nm = tx.nm) (Fd : FunD K nm x (defArgs st) (defBody st) (defScope st) [] [] f fd) (Sc : FnScope N ps (defScope st)) (hn : ps.length = n)
    (lk : mk = true → LkOk base mg G x fd.code) (hc : cZs (cfgD tx x N (defScope st) mk) (defBody st) = some m) : FnOk P w K mg base (L2.CX P w) (kk + 2) f fd ps (SPf G n (runZ N.length (m T))) :=
  fn_okZ (m := m T) Fd Sc hn fun cdv A outer s H E hcd hr => by
    have fr := fr_def (N := N) (f := f) (cdv := cdv) (A := A) (outer := outer) (s := s) (H := H) (E := E) pg hl hnm Sc fun z => by rw [← hcd]; exact lk z
    exact cZs_ok fr (gl_def pg (hr.mono (by omega))) hc
/-! a lambda -/
theorem lam_ok {c n : Nat} {ps : List Str} {m : Tb → EM} (pg : PgOk P w K mg base G tx T kk) (hl : G.lam = tx.lam) (hnm : G.nm = tx.nm) (Sc : NdefX.NScope (ps ++ (tx.lam c).fr) ps (tx.lam c).fr (tx.lam c).scope) (hn : ps.length = n)
    (hb : ∀ (cl : List (Str × Addr)) (pm cv ctv : Value) (us : List Value), us.length = ps.length → bindArgs (PySem.W.kla_fn "<lambda>" (tx.lam c).q (tx.lam c).params (tx.lam c).body (tx.lam c).scope cl pm cv ctv) ⟨us, []⟩ = pure (ps.zip us))
    (hc : (lv 40).E (cfgL tx (tx.lam c).q (ps ++ (tx.lam c).fr) (tx.lam c).scope) (tx.lam c).body = some m) : LamSp P w K mg base G (kk + 3) c n (lamRun (m T)) := by
  rw [← hl] at Sc hb hc
  subst hn
  refine lam_sp (k := kk + 2) Sc hb fun A outer f cl c' s H E out hr => ?_
  have fr : FrOk (NdefX.ncx (L2.CX P w) P w K mg base (ps ++ (G.lam c).fr) (lamF (G.lam c) cl c') f A outer s H E) G (WF E) (cfgL tx (G.lam c).q (ps ++ (G.lam c).fr) (G.lam c).scope) := {
    N := rfl
    sc := rfl
    q := rfl
    K := pg.hK
    nd := Sc.nd
    cb := cbx_lam out
    tk := L2.takes_of (X := NdefX.ncx (L2.CX P w) P w K mg base (ps ++ (G.lam c).fr) (lamF (G.lam c) cl c') f A outer s H E) rfl rfl rfl rfl
    lam := hl
    nm := hnm
    fnc := fun _ h => (by cases h)
    calm := fun _ => rfl
    top := fun h => (by cases h)
    po := fun h => (by cases h)
    lamk := fun h => (by cases h) }
  have hr' : Room kk (A.deeper (NdefX.envF (lamF (G.lam c) cl c') f s.heap.objs.size)) := hr.mono (by omega)
  exact (lv_ok 40).E hc fr ⟨pg.glob, pg.d, pg.l, fun _ => hr', pg.kit, pg.exm, pg.nm, pg.fld, pg.m, pg.pos⟩
end
/-! ### what the globals are -/
def AllG (Q : Str → GI → Prop) : List (Str × GI) → Prop
  | [] => True
  | (x, g) :: r => Q x g ∧ AllG Q r
theorem allG_at {Q : Str → GI → Prop} : ∀ {l : List (Str × GI)}, AllG Q l → ∀ x gi, look l x = some gi → Q x gi
  | (y, g) :: r, ⟨h1, h2⟩, x, gi, h => by
    unfold look at h
    split at h
    · rename_i e
      cases h
      rw [← of_decide_eq_true e]
      exact h1
    · exact allG_at h2 x gi h
end Sh

end

noncomputable section
namespace Sh
open PySem PySem.Spec PyProof.Rows L2 LamX He
/-! ### plain parameters are bound in order -/
/-! ### an own error with one field, by its text -/
open PySem.OXn in
theorem ofld {fld : Str} (h1 : (fld == ("self" : Str)) = false) (h2 : (fld == ("__debug__" : Str)) = false) : OFld fld where
  bnd := fun cx p1 p2 q1 q2 q3 q4 kV doc pm an cdv ct x v => bind_plain (ps := [("self" : Str), fld]) rfl rfl rfl (by
    rw [List.nodup_cons]
    refine ⟨fun z => ?_, by simp⟩
    have e := List.mem_singleton.mp z
    rw [← e, beq_self_eq_true] at h1
    cases h1) rfl
  kf := by
    show (match fld == PySem.Str.ofString "self" with | true => some NameKind.local | false => List.lookup fld [(fld, .local)]) = _
    have e : (fld == PySem.Str.ofString "self") = false := h1
    rw [e]
    show (match fld == fld with | true => some NameKind.local | false => none) = _
    rw [beq_self_eq_true]
  nself := h1
  ndbg := h2
def clsB : Stmt → List Stmt
  | .ClassDef _ _ _ b _ _ _ _ _ _ _ => b
  | _ => []
def initB (fld : Str) (a : Arguments) (b : List Stmt) (sc : Scope) : Bool := match a, b with
  | ⟨[], [⟨s1, none, _⟩, ⟨f1, none, _⟩], none, [], [], none, []⟩, [.Assign [.Attribute (.Name s2 _) f2 _] (.Name f3 _) _] => decide (s1 = "self" ∧ f1 = fld ∧ s2 = "self" ∧ f2 = fld ∧ f3 = fld) && decide (sc = PySem.OXn.iS fld)
  | _, _ => false
theorem initB_ok {fld : Str} {a : Arguments} {b : List Stmt} {sc : Scope} (h : initB fld a b sc = true) : ∃ p1 p2 q1 q2 q3 q4, a = PySem.OXn.iA fld p1 p2 ∧ b = PySem.OXn.iB fld q1 q2 q3 q4 ∧ sc = PySem.OXn.iS fld := by
  unfold initB at h
  split at h
  · rw [Bool.and_eq_true] at h
    obtain ⟨e1, e2, e3, e4, e5⟩ := of_decide_eq_true h.1
    subst e1 e2 e3 e4 e5
    exact ⟨_, _, _, _, _, _, rfl, rfl, of_decide_eq_true h.2⟩
  · cases h
theorem otxt_of {K : PySem.W.Frag} {mg : Str → Option Value} {C fI : Addr} {fd : FuncData} {x f : Str} {i : Stmt} (hx : (x == ("__debug__" : Str)) = false) (h1 : (f == ("self" : Str)) = false) (h2 : (f == ("__debug__" : Str)) = false) (gC : mg x = some (.ref C)) (h : oexB K C fI f = true) (hi : initB f (defArgs i) (defBody i) (defScope i) = true)
    (F : FunD K "__init__" (x ++ ".__init__") (defArgs i) (defBody i) (defScope i) [] [] fI fd) : PySem.OXn.OTxt K mg x f C fI := by
  obtain ⟨a1, h⟩ := ba h
  obtain ⟨a2, h⟩ := ba h
  obtain ⟨a3, h⟩ := ba h
  obtain ⟨a4, h⟩ := ba h
  obtain ⟨a5, h⟩ := ba h
  obtain ⟨a6, h⟩ := ba h
  obtain ⟨a7, h⟩ := ba h
  obtain ⟨a8, h⟩ := ba h
  obtain ⟨a9, h⟩ := ba h
  obtain ⟨a10, h⟩ := ba h
  obtain ⟨a11, a12⟩ := ba h
  refine ⟨ofld h1 h2, hx, gC, exbB_ok a1, eqO_ok a2, eqO_ok a3, eqO_ok a4, eqO_ok a5, eqO_ok a6, of_decide_eq_true a7, a8, of_decide_eq_true a9, of_decide_eq_true a10, a11, of_decide_eq_true a12, ?_⟩
  obtain ⟨oc, od, dV, kV, doc, pm, an, cdv, ct, osl, e, lk, hcd, hD, _⟩ := F.ex
  subst e
  have eD : dV = .none := by
    rcases hD with ⟨_, e⟩ | ⟨e, _⟩
    · exact e
    · exact absurd rfl e
  subst eD
  obtain ⟨p1, p2, q1, q2, q3, q4, e1, e2, e3⟩ := initB_ok hi
  rw [e1, e2, e3] at lk
  exact ⟨oc, od, doc, pm, kV, an, cdv, ct, osl, p1, p2, q1, q2, q3, q4, lk, hcd⟩
/-! ### whole bodies; what is not covered is bad -/
def cmpE (cfg : CF) (e : Expr) : Tb → EM := ((lv 40).E cfg e).getD fun _ => mBad
theorem cmpE_eq (cfg : CF) (e : Expr) : (lv 40).E cfg e = some (cmpE cfg e) := by
  unfold cmpE
  have h : ∃ m, (lv 40).E cfg e = some m := by
    show ∃ m, orB _ (cE (lv 39) cfg e) = some m
    unfold orB
    split
    · exact ⟨_, rfl⟩
    · exact ⟨_, rfl⟩
  obtain ⟨m, h⟩ := h
  rw [h]
  rfl
theorem lvS_some (cfg : CF) (s : Stmt) : ∃ m, (lv 40).S cfg s = some m := by
  show ∃ m, orB _ (cS (lv 39) cfg s) = some m
  unfold orB
  split
  · exact ⟨_, rfl⟩
  · exact ⟨_, rfl⟩
def cmpB (cfg : CF) (b : List Stmt) : Tb → SM := (cSs ((lv 40).S cfg) b).getD fun _ => mBadS
theorem cSs_some (cfg : CF) : ∀ b : List Stmt, ∃ m, cSs ((lv 40).S cfg) b = some m
  | [] => ⟨_, rfl⟩
  | [s] => lvS_some cfg s
  | s :: t :: r => by
    obtain ⟨m, h⟩ := lvS_some cfg s
    obtain ⟨n, k⟩ := cSs_some cfg (t :: r)
    unfold cSs
    rw [h, k]
    exact ⟨_, rfl⟩
theorem cmpB_eq (cfg : CF) (b : List Stmt) : cSs ((lv 40).S cfg) b = some (cmpB cfg b) := by
  unfold cmpB
  obtain ⟨m, h⟩ := cSs_some cfg b
  rw [h]
  rfl
/-! ### a text's lambdas -/
def lamsE : Nat → Expr → List (Arguments × Expr × Scope × Pos)
  | 0, _ => []
  | n + 1, e => match e with
    | .Lambda a b sc p => [(a, b, sc, p)]
    | .Call f es ks _ => lamsE n f ++ ((es.map (lamsE n)).flatten ++ (ks.map fun k => lamsE n k.value).flatten)
    | .List es _ => (es.map (lamsE n)).flatten
    | .Tuple es _ _ => (es.map (lamsE n)).flatten
    | .BinOp a _ b _ => lamsE n a ++ lamsE n b
    | .BoolOp _ es _ => (es.map (lamsE n)).flatten
    | .Compare a _ es _ => lamsE n a ++ (es.map (lamsE n)).flatten
    | .UnaryOp _ a _ => lamsE n a
    | .IfExp a b c _ => lamsE n a ++ (lamsE n b ++ lamsE n c)
    | .Subscript a b _ => lamsE n a ++ lamsE n b
    | .Attribute a _ _ => lamsE n a
    | .Starred a _ => lamsE n a
    | .Dict ks vs _ => (vs.map (lamsE n)).flatten
    | .ListComp elt gs _ _ => lamsE n elt ++ (gs.map fun g => lamsE n g.iter ++ (g.ifs.map (lamsE n)).flatten).flatten
    | _ => []
def hdB : ExceptHandler → List Stmt
  | .ExceptHandler _ _ b _ => b
def lamsS : Nat → Stmt → List (Arguments × Expr × Scope × Pos)
  | 0, _ => []
  | n + 1, s => match s with
    | .Return (some e) _ => lamsE n e
    | .Expr e _ => lamsE n e
    | .Assign _ e _ => lamsE n e
    | .If e b o _ => lamsE n e ++ ((b.map (lamsS n)).flatten ++ (o.map (lamsS n)).flatten)
    | .For _ e b _ _ => lamsE n e ++ (b.map (lamsS n)).flatten
    | .While e b _ _ => lamsE n e ++ (b.map (lamsS n)).flatten
    | .Try b hs _ _ _ => (b.map (lamsS n)).flatten ++ (hs.map fun h => ((hdB h).map (lamsS n)).flatten).flatten
    | .Raise (some e) _ _ => lamsE n e
    | _ => []
/-! ### a law's text, as data -/
/-- a def: its name, its place, its locals, its parameters; 0: plain, 1: it hands lambdas back, 2: the draw, 3: not looked at; where it is found, its own name, its place within a class -/
structure DefR where
  x : Str
  i : Nat
  N : List Str
  ps : List Str
  kind : Nat
  ad : Str × Option Str
  nm : Str
  j : Option Nat
  deriving DecidableEq
/-- an own class: its name, its __init__, its methods, the fields that its instances are asked for -/
structure ClsR where
  x : Str
  init : Nat
  ms : List (Nat × Nat)
  fs : List Nat
structure Pd where
  main : List Stmt
  dfs : List DefR
  exs : List (Str × Nat × Option Nat)
  bts : List Str
  cst : List (Str × AV)
  tup : List (Str × List (List Nat))
  tbl : List (Str × Tbl)
  flds : List Str
  cls : List ClsR
def noStmt : Stmt := .Pass ⟨0, 0, 0, 0⟩
def nmL (l : List Str) (i : Nat) : Str := match l[i]? with
  | some f => f
  | none => ⟨#[i + 2000000]⟩
def nmLB (l : List Str) : Bool := decide l.Nodup && l.all fun f => Nat.blt (f.cps.getD 0 0) 2000000
theorem nmL_inj {l : List Str} (h : nmLB l = true) (a b : Nat) (e : nmL l a = nmL l b) : a = b := by
  unfold nmLB at h
  obtain ⟨h1, h2⟩ := ba h
  have nd := of_decide_eq_true h1
  have lt : ∀ {i : Nat} {f : Str}, l[i]? = some f → f.cps.getD 0 0 < 2000000 := fun {i f} g => Nat.le_of_ble_eq_true (List.all_eq_true.mp h2 f (List.mem_of_getElem? g))
  unfold nmL at e
  cases qa : l[a]? with
  | none =>
    rw [qa] at e
    cases qb : l[b]? with
    | none =>
      rw [qb] at e
      have e2 : (#[a + 2000000] : Array Nat).getD 0 0 = (#[b + 2000000] : Array Nat).getD 0 0 := congrArg (fun s : Str => s.cps.getD 0 0) e
      have e3 : a + 2000000 = b + 2000000 := e2
      omega
    | some f =>
      rw [qb] at e
      have e2 := lt qb
      rw [← (show (⟨#[a + 2000000]⟩ : Str) = f from e)] at e2
      have e3 : a + 2000000 < 2000000 := e2
      omega
  | some f =>
    rw [qa] at e
    cases qb : l[b]? with
    | none =>
      rw [qb] at e
      have e2 := lt qa
      rw [(show f = (⟨#[b + 2000000]⟩ : Str) from e)] at e2
      have e3 : b + 2000000 < 2000000 := e2
      omega
    | some g =>
      rw [qb] at e
      have e2 : f = g := e
      subst e2
      obtain ⟨la, ea⟩ := List.getElem?_eq_some_iff.mp qa
      obtain ⟨lb, eb⟩ := List.getElem?_eq_some_iff.mp qb
      exact (List.getElem_inj nd).mp (ea.trans eb.symm)
namespace Pd
variable (p : Pd)
def at_ (i : Nat) : Stmt := p.main.getD i noStmt
def st (r : DefR) : Stmt := match r.j with
  | none => p.at_ r.i
  | some j => (clsB (p.at_ r.i)).getD j noStmt
def lamsOf (r : DefR) : List (Arguments × Expr × Scope × Pos) := ((defBody (p.st r)).map (lamsS 40)).flatten
def mkL (r : DefR) : Bool := !(p.lamsOf r).isEmpty
def lams : List (LamD × Pos) := (p.dfs.map fun r => (p.lamsOf r).map fun l => ((⟨r.x ++ ".<locals>." ++ "<lambda>", l.1, l.2.1, l.2.2.1, freeR l.2.2.1.names⟩ : LamD), l.2.2.2)).flatten
def lamAt (c : Nat) : LamD := match p.lams[c]? with
  | some l => l.1
  | none => ⟨Str.empty, defArgs noStmt, .Constant .none 0 ⟨0, 0, 0, 0⟩, defScope noStmt, []⟩
def psD (d : Nat) : List Str := match p.dfs[d]? with
  | some r => r.ps
  | none => []
def globs : List (Str × GI) := ((p.dfs.zipIdx.filter fun r => r.1.ad.2.isNone).map fun r => (r.1.ad.1, GI.fn r.2 r.1.ps)) ++ ((p.tbl.zipIdx.map fun t => (t.1.1, GI.tbl (p.dfs.length + t.2) t.1.2)) ++ ((p.exs.zipIdx.map fun e => (e.1.1, GI.exc e.2 e.1.2.2)) ++
  ((p.cst.map fun q => (q.1, GI.cst q.2)) ++ ((p.tup.map fun q => (q.1, GI.cst (.tup (q.2.map .str)))) ++ ((p.bts.map fun x => (x, GI.bt)) ++ p.cls.zipIdx.map fun c => (c.1.x, GI.cls c.1.init (p.exs.length + c.2) (p.psD c.1.init).tail))))))
/-- an own class by its number -/
def clsAt (c : Nat) : Option ClsR := match Nat.ble p.exs.length c with
  | true => p.cls[c - p.exs.length]?
  | false => none
def fldT : FldT := fun c k => match p.clsAt c with
  | some r => r.fs.any fun f => Nat.beq f k
  | none => false
def mthI (c k : Nat) : Option Nat := match p.clsAt c with
  | some r => match r.ms.find? fun m => Nat.beq m.1 k with
    | some m => some m.2
    | none => none
  | none => none
def tx : Tx := { globs := p.globs, lam := p.lamAt, lamNo := p.lams.zipIdx.map fun l => ((l.1.2.line, l.1.2.col), l.2), nm := nmL p.flds, nc := p.exs.length, fld := p.fldT, no := ix p.flds }
def faOf (K : PySem.W.Frag) (j : Nat) : Addr := match p.dfs[j]? with
  | some r => fAd K r.ad
  | none => match p.tbl[j - p.dfs.length]? with
    | some t => ga K t.1
    | none => 0
def caOf (K : PySem.W.Frag) (c : Nat) : Addr := match p.exs[c]? with
  | some e => ga K e.1
  | none => match p.cls[c - p.exs.length]? with
    | some r => ga K r.x
    | none => 0
def mkG (K : PySem.W.Frag) : Gd := { K := K, fa := p.faOf K, ca := p.caOf K, nm := nmL p.flds, lam := p.lamAt, T := (p.dfs.filter p.mkL).map fun r => ((He.cT K r.ad).2, r.x ++ ".<locals>." ++ "<lambda>") }
def fnOf (r : DefR) (T : Tb) : Fn := match r.kind with
  | 0 => runF r.N.length (cmpB (cfgD p.tx r.x r.N (defScope (p.st r)) (p.mkL r)) (defBody (p.st r)) T)
  | 1 => match cZs (cfgD p.tx r.x r.N (defScope (p.st r)) (p.mkL r)) (defBody (p.st r)) with
    | some m => runZ r.N.length (m T)
    | none => badF
  | 2 => drawF
  | _ => badF
def psOf (a : Arguments) : List Str := a.args.map (·.arg)
def nextT (T : Tb) : Tb := ⟨fun j => match p.dfs[j]? with
    | some r => p.fnOf r T
    | none => badF, fun j => match p.dfs[j]? with
    | some r => some (r.ps.length, p.fnOf r T)
    | none => none, fun c => match p.lams[c]? with
    | some l => some (l.1.params.args.length, lamRun (cmpE (cfgL p.tx l.1.q (psOf l.1.params ++ l.1.fr) l.1.scope) l.1.body T))
    | none => none, fun c k => match p.mthI c k with
    | some d => match p.dfs[d]? with
      | some r => some (r.ps.tail, p.fnOf r T)
      | none => none
    | none => none⟩
def tab : Nat → Tb
  | 0 => ⟨fun _ => badF, fun _ => none, fun _ => none, fun _ _ => none⟩
  | k + 1 => p.nextT (tab k)
/-! the looks at the text -/
def fscB (N ps : List Str) (sc : Scope) : Bool := decide (sc.kind = .function) && (!sc.isCoroutine && (!sc.isGenerator && (decide N.Nodup && (decide (N.take ps.length = ps) && (ps.all (fun x => decide (sc.names.lookup x = some .local) || decide (sc.names.lookup x = some .cell)) && sc.names.all fun y => !decide (y.2 = .free))))))
theorem fscB_ok {N ps : List Str} {sc : Scope} (h : fscB N ps sc = true) : FnScope N ps sc := by
  unfold fscB at h
  simp only [Bool.and_eq_true,
        Bool.not_eq_true', decide_eq_true_eq, List.all_eq_true, Bool.or_eq_true, decide_eq_false_iff_not] at h
  exact ⟨h.1, h.2.1, h.2.2.1, h.2.2.2.1, h.2.2.2.2.1, h.2.2.2.2.2.1, h.2.2.2.2.2.2⟩
def defB (r : DefR) : Bool := plainA (defArgs (p.st r)) && (decide (psOf (defArgs (p.st r)) = r.ps) && (decide r.ps.Nodup && (fscB r.N r.ps (defScope (p.st r)) && (!Nat.beq r.kind 2 || decide (r.ps = [("stream" : Str), ("many" : Str)])))))
def lamB (l : LamD) : Bool := plainA l.params && (decide (psOf l.params).Nodup && NdefX.nscB (psOf l.params ++ l.fr) (psOf l.params) l.fr l.scope)
def exB (e : Str × Nat × Option Nat) : Bool := match e.2.2 with
  | some f => (!(e.1 == ("__debug__" : Str))) && ((!(nmL p.flds f == ("self" : Str))) && ((!(nmL p.flds f == ("__debug__" : Str))) && (initB (nmL p.flds f) (defArgs ((clsB (p.at_ e.2.1)).getD 0 noStmt)) (defBody ((clsB (p.at_ e.2.1)).getD 0 noStmt)) (defScope ((clsB (p.at_ e.2.1)).getD 0 noStmt)))))
  | none => true
def okB : Bool := p.dfs.all p.defB && (p.lams.all (fun l => lamB l.1) && (p.exs.all p.exB && nmLB p.flds))
end Pd
end Sh

end

noncomputable section
namespace Sh
open PySem PySem.Spec PyProof.Rows L2 LamX He
namespace Pd
variable (p : Pd)
/-- an own class, as the head tells of it -/
structure ClsOk (K : PySem.W.Frag) (mg : Str → Option Value) (c : ClsR) : Prop where
  mg : mg c.x = some (.ref (ga K c.x))
  cls : Cls K (ga K c.x)
  mkr : Mk K (ga K c.x) (ma K (ga K c.x) "__init__")
  ini : ∃ r, p.dfs[c.init]? = some r ∧ fAd K r.ad = ma K (ga K c.x) "__init__" ∧ r.ps ≠ []
  fs : ∀ f ∈ c.fs, NoAttr K (ga K c.x) (nmL p.flds f)
  ms : ∀ m ∈ c.ms, Meth K (ga K c.x) (nmL p.flds m.1) (ma K (ga K c.x) (nmL p.flds m.1)) ∧ ∃ r, p.dfs[m.2]? = some r ∧ fAd K r.ad = ma K (ga K c.x) (nmL p.flds m.1) ∧ r.ps ≠ []
/-- what the head tells of a text -/
structure Ok (w : World) (K : PySem.W.Frag) (mg : Str → Option Value) (base : Heap) : Prop where
  fn : ∀ r ∈ p.dfs, (r.ad.2 = none → mg r.ad.1 = some (.ref (ga K r.ad.1))) ∧ ∃ fd, FunD K r.nm r.x (defArgs (p.st r)) (defBody (p.st r)) (defScope (p.st r)) [] [] (fAd K r.ad) fd
  tbl : ∀ t ∈ p.tbl, mg t.1 = some (.ref (ga K t.1)) ∧ (∃ es n, KDict K w (ga K t.1) es n) ∧ TblOk K (ga K t.1) t.2
  exs : ∀ e ∈ p.exs, mg e.1 = some (.ref (ga K e.1)) ∧ match e.2.2 with
    | some f => ∃ fI, PySem.OXn.OTxt K mg e.1 (nmL p.flds f) (ga K e.1) fI
    | none => PySem.W.excIn K (ga K e.1) veBm "ValueError.__new__" = true ∧ PySem.W.keepIn K (.ref (ga K e.1)) = true ∧ PySem.W.subIn K (.ref (ga K e.1)) (.type "BaseException") = some true ∧ PySem.W.typeIn K (.ref (ga K e.1)) = some (.type "type")
  cst : ∀ q ∈ p.cst, ∃ v u, mg q.1 = some u ∧ RelV v u ∧ ∀ G ρ H, RV G ρ H q.2 v
  tup : ∀ q ∈ p.tup, mg q.1 = some (.ref (ga K q.1)) ∧ ∀ H, SqT K H (ga K q.1) (q.2.map fun s => V.str (toS s))
  bts : ∀ x ∈ p.bts, mg x = none
  kit : KitOk K
  exm : ExmOk (p.mkG K) p.exs.length
  tab : ∀ r ∈ p.dfs, p.mkL r = true → TabB base mg (He.cT K r.ad).1 (He.cT K r.ad).2
  dst : ∀ r ∈ p.dfs, ∀ q ∈ p.dfs, p.mkL r = true → p.mkL q = true → (He.cT K r.ad).2 = (He.cT K q.ad).2 → r.x = q.x
  cls : ∀ c ∈ p.cls, p.ClsOk K mg c
section
variable {p : Pd} {P : Program} {w : World} {K : PySem.W.Frag} {mg : Str → Option Value} {base : Heap}
theorem mem_idx {α : Type} {l : List α} {i : Nat} {a : α} (h : l[i]? = some a) : a ∈ l := List.mem_of_getElem? h
theorem fa_def {i : Nat} {r : DefR} (h : p.dfs[i]? = some r) : (p.mkG K).fa i = fAd K r.ad := by
  show p.faOf K i = _
  unfold faOf
  rw [h]
theorem fa_tbl {i : Nat} {t : Str × Tbl} (h : p.tbl[i]? = some t) : (p.mkG K).fa (p.dfs.length + i) = ga K t.1 := by
  show p.faOf K _ = _
  unfold faOf
  rw [List.getElem?_eq_none
        (by omega)]
  dsimp only
  rw [Nat.add_sub_cancel_left, h]
theorem ca_cls {i : Nat} {c : ClsR} (h : p.cls[i]? = some c) : (p.mkG K).ca (p.exs.length + i) = ga K c.x := by
  show p.caOf K _ = _
  unfold caOf
  rw [List.getElem?_eq_none
        (by omega)]
  dsimp only
  rw [Nat.add_sub_cancel_left, h]
theorem ca_at {i : Nat} {c : ClsR} (h : p.clsAt i = some c) : c ∈ p.cls ∧ (p.mkG K).ca i = ga K c.x := by
  unfold clsAt at h
  split at h
  · rename_i q
    have q := Nat.le_of_ble_eq_true q
    obtain ⟨m, rfl⟩ : ∃ m, i = p.exs.length + m := ⟨i - p.exs.length, by omega⟩
    rw [Nat.add_sub_cancel_left] at h
    exact ⟨mem_idx h, ca_cls h⟩
  · cases h
theorem ca_exc {i : Nat} {e : Str × Nat × Option Nat} (h : p.exs[i]? = some e) : (p.mkG K).ca i = ga K e.1 := by
  show p.caOf K _ = _
  unfold caOf
  rw [h]
theorem plain_of {x nm : Str} {st : Stmt} {f : Addr} {fd : FuncData} {ps : List Str} (h1 : plainA (defArgs st) = true) (h2 : psOf (defArgs st) = ps) (h3 : ps.Nodup) (F : FunD K nm x (defArgs st) (defBody st) (defScope st) [] [] f fd) : Plain fd ps := by
  obtain ⟨oc, od, dV, kV, doc, pm, an, cdv, ct, osl, rfl, lk, hcd, hD, hK⟩ :=
        F.ex
  rcases hD with ⟨_,
        rfl⟩ | ⟨e, _⟩
  · exact ⟨h1, rfl, h2, h3⟩
  · exact absurd rfl e
theorem binds_of {x nm : Str} {st : Stmt} {f : Addr} {fd : FuncData} {ps : List Str} (h1 : plainA (defArgs st) = true) (h2 : psOf (defArgs st) = ps) (h3 : ps.Nodup) (F : FunD K nm x (defArgs st) (defBody st) (defScope st) [] [] f fd) : Binds K fd ps [] :=
  (plain_of h1 h2 h3 F).binds
theorem defB_ok {r : DefR} (h : p.defB r = true) : plainA (defArgs (p.st r)) = true ∧ psOf (defArgs (p.st r)) = r.ps ∧ r.ps.Nodup ∧ FnScope r.N r.ps (defScope (p.st r)) ∧ (r.kind = 2 → r.ps = [("stream" : Str), ("many" : Str)]) := by
  unfold defB at h
  obtain ⟨a1, h⟩ := ba h
  obtain ⟨a2, h⟩ := ba h
  obtain ⟨a3, h⟩ := ba h
  obtain ⟨a4, h⟩ := ba h
  refine ⟨a1, of_decide_eq_true a2, of_decide_eq_true a3, fscB_ok a4, fun z => ?_⟩
  rw [z] at h
  exact of_decide_eq_true h
/-- the draw's promise -/
abbrev DrawOk (P : Program) (w : World) (K : PySem.W.Frag) (mg : Str → Option Value) (base : Heap) (p : Pd) : Prop := ∀ r ∈ p.dfs, r.kind = 2 → ∀ fd, FunD K r.nm r.x (defArgs (p.st r)) (defBody (p.st r)) (defScope (p.st r)) [] [] (fAd K r.ad) fd → ∀ k, FnOk P w K mg base (L2.CX P w) (k + 1) (fAd K r.ad) fd r.ps spDraw
theorem lk_of (h : Ok p w K mg base) {r : DefR} (hr : r ∈ p.dfs) {fd : FuncData} (F : FunD K r.nm r.x (defArgs (p.st r)) (defBody (p.st r)) (defScope (p.st r)) [] [] (fAd K r.ad) fd) : p.mkL r = true → LkOk base mg (p.mkG K) r.x fd.code := fun z =>
  ⟨(He.cT K r.ad).1, (He.cT K r.ad).2, h.tab r hr z, codeOf_of (K := K) (p := r.ad) F, List.mem_map.mpr ⟨r, List.mem_filter.mpr ⟨hr, z⟩, rfl⟩, fun q hq e => by
    obtain ⟨t, ht, rfl⟩ := List.mem_map.mp hq
    obtain ⟨ht1, ht2⟩ := List.mem_filter.mp ht
    have e2 := h.dst t ht1 r hr ht2 z e
    show t.x ++ ".<locals>." ++ "<lambda>" = _
    rw [e2]⟩
theorem fn_step (hb : p.okB = true) (h : Ok p w K mg base) (hd : DrawOk P w K mg base p) {T : Tb} {kk : Nat} (pg : PgOk P w K mg base (p.mkG K) p.tx T kk) {r : DefR} (hr : r ∈ p.dfs) :
    FnC P w K mg base (p.mkG K) (kk + 2) (fAd K r.ad) r.ps (p.fnOf r T) := by
  obtain ⟨_, fd, F⟩ := h.fn r hr
  obtain ⟨c1, c2, c3, c4, c5⟩ := defB_ok (List.all_eq_true.mp (ba hb).1 r hr)
  refine ⟨⟨fd, ?_, plain_of c1 c2 c3 F⟩, F.kp⟩
  unfold fnOf
  split
  · exact def_ok (tx := p.tx) (p.mkL r) pg rfl rfl F c4 rfl (lk_of h hr F) (cmpB_eq _ _)
  · split
    · rename_i m q
      exact def_okZ (tx := p.tx) (p.mkL r) pg rfl rfl F c4 rfl (lk_of h hr F) q
    · exact fn_bad rfl
  · rename_i q
    have e : r.ps.length = 2 := by rw [c5 q]; rfl
    rw [e]
    exact (hd r hr q fd F (kk + 1)).imp fun _ _ _ _ h => draw_sp h
  · exact fn_bad rfl
theorem FnC.mono {P : Program} {w : World} {K : PySem.W.Frag} {mg : Str → Option Value} {base : Heap} {G : Gd} {k k' : Nat} {ad : Addr} {ps : List Str} {f : Fn} (h : FnC P w K mg base G k ad ps f) (hk : k ≤ k') : FnC P w K mg base G k' ad ps f :=
  let ⟨fd, F, pl⟩ := h.ok
  ⟨⟨fd, F.mono hk, pl⟩, h.kp⟩
theorem lam_step (hb : p.okB = true) {T : Tb} {kk : Nat} (pg : PgOk P w K mg base (p.mkG K) p.tx T kk) {c : Nat} {l : LamD × Pos} (hc : p.lams[c]? = some l) :
    LamSp P w K mg base (p.mkG K) (kk + 3) c l.1.params.args.length (lamRun (cmpE (cfgL p.tx l.1.q (psOf l.1.params ++ l.1.fr) l.1.scope) l.1.body T)) := by
  have e : p.tx.lam c = l.1 := by
    show p.lamAt c = _
    unfold lamAt
    rw [hc]
  have hl := List.all_eq_true.mp (ba (ba hb).2).1 l (mem_idx hc)
  unfold lamB at hl
  obtain ⟨a1, hl⟩ := ba hl
  obtain ⟨a2, a3⟩ := ba hl
  intro A outer s H Q E ρ S xs vs us ks f
  exact lam_ok (tx := p.tx) (c := c) (n := l.1.params.args.length) (ps := psOf l.1.params) (m := cmpE (cfgL p.tx l.1.q (psOf l.1.params ++ l.1.fr) l.1.scope) l.1.body) pg rfl rfl (by rw [e]; exact NdefX.nscope_by a3) (by unfold psOf; rw [List.length_map])
    (fun cl pm cv ctv us hl => bind_plain (by rw [e]; exact a1) rfl (by rw [e]; rfl) (of_decide_eq_true a2) hl) (by rw [e]; exact cmpE_eq _ _)
theorem glob_of (hb : p.okB = true) (h : Ok p w K mg base) {T : Tb} {kk : Nat} (hp : 1 ≤ kk) (hf : ∀ j r, p.dfs[j]? = some r → FnC P w K mg base (p.mkG K) (kk - 1) (fAd K r.ad) r.ps (T.f j)) :
    ∀ x gi, (x, gi) ∈ p.globs → GIOkP P w K mg base (p.mkG K) T kk x gi := by
  intro x gi hm
  unfold globs at hm
  rcases
        List.mem_append.mp hm with hm | hm
  · obtain ⟨⟨r, j⟩, hr, e⟩ := List.mem_map.mp hm
    obtain ⟨hr, hn⟩ := List.mem_filter.mp hr
    have hj : p.dfs[j]? = some r := by simpa using List.mem_zipIdx_iff_getElem?.mp hr
    have hn : r.ad.2 = none := Option.isNone_iff_eq_none.mp hn
    cases e
    have f1 := hf j r hj
    have ef : (p.mkG K).fa j = fAd K r.ad := fa_def hj
    have z := (h.fn r (mem_idx hj)).1 hn
    unfold GIOkP
    dsimp only
    rw [ef]
    refine ⟨?_, FnC.mono f1 (by omega)⟩
    unfold fAd
    rw [hn]
    exact z
  · rcases
        List.mem_append.mp hm with hm | hm
    · obtain ⟨⟨t, j⟩, hr, e⟩ := List.mem_map.mp hm
      have hj : p.tbl[j]? = some t := by simpa using List.mem_zipIdx_iff_getElem?.mp hr
      cases e
      obtain ⟨t1, t2, t3⟩ := h.tbl t (mem_idx hj)
      have ef : (p.mkG K).fa (p.dfs.length + j) = ga K t.1 := fa_tbl hj
      unfold GIOkP
      dsimp only
      rw [ef]
      exact ⟨t1, t2, t3⟩
    · rcases
          List.mem_append.mp hm with hm | hm
      · obtain ⟨⟨t, j⟩, hr, e⟩ := List.mem_map.mp hm
        have hj : p.exs[j]? = some t := by simpa using List.mem_zipIdx_iff_getElem?.mp hr
        cases e
        have ef : (p.mkG K).ca j = ga K t.1 := ca_exc hj
        have z := h.exs t (mem_idx hj)
        unfold GIOkP
        dsimp only at z ⊢
        rw [ef]
        exact z
      · rcases
            List.mem_append.mp hm with hm | hm
        · obtain ⟨q, hq, e⟩ := List.mem_map.mp hm
          cases e
          obtain ⟨v, u, z1, z2, z3⟩ := h.cst q hq
          exact ⟨v, u, z1, z2, fun ρ H => z3 _ ρ H⟩
        · rcases
              List.mem_append.mp hm with hm | hm
          · obtain ⟨q, hq, e⟩ := List.mem_map.mp hm
            cases e
            obtain ⟨z1, z2⟩ := h.tup q hq
            exact ⟨.ref (ga K q.1), .ref (ga K q.1), z1, rfl, fun ρ H => rv_strs (G := p.mkG K) z2 ρ H⟩
          · rcases
                List.mem_append.mp hm with hm | hm
            · obtain ⟨y, hy, e⟩ := List.mem_map.mp hm
              cases e
              exact h.bts _ hy
            · obtain ⟨⟨c, j⟩, hr, e⟩ := List.mem_map.mp hm
              have hj : p.cls[j]? = some c := by simpa using List.mem_zipIdx_iff_getElem?.mp hr
              cases e
              have co := h.cls c (mem_idx hj)
              obtain ⟨r, r1, r2, r3⟩ := co.ini
              have f1 := hf c.init r r1
              have ef : (p.mkG K).fa c.init = fAd K r.ad := fa_def r1
              have ec : (p.mkG K).ca (p.exs.length + j) = ga K c.x := ca_cls hj
              have ep : p.psD c.init = r.ps := by unfold psD; rw [r1]
              unfold GIOkP
              dsimp only
              rw [ef, ec, ep, r2]
              rw [r2] at f1
              cases q : r.ps with
              | nil => exact absurd q r3
              | cons p0 t =>
                rw [q] at f1
                exact ⟨co.mg, co.mkr, p0, f1⟩
theorem look_mem {α : Type} : ∀ {l : List (Str × α)} {x : Str} {a : α}, look l x = some a → (x, a) ∈ l
  | (y, b) :: r, x, a, h => by
    unfold look at h
    split at h
    · rename_i e
      cases h
      rw [of_decide_eq_true e]
      exact List.mem_cons_self
    · exact List.mem_cons_of_mem _ (look_mem h)
theorem fld_of (h : Ok p w K mg base) : FldOk (p.mkG K) p.fldT := fun c k z => by
  unfold fldT at z
  cases q : p.clsAt c with
  | none => rw [q] at z; cases z
  | some r =>
    rw [q] at z
    obtain ⟨f, hf, e⟩ := List.any_eq_true.mp z
    have e := Nat.eq_of_beq_eq_true e
    subst e
    obtain ⟨m, ec⟩ := ca_at (K := K) q
    rw [ec]
    exact ⟨(h.cls r m).cls, (h.cls r m).fs f hf⟩
theorem pg_ok (hb : p.okB = true) (h : Ok p w K mg base) (hd : DrawOk P w K mg base p) : ∀ k, PgOk P w K mg base (p.mkG K) p.tx (p.tab k) (3 * k + 1)
  | 0 => ⟨rfl, fun x gi z => glob_of hb h (Nat.le_refl _) (fun j r hj => by
      obtain ⟨_, fd, F⟩ := h.fn r (mem_idx hj)
      obtain ⟨c1, c2, c3, _, _⟩ := defB_ok (List.all_eq_true.mp (ba hb).1 r (mem_idx hj))
      exact ⟨⟨fd, fn_bad rfl, plain_of c1 c2 c3 F⟩, F.kp⟩) x gi (look_mem z), fun _ _ _ z => (by cases z), fun _ _ _ z => (by cases z), h.kit, h.exm, nmL_inj (ba (ba (ba hb).2).2).2, fld_of h, fun _ _ _ _ z => (by cases z), Nat.le_refl _⟩
  | k + 1 => by
    have pg := pg_ok hb h hd k
    have hf : ∀ j r, p.dfs[j]? = some r → FnC P w K mg base (p.mkG K) (3 * (k + 1) + 1 - 1) (fAd K r.ad) r.ps ((p.tab (k + 1)).f j) := fun j r hj => by
      have e : (p.tab (k + 1)).f j = p.fnOf r (p.tab k) := by
        show (p.nextT (p.tab k)).f j = _
        unfold nextT
        dsimp only
        rw [hj]
      rw [e]
      exact fn_step hb h hd pg (mem_idx hj)
    refine ⟨rfl, fun x gi z => glob_of hb h (by omega) hf x gi (look_mem z), fun j n f z => ?_, fun c n f z => ?_, h.kit, h.exm, nmL_inj (ba (ba (ba hb).2).2).2, fld_of h, fun c m ps f z => ?_, by omega⟩
    · have z : (p.nextT (p.tab k)).d j = some (n, f) := z
      unfold nextT at z
      dsimp only at z
      cases q : p.dfs[j]? with
      | none => rw [q] at z; cases z
      | some r =>
        rw [q] at z
        cases z
        have fc := FnC.mono (fn_step hb h hd pg (mem_idx q)) (k' := 3 * (k + 1) + 1) (by omega)
        obtain ⟨fd, f1, f2⟩ := fc.ok
        have ef : (p.mkG K).fa j = fAd K r.ad := fa_def q
        rw [ef]
        exact ⟨fd, r.ps, f1, fc.kp, f2.binds⟩
    · have z : (p.nextT (p.tab k)).l c = some (n, f) := z
      unfold nextT at z
      dsimp only at z
      cases q : p.lams[c]? with
      | none => rw [q] at z; cases z
      | some l =>
        rw [q] at z
        cases z
        exact @lam_step p P w K mg base hb (p.tab k) (3 * k + 1) pg c l q
    · have z : (p.nextT (p.tab k)).m c m = some (ps, f) := z
      unfold nextT at z
      dsimp only at z
      cases q : p.mthI c m with
      | none => rw [q] at z; cases z
      | some d =>
        rw [q] at z
        dsimp only at z
        cases q2 : p.dfs[d]? with
        | none => rw [q2] at z; cases z
        | some r =>
          rw [q2] at z
          cases z
          unfold mthI at q
          cases q3 : p.clsAt c with
          | none => rw [q3] at q; cases q
          | some cr =>
            rw [q3] at q
            dsimp only at q
            cases q4 : cr.ms.find? (fun m' => Nat.beq m'.1 m) with
            | none => rw [q4] at q; cases q
            | some m' =>
              rw [q4] at q
              cases q
              obtain ⟨mc, ec⟩ := ca_at (K := K) q3
              have co := h.cls cr mc
              have em := List.find?_some q4
              have em := Nat.eq_of_beq_eq_true em
              subst em
              obtain ⟨m1, r', r1, r2, r3⟩ := co.ms m' (List.mem_of_find?_eq_some q4)
              rw [q2] at r1
              cases r1
              have fc := FnC.mono (fn_step hb h hd pg (mem_idx q2)) (k' := 3 * (k + 1) + 1) (by omega)
              rw [ec]
              refine ⟨co.cls, ma K (ga K cr.x) (nmL p.flds m'.1), ?_⟩
              rw [r2] at fc
              cases q5 : r.ps with
              | nil => exact absurd q5 r3
              | cons p0 t =>
                rw [q5] at fc
                exact ⟨p0, m1, fc⟩
end
/-! ### the hook -/
def fa : List Fa := ((p.dfs.filter fun r => r.ad.2.isNone).map fun r => .glo r.ad.1) ++ ((p.tbl.map fun t => .glo t.1) ++ ((p.exs.map fun e => .glo e.1) ++ ((p.tup.map fun q => .glo q.1) ++ ((p.bts.map .free) ++ ((p.cst.map fun q => match q.2 with
  | .int i => .int q.1 i
  | .str s => .str q.1 (toS s)
  | _ => .glo q.1) ++ (((p.exs.filter fun e => e.2.2.isNone).map fun e => .exc e.1) ++ p.cls.map fun c => .glo c.x))))))
def iniOf (e : Str × Nat × Option Nat) : Stmt := (clsB (p.at_ e.2.1)).getD 0 noStmt
def fnl : List DefD := (p.dfs.map fun r => ⟨r.ad, r.nm, r.x, defArgs (p.st r), defBody (p.st r), defScope (p.st r), [], []⟩) ++
  (p.exs.filter fun e => e.2.2.isSome).map fun e => ⟨(e.1, some "__init__"), "__init__", e.1 ++ ".__init__", defArgs (p.iniOf e), defBody (p.iniOf e), defScope (p.iniOf e), [], []⟩
def tsl : List He.Tab := p.tbl.map fun t => (fun K => ga K t.1, t.2.map fun kv => toS kv.1)
def tfl : List Defn := (p.dfs.filter p.mkL).map fun r => r.ad
/-- what the head shows of a class -/
def clsX (K : PySem.W.Frag) (c : ClsR) : Bool := (Fa.cls c.x).ok K && ((Fa.mkr c.x).ok K && ((match p.dfs[c.init]? with
  | some r => decide (fAd K r.ad = ma K (ga K c.x) "__init__") && !r.ps.isEmpty
  | none => false) && ((c.fs.all fun f => (Fa.noat c.x (nmL p.flds f)).ok K) && c.ms.all fun m => (Fa.meth c.x (nmL p.flds m.1)).ok K && (match p.dfs[m.2]? with
  | some r => decide (fAd K r.ad = ma K (ga K c.x) (nmL p.flds m.1)) && !r.ps.isEmpty
  | none => false))))
def ex (K : PySem.W.Frag) : Bool := kitB K && (exmB K (p.caOf K) p.exs.length && ((p.exs.all fun e => match e.2.2 with
  | some f => oexB K (ga K e.1) (ma K (ga K e.1) "__init__") (nmL p.flds f)
  | none => true) && ((p.tup.all fun q => tupB K q.1 (q.2.map fun s => .str (toS s))) && ((p.tbl.all fun t => tblB K (ga K t.1) t.2) &&
  ((p.dfs.all fun r => p.dfs.all fun q => !p.mkL r || (!p.mkL q || (!decide ((He.cT K r.ad).2 = (He.cT K q.ad).2) || decide (r.x = q.x)))) && p.cls.all (p.clsX K))))))
def cstB : Str × AV → Bool
  | (_, .int _) => true
  | (_, .str _) => true
  | _ => false
theorem ok_of {w : World} {h : Heap} {K : PySem.W.Frag} {mg : Str → Option Value} (hb : p.okB = true) (hc : p.cst.all cstB = true) (KX : K.In h) (G : h.Ns mainGlobals mg) (c : SaysX p.fa p.fnl p.tsl p.tfl p.ex w h K) (base : Heap) (TB : ∀ q ∈ p.tfl.map (He.cT K), TabB base mg q.1 q.2) : Ok p w K mg base := by
  have d := c.t.d
  obtain ⟨x1, y⟩ := ba (show p.ex K = true from c.more)
  obtain ⟨x2, y⟩ := ba y
  obtain ⟨x3, y⟩ := ba y
  obtain ⟨x4, y⟩ := ba y
  obtain ⟨x5, y⟩ := ba y
  obtain ⟨x6, x7⟩ := ba y
  have glo : ∀ x, Fa.glo x ∈ p.fa → mg x = some (.ref (ga K x)) := fun x hx => glo_ok KX G (d.facts hx)
  have M1 : ∀ {f : Fa}, f ∈ ((p.dfs.filter fun r => r.ad.2.isNone).map fun r => Fa.glo r.ad.1) → f ∈ p.fa := fun z => List.mem_append_left _ z
  have M2 : ∀ {f : Fa}, f ∈ (p.tbl.map fun t => Fa.glo t.1) → f ∈ p.fa := fun z => List.mem_append_right _ (List.mem_append_left _ z)
  have M3 : ∀ {f : Fa}, f ∈ (p.exs.map fun e => Fa.glo e.1) → f ∈ p.fa := fun z => List.mem_append_right _ (List.mem_append_right _ (List.mem_append_left _ z))
  have M4 : ∀ {f : Fa}, f ∈ (p.tup.map fun q => Fa.glo q.1) → f ∈ p.fa := fun z => List.mem_append_right _ (List.mem_append_right _ (List.mem_append_right _ (List.mem_append_left _ z)))
  have M5 : ∀ {f : Fa}, f ∈ p.bts.map Fa.free → f ∈ p.fa := fun z => List.mem_append_right _ (List.mem_append_right _ (List.mem_append_right _ (List.mem_append_right _ (List.mem_append_left _ z))))
  have M6 : ∀ {f : Fa}, f ∈ _ → f ∈ p.fa := fun z => List.mem_append_right _ (List.mem_append_right _ (List.mem_append_right _ (List.mem_append_right _ (List.mem_append_right _ (List.mem_append_left _ z)))))
  have M7 : ∀ {f : Fa}, f ∈ ((p.exs.filter fun e => e.2.2.isNone).map fun e => Fa.exc e.1) → f ∈ p.fa := fun z => List.mem_append_right _ (List.mem_append_right _ (List.mem_append_right _ (List.mem_append_right _ (List.mem_append_right _ (List.mem_append_right _ (List.mem_append_left _ z))))))
  have M8 : ∀ {f : Fa}, f ∈ (p.cls.map fun c => Fa.glo c.x) → f ∈ p.fa := fun z => List.mem_append_right _ (List.mem_append_right _ (List.mem_append_right _ (List.mem_append_right _ (List.mem_append_right _ (List.mem_append_right _ (List.mem_append_right _ z))))))
  refine ⟨fun r hr => ⟨fun hn => glo r.ad.1 (M1 (List.mem_map.mpr ⟨r, List.mem_filter.mpr ⟨hr, by rw [hn]; rfl⟩, rfl⟩)), ?_⟩, fun t ht => ⟨glo t.1 (M2 (List.mem_map.mpr ⟨t, ht, rfl⟩)), ?_, tblB_ok (List.all_eq_true.mp x5 t ht)⟩, fun e he => ⟨glo e.1 (M3 (List.mem_map.mpr ⟨e, he, rfl⟩)), ?_⟩, fun q hq => ?_,
    fun q hq => ⟨glo q.1 (M4 (List.mem_map.mpr ⟨q, hq, rfl⟩)), fun H => ?_⟩, fun x hx => free_ok KX G (d.facts (M5 (List.mem_map.mpr ⟨x, hx, rfl⟩))), kitB_ok x1, exmB_ok (G := p.mkG K) x2, fun r hr z => TB _ (List.mem_map.mpr ⟨r.ad, List.mem_map.mpr ⟨r, List.mem_filter.mpr ⟨hr, z⟩, rfl⟩, rfl⟩),
    fun r hr q hq z1 z2 e => ?_, fun c hc => ?_⟩
  · exact d.defs (d := ⟨r.ad, r.nm, r.x, defArgs (p.st r), defBody (p.st r), defScope (p.st r), [], []⟩) (List.mem_append_left _ (List.mem_map.mpr ⟨r, hr, rfl⟩))
  · obtain ⟨i, hi⟩ := List.getElem?_of_mem ht
    exact c.t.tab i (t := (fun K => ga K t.1, t.2.map fun kv => toS kv.1)) (by unfold tsl; rw [List.getElem?_map, hi]; rfl)
  · have he1 := List.all_eq_true.mp (ba (ba (ba hb).2).2).1 e he
    have he3 := List.all_eq_true.mp x3 e he
    obtain ⟨ex, ei, ef⟩ := e
    cases ef with
    | some f =>
      obtain ⟨fd, F⟩ := d.defs (d := ⟨(ex, some "__init__"), "__init__", ex ++ ".__init__", defArgs (p.iniOf (ex, ei, some f)), defBody (p.iniOf (ex, ei, some f)), defScope (p.iniOf (ex, ei, some f)), [], []⟩) (List.mem_append_right _ (List.mem_map.mpr ⟨(ex, ei, some f), List.mem_filter.mpr ⟨he, rfl⟩, rfl⟩))
      obtain ⟨b1, he1⟩ := ba he1
      obtain ⟨b2, he1⟩ := ba he1
      obtain ⟨b3, b4⟩ := ba he1
      simp only [Bool.not_eq_true'] at b1 b2 b3
      exact ⟨_, otxt_of b1 b2 b3 (glo ex (M3 (List.mem_map.mpr ⟨_, he, rfl⟩))) he3 b4 F⟩
    | none => exact exc_ok (d.facts (M7 (List.mem_map.mpr ⟨(ex, ei, none), List.mem_filter.mpr ⟨he, rfl⟩, rfl⟩)))
  · have hq2 := List.all_eq_true.mp hc q hq
    obtain ⟨x, a⟩ := q
    have hf := fun f (z : f = _) => d.facts (M6 (f := f) (List.mem_map.mpr ⟨(x, a), hq, z.symm⟩))
    cases a with
    | int i =>
      obtain ⟨t, e⟩ := int_ok KX G (hf _ rfl)
      exact ⟨.int i, _, e, ⟨t, rfl⟩, fun G ρ H => rv_int⟩
    | str s =>
      obtain ⟨t, e⟩ := str_ok KX G (hf _ rfl)
      exact ⟨.str (toS s), _, e, ⟨t, rfl⟩, fun G ρ H => rv_str⟩
    | _ => cases hq2
  · have z := tupB_ok (List.all_eq_true.mp x4 q hq) H
    rw [List.map_map] at z
    exact z
  · have z := List.all_eq_true.mp (List.all_eq_true.mp x6 r hr) q hq
    rw [z1, z2, decide_eq_true e] at z
    exact of_decide_eq_true z
  · have z := List.all_eq_true.mp x7 c hc
    obtain ⟨a1, z⟩ := ba z
    obtain ⟨a2, z⟩ := ba z
    obtain ⟨a3, z⟩ := ba z
    obtain ⟨a4, a5⟩ := ba z
    refine ⟨glo c.x (M8 (List.mem_map.mpr ⟨c, hc, rfl⟩)), cls_ok a1, mkr_ok a2, ?_, fun f hf => noat_ok (List.all_eq_true.mp a4 f hf), fun m hm => ?_⟩
    · split at a3
      · rename_i r q
        obtain ⟨b1, b2⟩ := ba a3
        exact ⟨r, q, of_decide_eq_true b1, fun y => by rw [y] at b2; cases b2⟩
      · cases a3
    · obtain ⟨b0, z⟩ := ba (List.all_eq_true.mp a5 m hm)
      refine ⟨meth_ok b0, ?_⟩
      split at z
      · rename_i r q
        obtain ⟨b1, b2⟩ := ba z
        exact ⟨r, q, of_decide_eq_true b1, fun y => by rw [y] at b2; cases b2⟩
      · cases z
end Pd
end Sh

end

noncomputable section
namespace Sh
open PySem PySem.Spec PyProof.Rows L2 LamX He
namespace Pd
section
variable {p : Pd} {P : Program} {w : World} {K : PySem.W.Frag} {mg : Str → Option Value} {base : Heap}
/-- the draw is one def of the text -/
theorem draw_of {r0 : DefR} (h : (p.dfs.all fun r => !Nat.beq r.kind 2 || decide (r = r0)) = true) (hs : ∀ fd, FunD K r0.nm r0.x (defArgs (p.st r0)) (defBody (p.st r0)) (defScope (p.st r0)) [] [] (fAd K r0.ad) fd → ∀ k, FnOk P w K mg base (L2.CX P w) (k + 1) (fAd K r0.ad) fd r0.ps spDraw) : DrawOk P w K mg base p := fun r hr hk fd F k => by
  have z := List.all_eq_true.mp h r hr
  rw [hk] at z
  have e : r = r0 := of_decide_eq_true z
  subst e
  exact hs fd F k
/-- the law's own tail keeps to its plain form -/
theorem tail_ok {k : Nat} {x : Str} {N : List Str} {sc : Scope} {f : Addr} {cdv : Value} {A : Around} {outer : List Env} {s : Shared} {H : Hp} {E : XK} {mk : Bool} {b : List Stmt} {T : Tb} {ps : List Str} (pg : PgOk P w K mg base (p.mkG K) p.tx T k) (Sc : FnScope N ps sc) (lk : mk = true → LkOk base mg (p.mkG K) x cdv)
    (hr : Room k (A.deeper (envOfC x sc s.heap.objs.size f cdv))) : PSs (cxOf (L2.CX P w) P w K mg base N x sc f cdv A outer s H E) b (tS (p.mkG K) (fm (cxOf (L2.CX P w) P w K mg base N x sc f cdv A outer s H E)) (WF E) (cmpB (cfgD p.tx x N sc mk) b T)) :=
  have fr := fr_def (tx := p.tx) (N := N) (f := f) (cdv := cdv) (A := A) (outer := outer) (s := s) (H := H) (E := E) pg rfl rfl Sc lk
  cSs_ok (fun z => (lv_ok 40).S z fr (gl_def (tx := p.tx) pg hr)) (cmpB_eq _ _)
theorem tabs_of {H : Hp} (hT : ∀ q ∈ p.tfl.map (He.cT K), H q.2 = some (.tbl #[])) : Tabs (p.mkG K).T H := fun q hq => by
  obtain ⟨r, hr, rfl⟩ := List.mem_map.mp hq
  exact TabS.nil (hT (He.cT K r.ad) (List.mem_map.mpr ⟨r.ad, List.mem_map.mpr ⟨r, hr, rfl⟩, rfl⟩))
theorem law_cs {w : World} {h : Heap} (KX : K.In h) (c : SaysX p.fa p.fnl p.tsl p.tfl p.ex w h K) : (∀ q ∈ p.tfl.map (He.cT K), h.get? q.2 = some { cls := .none, data := .fields #[] }) ∧ (∀ q ∈ p.tfl.map (He.cT K), K.lookup q.2 = none) ∧ ∀ q ∈ p.tfl.map (He.cT K), PySem.W.CodeHd h q.1 q.2 := by
  refine ⟨fun q hq => ?_, fun q hq => ?_, fun q hq => ?_⟩
  · obtain ⟨t, ht, rfl⟩ := List.mem_map.mp hq
    exact c.empty t ht
  · obtain ⟨t, ht, rfl⟩ := List.mem_map.mp hq
    exact c.out t ht
  · obtain ⟨t, ht, rfl⟩ := List.mem_map.mp hq
    exact PySem.W.codeHd_of_K KX (c.hd t ht)
theorem fd_eq {x q : Str} {pa : Arguments} {b : List Stmt} {sc : Scope} {dvs : List V} {kws : List (Str × V)} {f : Addr} {fd fd' : FuncData} (F : FunD K x q pa b sc dvs kws f fd) (F' : FunD K x q pa b sc dvs kws f fd') : fd = fd' := by
  obtain ⟨oc, od, dV, kV, doc, pm, an, cdv, ct, osl, _, lk, _⟩ := F.ex
  obtain ⟨oc2, od2, dV2, kV2, doc2, pm2, an2, cdv2, ct2, osl2, _, lk2, _⟩ := F'.ex
  rw [lk] at lk2
  cases lk2
  rfl
end
end Pd
end Sh

end

noncomputable section
namespace Sh
open PySem PySem.Spec PyProof.Rows L2 LamX He
/-! ### a row of statements, cut: behind a statement the reading goes on from a told state that says less -/
def eqLv {α : Type} (f : α → α → Bool) : List α → List α → Bool
  | [], [] => true
  | a :: r, b :: q => match f a b with
    | true => eqLv f r q
    | false => false
  | _, _ => false
theorem eqLv_ok {α : Type} {f : α → α → Bool} (hf : ∀ a b, f a b = true → a = b) : ∀ {l m : List α}, eqLv f l m = true → l = m
  | [], [], _ => rfl
  | a :: r, b :: q, h => by
    unfold eqLv at h
    split at h
    · rename_i z
      rw [hf a b z, eqLv_ok hf h]
    · cases h
  | [], _ :: _, h => by cases h
  | _ :: _, [], h => by cases h
def eqAV : Nat → AV → AV → Bool
  | 0, _, _ => false
  | n + 1, a, b => match a, b with
    | .non, .non => true
    | .bl x, .bl y => x == y
    | .int i, .int j => decide (i = j)
    | .str s, .str t => eqLv Nat.beq s t
    | .tup xs, .tup ys => eqLv (eqAV n) xs ys
    | .ref i, .ref j => Nat.beq i j
    | .fn i, .fn j => Nat.beq i j
    | _, _ => false
theorem eqAV_ok : ∀ (n : Nat) (a b : AV), eqAV n a b = true → a = b
  | 0, _, _, h => by cases h
  | n + 1, a, b, h => by
    have ih := eqAV_ok n
    unfold eqAV at h
    split at h
    · rfl
    · rw [beq_iff_eq] at h; rw [h]
    · rw [of_decide_eq_true h]
    · rw [eqLv_ok (fun _ _ => Nat.eq_of_beq_eq_true) h]
    · rw [eqLv_ok ih h]
    · rw [Nat.eq_of_beq_eq_true h]
    · rw [Nat.eq_of_beq_eq_true h]
    · cases h
def eqPr (n : Nat) (a b : AV × AV) : Bool := match eqAV n a.1 b.1 with
  | true => eqAV n a.2 b.2
  | false => false
theorem eqPr_ok (n : Nat) (a b : AV × AV) (h : eqPr n a b = true) : a = b := by
  obtain ⟨a1, a2⟩ := a
  obtain ⟨b1, b2⟩ := b
  unfold eqPr at h
  dsimp only at h
  split at h
  · rename_i z
    rw [eqAV_ok n _ _ z, eqAV_ok n _ _ h]
  · cases h
def eqAO (a b : AO) : Bool := match a, b with
  | .lst xs, .lst ys => eqLv (eqAV 30) xs ys
  | .dct xs, .dct ys => eqLv (eqPr 30) xs ys
  | .strm c, .strm d => Nat.beq c d
  | _, _ => false
theorem eqAO_ok {a b : AO} (h : eqAO a b = true) : a = b := by
  unfold eqAO at h
  split at h
  · rw [eqLv_ok (eqAV_ok 30) h]
  · rw [eqLv_ok (eqPr_ok 30) h]
  · rw [Nat.eq_of_beq_eq_true h]
  · cases h
def mkS (n : Nat) : List (Nat × AO) → Sto
  | [] => ⟨n, .e⟩
  | p :: r => (mkS n r).put p.1 p.2
theorem mkS_n {n : Nat} : ∀ {es : List (Nat × AO)}, (mkS n es).n = n
  | [] => rfl
  | p :: r => mkS_n (es := r)
theorem mkS_get {n : Nat} : ∀ {es : List (Nat × AO)}, (∀ p ∈ es, p.1 < 2 ^ depth) → ∀ {i : Nat} {o : AO}, i < 2 ^ depth → (mkS n es).get i = some o → (i, o) ∈ es
  | [], _, i, o, _, h => by
    unfold mkS Sto.get at h
    rw [Tr.get_e] at h
    cases h
  | p :: r, hp, i, o, hi, h => by
    unfold mkS at h
    rw [Sto.get_put (hp p List.mem_cons_self) hi] at h
    by_cases e : i = p.1
    · rw [if_pos e] at h
      cases h
      rw [e]
      exact List.mem_cons_self
    · rw [if_neg e] at h
      exact List.mem_cons_of_mem _ (mkS_get (fun q hq => hp q (List.mem_cons_of_mem _ hq)) hi h)
/-- the told state says no more than the real one -/
def locB : LV → LV → Bool
  | .u, _ => true
  | .v a, .v b => eqAV 30 a b
  | .v a, .c _ b => eqAV 30 a b
  | _, _ => false
def locsB : Lo → Lo → Bool
  | [], [] => true
  | a :: r, b :: q => match locB a b with
    | true => locsB r q
    | false => false
  | _, _ => false
def objB (S : Sto) (n : Nat) : List (Nat × AO) → Bool
  | [] => true
  | p :: r => match Nat.blt p.1 n, S.get p.1 with
    | true, some o => match eqAO p.2 o with
      | true => objB S n r
      | false => false
    | _, _ => false
def cutB (l : Lo) (n : Nat) (es : List (Nat × AO)) (o : Out (Fl × Lo)) : Bool := match o with
  | .ok r S => match r.1 with
    | .nx => match Nat.beq S.n n, locsB l r.2 with
      | true, true => objB S n es
      | _, _ => false
    | _ => false
  | _ => false
theorem locsB_ok : ∀ {l q : Lo}, locsB l q = true → l.length = q.length ∧ ∀ i, nth l i = .u ∨ ∃ a, nth l i = .v a ∧ (nth q i = .v a ∨ ∃ k, nth q i = .c k a)
  | [], [], _ => ⟨rfl, fun i => .inl (by rw [nth_eq]; rfl)⟩
  | a :: r, b :: q, h => by
    unfold locsB at h
    split at h
    · rename_i z
      obtain ⟨h1, h2⟩ := locsB_ok h
      refine ⟨by rw [List.length_cons, List.length_cons, h1], fun i => ?_⟩
      cases i with
      | zero =>
        unfold locB at z
        split at z
        · exact .inl (by rw [nth_eq]; rfl)
        · rename_i x y
          have e := eqAV_ok 30 _ _ z
          subst e
          exact .inr ⟨x, by rw [nth_eq]; rfl, .inl (by rw [nth_eq]; rfl)⟩
        · rename_i x k y
          have e := eqAV_ok 30 _ _ z
          subst e
          exact .inr ⟨x, by rw [nth_eq]; rfl, .inr ⟨k, by rw [nth_eq]; rfl⟩⟩
        · cases z
      | succ i =>
        have k := h2 i
        rw [nth_eq, nth_eq] at k
        rw [nth_eq, nth_eq]
        exact k
    · cases h
  | [], _ :: _, h => by cases h
  | _ :: _, [], h => by cases h
theorem objB_ok {S : Sto} {n : Nat} : ∀ {es : List (Nat × AO)}, objB S n es = true → ∀ p ∈ es, p.1 < n ∧ S.get p.1 = some p.2
  | [], _, p, hp => by cases hp
  | q :: r, h, p, hp => by
    unfold objB at h
    split at h
    · rename_i o z1 z2
      split at h
      · rename_i z3
        rcases
              List.mem_cons.mp hp with e | e
        · subst e
          exact ⟨Nat.le_of_ble_eq_true z1, by rw [z2, eqAO_ok z3]⟩
        · exact objB_ok h p e
      · cases h
    · cases h
section
variable {X : Cx} {G : Gd} {W : WX} {F : Fm} {ρ : List Addr} {S S' : Sto} {ls l : Lo} {σ : L2.St} {H : Hp} {st : Stmt} {rest : List Stmt}
theorem Stt.cutT (T : Stt G F ρ S ls σ H) (hn : S'.n = S.n) (hs : ∀ i o, i < 2 ^ depth → S'.get i = some o → S.get i = some o) (hl : l.length = ls.length) (hls : ∀ i, nth l i = .u ∨ ∃ a, nth l i = .v a ∧ (nth ls i = .v a ∨ ∃ k, nth ls i = .c k a)) : Stt G F ρ S' l σ H := by
  have R := T.rel
  refine ⟨⟨by rw [hn]; exact R.len, by rw [hn]; exact R.lt, fun i j a o o' hi hj gi gj => R.nd i j a o o' hi hj (hs i o (R.ilt hi) gi) (hs j o' (R.ilt hj) gj), fun i a o hi gi => R.obj i a o hi (hs i o (R.ilt hi) gi), R.tabs, fun i j a b c c' hi hj gi gj => R.one i j a b c c' hi hj (hs i _ (R.ilt hi) gi) (hs j _ (R.ilt hj) gj)⟩, T.len.trans hl.symm, fun i => ?_, fun k a v hk g => T.known k a v hk (hs k _ (R.ilt hk) g), fun i j k a b e => ?_⟩
  · rcases hls i with e | ⟨a, e1, e2 | ⟨k, e2⟩⟩
    · rw [e]; trivial
    · have z := T.loc i
      rw [e2] at z
      rw [e1]
      exact z
    · have z := T.loc i
      rw [e2] at z
      rw [e1]
      exact z.1
  · rcases hls i with z | ⟨c, z, _⟩
    · rw [z] at e; cases e
    · rw [z] at e; cases e
def mCut (m : SM) (l : Lo) (n : Nat) (es : List (Nat × AO)) (k : SM) : SM := fun ls S => match cutB l n es (m ls S) with
  | true => k l (mkS n es)
  | false => .bad
theorem cutB_sat {l : Lo} {n : Nat} {es : List (Nat × AO)} {o : Out (Fl × Lo)} (h : cutB l n es o = true) : o.Sat (fun r S => r.1 = .nx ∧ S.n = n ∧ locsB l r.2 = true ∧ objB S n es = true) (fun _ _ _ => False) := by
  unfold cutB at h
  split at h
  · rename_i r S
    split at h
    · rename_i q
      split at h
      · rename_i q1 q2
        exact ⟨q, Nat.eq_of_beq_eq_true q1, q2, h⟩
      · cases h
    · cases h
  · cases h
theorem ms_cut {m k : SM} {l : Lo} {n : Nat} {es : List (Nat × AO)} (h1 : PS X st (tS G F W m)) (h2 : PSs X rest (tS G F W k)) : PSs X (st :: rest) (tS G F W (mCut m l n es k)) := by
  refine PSs_imp (pss_cons h1 h2) fun D σ H ⟨ρ, S, ls, T, h⟩ => ?_
  unfold mCut at h
  cases q : cutB l n es (m ls S) with
  | false => rw [q] at h; exact h.elim
  | true =>
    rw [q] at h
    refine ⟨ρ, S, ls, T, Out.sat_mono (fun r S1 ⟨e1, e2, e3, e4⟩ ρ1 H1 σ1 x1 T1 => ?_) (fun _ _ _ z => z.elim) (cutB_sat q)⟩
    obtain ⟨f, lr⟩ := r
    dsimp only at e1
    subst e1
    obtain ⟨g1, g2⟩ := locsB_ok e3
    have ob := objB_ok e4
    have hb : ∀ p ∈ es, p.1 < 2 ^ depth := fun p hp => small40 (Nat.le_of_lt (Nat.lt_of_lt_of_le (ob p hp).1 (by rw [← e2]; exact T1.rel.lt)))
    have T2 : Stt G F ρ1 (mkS n es) l σ1 H1 := T1.cutT (by rw [mkS_n, e2]) (fun i o hi g => (ob _ (mkS_get hb hi g)).2) g1 g2
    exact ⟨ρ1, mkS n es, l, T2, Out.sat_mono (fun _ _ z => z.ext x1) (fun _ _ _ z => z.ext x1) h⟩
abbrev Cut := Lo × Nat × List (Nat × AO)
def chain (cfg : CF) (T : Tb) : List Cut → List Stmt → SM
  | [], b => cmpB cfg b T
  | c :: cs, st :: rest => mCut (cmpB cfg [st] T) c.1 c.2.1 c.2.2 (chain cfg T cs rest)
  | _ :: _, [] => mBadS
def stepB (cfg : CF) (T : Tb) (cs : List Cut) (b : List Stmt) (ls : Lo) (S : Sto) : Bool := match cs, b with
  | c :: _, st :: _ => cutB c.1 c.2.1 c.2.2 (cmpB cfg [st] T ls S)
  | _, _ => false
def hdL : List Cut → Lo
  | c :: _ => c.1
  | [] => []
def hdS : List Cut → Sto
  | c :: _ => mkS c.2.1 c.2.2
  | [] => default
theorem chain_step {cfg : CF} {T : Tb} {cs : List Cut} {b : List Stmt} {ls : Lo} {S : Sto} (h : stepB cfg T cs b ls S = true) : chain cfg T cs b ls S = chain cfg T cs.tail b.tail (hdL cs) (hdS cs) := by
  unfold stepB at h
  split at h
  · rename_i c cs st rest
    show (match cutB c.1 c.2.1 c.2.2 (cmpB cfg [st] T ls S) with
      | true => chain cfg T cs rest c.1 (mkS c.2.1 c.2.2)
      | false => .bad) = chain cfg T cs rest c.1 (mkS c.2.1 c.2.2)
    rw [h]
  · cases h
def fin (m : Out (Fl × Lo)) : Out AV := m.bind fun r S => match r.1 with
  | .rt v => .ok v S
  | _ => .bad
theorem lawOut_fin {N : Nat} {m : SM} : lawOut N m = fin (m (lawLo N) S1) := rfl
end
namespace Pd
variable {P : Program} {w : World} {K : PySem.W.Frag} {mg : Str → Option Value} {base : Heap} {p : Pd}
theorem chain_ok {k : Nat} {x : Str} {N : List Str} {sc : Scope} {f : Addr} {cdv : Value} {A : Around} {outer : List Env} {s : Shared} {H : Hp} {E : XK} {mk : Bool} {T : Tb} {ps : List Str} (pg : PgOk P w K mg base (p.mkG K) p.tx T k) (Sc : FnScope N ps sc) (lk : mk = true → LkOk base mg (p.mkG K) x cdv)
    (hr : Room k (A.deeper (envOfC x sc s.heap.objs.size f cdv))) : ∀ {cs : List Cut} {b : List Stmt}, PSs (cxOf (L2.CX P w) P w K mg base N x sc f cdv A outer s H E) b (tS (p.mkG K) (fm (cxOf (L2.CX P w) P w K mg base N x sc f cdv A outer s H E)) (WF E) (chain (cfgD p.tx x N sc mk) T cs b))
  | [], b => tail_ok pg Sc lk hr
  | c :: cs, st :: rest => by
    have fr := fr_def (tx := p.tx) (N := N) (f := f) (cdv := cdv) (A := A) (outer := outer) (s := s) (H := H) (E := E) pg rfl rfl Sc lk
    have h1 : (lv 40).S (cfgD p.tx x N sc mk) st = some (cmpB (cfgD p.tx x N sc mk) [st]) := cmpB_eq _ [st]
    exact ms_cut ((lv_ok 40).S h1 fr (gl_def (tx := p.tx) pg hr)) (chain_ok pg Sc lk hr)
  | _ :: _, [] => PSs_imp pss_nil fun D σ H ⟨ρ, S, ls, T, h⟩ => h.elim
end Pd
end Sh

end

noncomputable section
namespace Sh
open PySem PySem.Spec PyProof.Rows L2 LamX He
/-! ### a loop, cut ahead of told turns -/
abbrev LCut := Nat × Cut
def cutAt (cs : List LCut) (k : Nat) (ls : Lo) (S : Sto) : Option (List LCut × Lo × Sto) := match cs with
  | [] => some ([], ls, S)
  | c :: r => match Nat.beq c.1 k with
    | true => match cutB c.2.1 c.2.2.1 c.2.2.2 (.ok (.nx, ls) S) with
      | true => some (r, c.2.1, mkS c.2.2.1 c.2.2.2)
      | false => none
    | false => some (c :: r, ls, S)
def loopY (g : GM) (body : SM) (I : IT) : Nat → List LCut → Nat → Lo → Sto → Out (Fl × Lo)
  | 0, _, _, _, _ => .bad
  | f + 1, cs, k, ls, S => match cutAt cs k ls S with
    | none => .bad
    | some p => match nxt I k p.2.2 with
      | none => .bad
      | some none => .ok (.nx, p.2.1) p.2.2
      | some (some v) => match g v p.2.1 p.2.2 with
        | .ok l1 S1 => (body l1 S1).bind fun r S2 => match r.1 with
          | .nx => loopY g body I f p.1 (k + 1) r.2 S2
          | .ct => loopY g body I f p.1 (k + 1) r.2 S2
          | .br => .ok (.nx, r.2) S2
          | .rt v => .ok (.rt v, r.2) S2
        | _ => .bad
/-- n turns -/
def segF (g : GM) (body : SM) (I : IT) : Nat → Nat → Lo → Sto → Out (Fl × Lo)
  | 0, _, ls, S => .ok (.nx, ls) S
  | n + 1, k, ls, S => match nxt I k S with
    | some (some v) => match g v ls S with
      | .ok l1 S1 => match body l1 S1 with
        | .ok r S2 => match r.1 with
          | .nx => segF g body I n (k + 1) r.2 S2
          | .ct => segF g body I n (k + 1) r.2 S2
          | _ => .bad
        | _ => .bad
      | _ => .bad
    | _ => .bad
section
variable {X : Cx} {G : Gd} {W : WX} {F : Fm} {ρ : List Addr} {S : Sto} {ls : Lo} {σ : L2.St} {H : Hp} {st : Stmt} {tg iter : Expr} {body : List Stmt} {rest : List Stmt} {pos : Pos}
theorem cut_less {l : Lo} {n : Nat} {es : List (Nat × AO)} {q : Lo} (T : Stt G F ρ S q σ H) (h : cutB l n es (.ok (.nx, q) S) = true) : Stt G F ρ (mkS n es) l σ H := by
  obtain ⟨_, e2, e3, e4⟩ := cutB_sat h
  obtain ⟨g1, g2⟩ := locsB_ok e3
  have ob := objB_ok e4
  have hb : ∀ p ∈ es, p.1 < 2 ^ depth := fun p hp => small40 (Nat.le_of_lt (Nat.lt_of_lt_of_le (ob p hp).1 (by rw [← e2]; exact T.rel.lt)))
  exact T.cutT (by rw [mkS_n, e2]) (fun i o hi g => (ob _ (mkS_get hb hi g)).2) g1 g2
theorem cutAt_ok {cs : List LCut} {k : Nat} {p : List LCut × Lo × Sto} (T : Stt G F ρ S ls σ H) (h : cutAt cs k ls S = some p) : Stt G F ρ p.2.2 p.2.1 σ H := by
  unfold cutAt at h
  split at h
  · cases h; exact T
  · split at h
    · split at h
      · rename_i q
        cases h
        exact cut_less T q
      · cases h
    · cases h; exact T
theorem forY_ok {g : GM} {mb : SM} {I : IT} {J : It} {D : Ends} {ρ0 : List Addr} {H0 : Hp} (ri : RI G F I J ρ0 H0) {n : Nat} {cs : List LCut} (x : Ext ρ0 H0 ρ H) (T : Stt G F ρ S ls σ H) (h : (loopY g mb I n cs 0 ls S).Sat (PostS G F ρ0 H0 D) (PostX G F W ρ0 H0)) :
    ∃ Wm : Nat → Nat → L2.St → Hp → Prop, (∃ m, Wm 0 m σ H) ∧ ∀ i m σ H, Wm i m σ H →
  (J.stop i H ∧ D.nx σ H) ∨ (J.go i H ∧ ∃ N : L2.St → Hp → Prop, (∀ σ' H', N σ' H' → ∃ m', m' < m ∧ Wm (i + 1) m' σ' H') ∧ ∀ x H', J.yld i H x H' → tGm G F g x σ H' fun σ2 H2 => tS G F W mb { D with nx := N, ct := N, bk := D.nx } σ2 H2) := by
  refine ⟨fun i m σ H => ∃ cs ρ S ls, Ext ρ0 H0 ρ H ∧ Stt G F ρ S ls σ H ∧ (loopY g mb I m cs i ls S).Sat (PostS G F ρ0 H0 D) (PostX G F W ρ0 H0), ⟨n, cs, ρ, S, ls, x, T, h⟩, ?_⟩
  rintro i m σ1 H1 ⟨cs0, ρ1, S0, l0, x1, T0, h1⟩
  cases m with
  | zero => exact h1.elim
  | succ m =>
    unfold loopY at h1
    cases qc : cutAt cs0 i l0 S0 with
    | none => rw [qc] at h1; exact h1.elim
    | some p =>
      rw [qc] at h1
      have T1 := cutAt_ok T0 qc
      obtain ⟨cs1, l1, S1⟩ := p
      dsimp only at T1 h1
      obtain ⟨r1, r2⟩ := ri _ ρ1 H1 S1 l1 σ1 i x1 T1
      cases q : nxt I i S1 with
      | none => rw [q] at h1; exact h1.elim
      | some o =>
        cases o with
        | none =>
          rw [q] at h1
          exact .inl ⟨r1 q, h1 ρ1 H1 σ1 x1 T1⟩
        | some v =>
          rw [q] at h1
          obtain ⟨go, yl⟩ := r2 v q
          refine .inr ⟨go, fun σ' H' => ∃ ρ S ls, Ext ρ0 H0 ρ H' ∧ Stt G F ρ S ls σ' H' ∧ (loopY g mb I m cs1 (i + 1) ls S).Sat (PostS G F ρ0 H0 D) (PostX G F W ρ0 H0), fun σ' H' ⟨ρ, S, ls, n⟩ => ⟨m, Nat.lt_succ_self _, cs1, ρ, S, ls, n⟩, fun y H2 hy => ?_⟩
          obtain ⟨ρ2, x2, T2, rvA⟩ := yl y H2 hy
          refine ⟨ρ2, S1, l1, v, T2, rvA, ?_⟩
          dsimp only at h1
          cases qg : g v l1 S1 with
          | ok l2 S2 =>
            rw [qg] at h1
            intro ρ3 H3 σ3 x3 T3
            refine ⟨ρ3, S2, l2, T3, Out.sat_mono (fun r S4 z ρ4 H4 σ4 x4 T4 => ?_) (fun _ _ _ z => z.ext (x1.trans (x2.trans x3))) (Out.sat_bind.mp h1)⟩
            have xx := x1.trans (x2.trans (x3.trans x4))
            obtain ⟨f, l4⟩ := r
            cases f with
            | nx => exact ⟨ρ4, S4, l4, xx, T4, z⟩
            | ct => exact ⟨ρ4, S4, l4, xx, T4, z⟩
            | br => exact z ρ4 H4 σ4 xx T4
            | rt w => exact z ρ4 H4 σ4 xx T4
          | _ => rw [qg] at h1; exact h1.elim
def mForY (i : IM) (g : GM) (body : SM) (cs : List LCut) : SM := fun ls S => (i ls S).bind fun I S1 => loopY g body I fuel cs 0 ls S1
theorem ms_forY {i : IM} {g : GM} {mb : SM} {cs : List LCut} (hp : PassesOwn (model X.prog X.w) X.A X.env X.xe) (hc : X.calm = true) (hi : PI X tg iter (tI G F W i)) (hg : PG X tg (tGm G F g)) (hb : PSs X body (tS G F W mb))
    (hs : ∀ x, foldedSetIterable iter X.env x = pure x) : PS X (.For tg iter body [] pos) (tS G F W (mForY i g mb cs)) := by
  refine PS_imp (ps_for hp hc hi hg hb hs) fun D σ H ⟨ρ, S, ls, T, h⟩ => ?_
  refine ⟨ρ, S, ls, T, Out.sat_mono (fun I S1 q ρ1 H1 J x1 T1 ri => ?_) (fun _ _ _ q => q) (Out.sat_bind.mp h)⟩
  exact forY_ok ri (Ext.refl _ _) T1 (Out.sat_mono (fun _ _ z => z.ext x1) (fun _ _ _ z => z.ext x1) q)
/-! the kernel goes cut by cut -/
def headNe (k : Nat) : List LCut → Bool
  | [] => true
  | c :: _ => !Nat.beq c.1 k
theorem cutAt_ne {cs : List LCut} {k : Nat} (h : headNe k cs = true) : cutAt cs k ls S = some (cs, ls, S) := by
  cases cs with
  | nil => rfl
  | cons c r =>
    have h : (!Nat.beq c.1 k) = true := h
    show (match Nat.beq c.1 k with
      | true => match cutB c.2.1 c.2.2.1 c.2.2.2 (.ok (.nx, ls) S) with
        | true => some (r, c.2.1, mkS c.2.2.1 c.2.2.2)
        | false => none
      | false => some (c :: r, ls, S)) = some (c :: r, ls, S)
    cases q : Nat.beq c.1 k with
    | true => rw [q] at h; cases h
    | false => rfl
theorem beq_add {k n : Nat} : Nat.beq (k + (n + 1)) k = false := by
  cases q : Nat.beq (k + (n + 1)) k with
  | false => rfl
  | true => have := Nat.eq_of_beq_eq_true q; omega
theorem loopY_succ {g : GM} {mb : SM} {I : IT} {f k : Nat} {cs : List LCut} : loopY g mb I (f + 1) cs k ls S = match cutAt cs k ls S with
    | none => .bad
    | some p => match nxt I k p.2.2 with
      | none => .bad
      | some none => .ok (.nx, p.2.1) p.2.2
      | some (some v) => match g v p.2.1 p.2.2 with
        | .ok l1 S1 => (mb l1 S1).bind fun r S2 => match r.1 with
          | .nx => loopY g mb I f p.1 (k + 1) r.2 S2
          | .ct => loopY g mb I f p.1 (k + 1) r.2 S2
          | .br => .ok (.nx, r.2) S2
          | .rt v => .ok (.rt v, r.2) S2
        | _ => .bad := rfl
/-- n turns that end well, ahead of the first cut -/
theorem seg_run {g : GM} {mb : SM} {I : IT} {c : Cut} {cs : List LCut} {f : Nat} : ∀ {n k : Nat} {ls ls' : Lo} {S S' : Sto} {r : Fl}, segF g mb I n k ls S = .ok (r, ls') S' → loopY g mb I (f + n) ((k + n, c) :: cs) k ls S = loopY g mb I f ((k + n, c) :: cs) (k + n) ls' S' ∧ r = .nx
  | 0, k, ls, ls', S, S', r, h => by
    unfold segF at h
    cases h
    exact ⟨rfl, rfl⟩
  | n + 1, k, ls, ls', S, S', r, h => by
    unfold segF at h
    have e : f + (n + 1) = (f + n) + 1 := rfl
    have e2 : k + (n + 1) = (k + 1) + n := by omega
    rw [e, loopY_succ]
    rw [cutAt_ne (by show (!Nat.beq (k + (n + 1)) k) = true; rw [beq_add]; rfl)]
    dsimp only
    split at h
    · rename_i v q
      rw [q]
      dsimp only
      split at h
      · rename_i l1 S1 q2
        try rw [q2]
        try dsimp only
        split at h
        · rename_i r2 S2 q3
          try rw [q3]
          show (match r2.1 with
            | .nx => loopY g mb I (f + n) ((k + (n + 1), c) :: cs) (k + 1) r2.2 S2
            | .ct => loopY g mb I (f + n) ((k + (n + 1), c) :: cs) (k + 1) r2.2 S2
            | .br => .ok (.nx, r2.2) S2
            | .rt v => .ok (.rt v, r2.2) S2) = _ ∧ _
          rw [e2]
          split at h
          · rename_i q4
            rw [q4]
            have z := seg_run (f := f) (c := c) (cs := cs) h
            exact ⟨z.1, z.2⟩
          · rename_i q4
            rw [q4]
            have z := seg_run (f := f) (c := c) (cs := cs) h
            exact ⟨z.1, z.2⟩
          · cases h
        · cases h
      · cases h
    · cases h
theorem seg_step {g : GM} {mb : SM} {I : IT} {c : Cut} {cs : List LCut} {f n k : Nat} (h : cutB c.1 c.2.1 c.2.2 (segF g mb I n k ls S) = true) (hn : headNe (k + n) cs = true) :
    loopY g mb I (f + 1 + n) ((k + n, c) :: cs) k ls S = loopY g mb I (f + 1) cs (k + n) c.1 (mkS c.2.1 c.2.2) := by
  cases q : segF g mb I n k ls S with
  | ok r S' =>
    rw [q] at h
    obtain ⟨fl, l'⟩ := r
    obtain ⟨z1, z2⟩ := seg_run (f := f + 1) (c := c) (cs := cs) q
    subst z2
    rw [z1]
    have e1 : cutAt ((k + n, c) :: cs) (k + n) l' S' = some (cs, c.1, mkS c.2.1 c.2.2) := by
      unfold cutAt
      dsimp only
      rw [Nat.beq_refl]
      dsimp only
      rw [h]
    rw [loopY_succ, loopY_succ, e1, cutAt_ne hn]
  | _ => rw [q] at h; cases h
end
/-! a law's body: statements cut behind, a loop cut within -/
inductive Cn where
  | s (c : Cut)
  | f (lc : LCut) (c : Cut)
abbrev FP := (Tb → IM) × GM × (Tb → SM)
def forParts (cfg : CF) (st : Stmt) : Option FP := match st with
  | .For tg it body [] _ => match cfg.top && (cfg.calm && notSet it), cIter (lv 40) cfg tg it, cTg 5 cfg tg, cSs ((lv 40).S cfg) body with
    | true, some i, some g, some m => some (i, g, m)
    | _, _, _, _ => none
  | _ => none
def fpOf (cfg : CF) (st : Stmt) : FP := match forParts cfg st with
  | some p => p
  | none => (fun _ _ _ => .bad, fun _ _ _ => .bad, fun _ _ _ => .bad)
theorem forY_stmt {cfg : CF} {st : Stmt} {p : FP} {lc : List LCut} (h : forParts cfg st = some p) {X : Cx} {G : Gd} {W : WX} {T : Tb} {kk : Nat} (fr : FrOk X G W cfg) (gl : GlOk X G cfg T kk) : PS X st (tS G (fm X) W (mForY (p.1 T) p.2.1 (p.2.2 T) lc)) := by
  unfold forParts at h
  split at h
  · split at h
    · rename_i q1 q2 q3 q4
      cases h
      simp only [Bool.and_eq_true] at q1
      exact ms_forY (fr.po q1.1) (fr.calm q1.2.1) (cIter_ok (lv_ok 40) q2 fr gl) (cTg_ok fr 5 q3) (cSs_ok (fun z => (lv_ok 40).S z fr gl) q4) (notSet_it q1.2.2)
    · cases h
  · cases h
def chainY (cfg : CF) (T : Tb) : List Cn → List Stmt → SM
  | [], b => cmpB cfg b T
  | .s c :: cs, st :: rest => mCut (cmpB cfg [st] T) c.1 c.2.1 c.2.2 (chainY cfg T cs rest)
  | .f lc c :: cs, st :: rest => mCut (mForY ((fpOf cfg st).1 T) (fpOf cfg st).2.1 ((fpOf cfg st).2.2 T) [lc]) c.1 c.2.1 c.2.2 (chainY cfg T cs rest)
  | _ :: _, [] => mBadS
/-- the loops that are cut are covered -/
def chainB (cfg : CF) : List Cn → List Stmt → Bool
  | .f _ _ :: cs, st :: rest => match (forParts cfg st).isSome with
    | true => chainB cfg cs rest
    | false => false
  | .s _ :: cs, _ :: rest => chainB cfg cs rest
  | _, _ => true
def itOk (o : Out IT) : Bool := match o with
  | .ok _ _ => true
  | _ => false
def itI (o : Out IT) : IT := match o with
  | .ok I _ => I
  | _ => .l 0
def itS (o : Out IT) : Sto := match o with
  | .ok _ S => S
  | _ => default
theorem itOk_eq {o : Out IT} (h : itOk o = true) : o = .ok (itI o) (itS o) := by
  cases o with
  | ok I S => rfl
  | _ => cases h
def stepS (cfg : CF) (T : Tb) (c : Cut) (b : List Stmt) (ls : Lo) (S : Sto) : Bool := match b with
  | st :: _ => cutB c.1 c.2.1 c.2.2 (cmpB cfg [st] T ls S)
  | _ => false
def hdSt (b : List Stmt) : Stmt := match b with
  | st :: _ => st
  | [] => .Pass ⟨0, 0, 0, 0⟩
theorem chainY_s {cfg : CF} {T : Tb} {c : Cut} {cs : List Cn} {b : List Stmt} {ls : Lo} {S : Sto} (h : stepS cfg T c b ls S = true) : chainY cfg T (.s c :: cs) b ls S = chainY cfg T cs b.tail c.1 (mkS c.2.1 c.2.2) := by
  unfold stepS at h
  split at h
  · rename_i st rest
    show (match cutB c.1 c.2.1 c.2.2 (cmpB cfg [st] T ls S) with
      | true => chainY cfg T cs rest c.1 (mkS c.2.1 c.2.2)
      | false => .bad) = chainY cfg T cs rest c.1 (mkS c.2.1 c.2.2)
    rw [h]
  · cases h
theorem it_bind {g : GM} {m : SM} {ls : Lo} {o : Out IT} (h : itOk o = true) (F : Nat) (cs : List LCut) : (o.bind fun I S1 => loopY g m I F cs 0 ls S1) = loopY g m (itI o) F cs 0 ls (itS o) := by
  cases o with
  | ok I S' => rfl
  | _ => cases h
def mForF (F : Nat) (i : IM) (g : GM) (body : SM) (cs : List LCut) : SM := fun ls S => (i ls S).bind fun I S1 => loopY g body I F cs 0 ls S1
theorem stage_F {g : GM} {m : SM} {i : IM} {ls : Lo} {S : Sto} {n f F : Nat} {c0 c : Cut} (h1 : itOk (i ls S) = true) (h2 : cutB c0.1 c0.2.1 c0.2.2 (segF g m (itI (i ls S)) n 0 ls (itS (i ls S))) = true)
    (h3 : cutB c.1 c.2.1 c.2.2 (loopY g m (itI (i ls S)) (f + 1) [] (0 + n) c0.1 (mkS c0.2.1 c0.2.2)) = true) (hf : F = f + 1 + n) : cutB c.1 c.2.1 c.2.2 (mForF F i g m [(0 + n, c0)] ls S) = true := by
  subst hf
  unfold mForF
  rw [it_bind h1, seg_step h2 rfl]
  exact h3
theorem mForY_F {i : IM} {g : GM} {m : SM} {cs : List LCut} : mForY i g m cs = mForF fuel i g m cs := rfl
theorem stage_f {g : GM} {m : SM} {i : IM} {ls : Lo} {S : Sto} {n f : Nat} {c0 c : Cut} (h1 : itOk (i ls S) = true) (h2 : cutB c0.1 c0.2.1 c0.2.2 (segF g m (itI (i ls S)) n 0 ls (itS (i ls S))) = true)
    (h3 : cutB c.1 c.2.1 c.2.2 (loopY g m (itI (i ls S)) (f + 1) [] (0 + n) c0.1 (mkS c0.2.1 c0.2.2)) = true) (hf : fuel = f + 1 + n) : cutB c.1 c.2.1 c.2.2 (mForY i g m [(0 + n, c0)] ls S) = true := by
  rw [mForY_F]
  exact stage_F h1 h2 h3 hf
theorem chainY_f {cfg : CF} {T : Tb} {lc : LCut} {c : Cut} {cs : List Cn} {b : List Stmt} {ls : Lo} {S : Sto} (hb : b ≠ []) (h : cutB c.1 c.2.1 c.2.2 (mForY ((fpOf cfg (hdSt b)).1 T) (fpOf cfg (hdSt b)).2.1 ((fpOf cfg (hdSt b)).2.2 T) [lc] ls S) = true) :
    chainY cfg T (.f lc c :: cs) b ls S = chainY cfg T cs b.tail c.1 (mkS c.2.1 c.2.2) := by
  cases b with
  | nil => exact absurd rfl hb
  | cons st rest =>
    show (match cutB c.1 c.2.1 c.2.2 (mForY ((fpOf cfg st).1 T) (fpOf cfg st).2.1 ((fpOf cfg st).2.2 T) [lc] ls S) with
      | true => chainY cfg T cs rest c.1 (mkS c.2.1 c.2.2)
      | false => .bad) = chainY cfg T cs rest c.1 (mkS c.2.1 c.2.2)
    have h' : cutB c.1 c.2.1 c.2.2 (mForY ((fpOf cfg st).1 T) (fpOf cfg st).2.1 ((fpOf cfg st).2.2 T) [lc] ls S) = true := h
    rw [h']
namespace Pd
variable {P : Program} {w : World} {K : PySem.W.Frag} {mg : Str → Option Value} {base : Heap} {p : Pd}
theorem chainY_ok {k : Nat} {x : Str} {N : List Str} {sc : Scope} {f : Addr} {cdv : Value} {A : Around} {outer : List Env} {s : Shared} {H : Hp} {E : XK} {mk : Bool} {T : Tb} {ps : List Str} (pg : PgOk P w K mg base (p.mkG K) p.tx T k) (Sc : FnScope N ps sc) (lk : mk = true → LkOk base mg (p.mkG K) x cdv)
    (hr : Room k (A.deeper (envOfC x sc s.heap.objs.size f cdv))) : ∀ {cs : List Cn} {b : List Stmt}, chainB (cfgD p.tx x N sc mk) cs b = true → PSs (cxOf (L2.CX P w) P w K mg base N x sc f cdv A outer s H E) b (tS (p.mkG K) (fm (cxOf (L2.CX P w) P w K mg base N x sc f cdv A outer s H E)) (WF E) (chainY (cfgD p.tx x N sc mk) T cs b))
  | [], b, _ => tail_ok pg Sc lk hr
  | .s c :: cs, st :: rest, hb => by
    have fr := fr_def (tx := p.tx) (N := N) (f := f) (cdv := cdv) (A := A) (outer := outer) (s := s) (H := H) (E := E) pg rfl rfl Sc lk
    have h1 : (lv 40).S (cfgD p.tx x N sc mk) st = some (cmpB (cfgD p.tx x N sc mk) [st]) := cmpB_eq _ [st]
    exact ms_cut ((lv_ok 40).S h1 fr (gl_def (tx := p.tx) pg hr)) (chainY_ok pg Sc lk hr hb)
  | .f lc c :: cs, st :: rest, hb => by
    have fr := fr_def (tx := p.tx) (N := N) (f := f) (cdv := cdv) (A := A) (outer := outer) (s := s) (H := H) (E := E) pg rfl rfl Sc lk
    have hb : (match (forParts (cfgD p.tx x N sc mk) st).isSome with
      | true => chainB (cfgD p.tx x N sc mk) cs rest
      | false => false) = true := hb
    cases q : forParts (cfgD p.tx x N sc mk) st with
    | none => rw [q] at hb; cases hb
    | some pp =>
      rw [q] at hb
      have e : fpOf (cfgD p.tx x N sc mk) st = pp := by unfold fpOf; rw [q]
      have h1 := forY_stmt (T := T) (lc := [lc]) q fr (gl_def (tx := p.tx) pg hr)
      rw [← e] at h1
      exact ms_cut h1 (chainY_ok pg Sc lk hr hb)
  | .s _ :: _, [], _ => PSs_imp pss_nil fun D σ H ⟨ρ, S, ls, T, h⟩ => h.elim
  | .f _ _ :: _, [], _ => PSs_imp pss_nil fun D σ H ⟨ρ, S, ls, T, h⟩ => h.elim
end Pd
end Sh

end

noncomputable section
namespace K24
open Sh PySem PySem.Spec PyProof.Rows L2 LamX He
def pd : Pd where
  main := PySem.Challenge.pw_carriednames_k24_flat_machine_refused.main.body
  dfs := [⟨"law", 81, ["script", "stream", "odd", "asks", "code", "odds", "least", "ask"], ["script"], 3, ("law", none), "law", none⟩,
    ⟨"_law_draw", 73, ["stream", "many", "cell", "digit", "mixed"], ["stream", "many"], 2, ("_law_draw", none), "_law_draw", none⟩,
    ⟨"_law_stream", 72, ["script"], ["script"], 3, ("_law_stream", none), "_law_stream", none⟩,
    ⟨"_law_pick", 74, ["stream", "things"], ["stream", "things"], 0, ("_law_pick", none), "_law_pick", none⟩,
    ⟨"_law_is_very", 76, ["word", "ask", "odd", "found"], ["word", "ask"], 0, ("_law_is_very", none), "_law_is_very", none⟩,
    ⟨"_law_f_odd_codes", 77, ["one", "odds", "rows", "row"], [], 0, ("_law_f_odd_codes", none), "_law_f_odd_codes", none⟩,
    ⟨"_law_f_unsound", 78, ["rows", "some"], [], 0, ("_law_f_unsound", none), "_law_f_unsound", none⟩,
    ⟨"_law_given_asks", 80, ["code", "given", "asks"], ["code", "given"], 1, ("_law_given_asks", none), "_law_given_asks", none⟩,
    ⟨"_law_same", 75, ["found", "due", "mine", "theirs"], ["found", "due"], 0, ("_law_same", none), "_law_same", none⟩,
    ⟨"flat_step", 66, ["code", "state", "known"], ["code", "state"], 0, ("flat_step", none), "flat_step", none⟩,
    ⟨"is_flat_state", 56, ["code", "thing"], ["code", "thing"], 0, ("is_flat_state", none), "is_flat_state", none⟩,
    ⟨"flat_run", 69, ["code", "given", "most", "known", "state"], ["code", "given", "most"], 0, ("flat_run", none), "flat_run", none⟩,
    ⟨"flat_calls", 70, ["code", "given", "most", "known", "state", "seen"], ["code", "given", "most"], 0, ("flat_calls", none), "flat_calls", none⟩,
    ⟨"_law_met", 79, ["ask", "e"], ["ask"], 0, ("_law_met", none), "_law_met", none⟩,
    ⟨"flat_begun", 59, ["code", "given"], ["code", "given"], 0, ("flat_begun", none), "flat_begun", none⟩,
    ⟨"need_sound", 45, ["code", "kept"], ["code"], 0, ("need_sound", none), "need_sound", none⟩,
    ⟨"stepped", 65, ["known", "state", "most", "frames", "heap", "prints", "calls", "frame", "row", "word", "end"], ["known", "state", "most"], 0, ("stepped", none), "stepped", none⟩,
    ⟨"need_state", 57, ["known", "state", "kept"], ["known", "state"], 0, ("need_state", none), "need_state", none⟩,
    ⟨"kept_state", 55, ["known", "thing", "heap", "frames", "place", "one"], ["known", "thing"], 0, ("kept_state", none), "kept_state", none⟩,
    ⟨"need_run", 68, ["code", "given", "most", "known", "state"], ["code", "given", "most"], 0, ("need_run", none), "need_run", none⟩,
    ⟨"led", 67, ["known", "state", "most", "seen", "frame", "row", "told"], ["known", "state", "most", "seen"], 0, ("led", none), "led", none⟩,
    ⟨"first_state", 58, ["known", "given", "_", "params", "many", "one"], ["known", "given"], 0, ("first_state", none), "first_state", none⟩,
    ⟨"need_code", 29, ["code", "kept"], ["code"], 0, ("need_code", none), "need_code", none⟩,
    ⟨"judged_by", 39, ["code", "sizes", "helds", "number", "function", "heights", "bound", "at", "row"], ["code"], 0, ("judged_by", none), "judged_by", none⟩,
    ⟨"called", 61, ["known", "state", "row", "most", "frames", "heap", "_", "calls", "number", "many", "place", "stack", "args", "made", "params", "all_locals", "frame"], ["known", "state", "row", "most"], 0, ("called", none), "called", none⟩,
    ⟨"given_back", 62, ["known", "state", "frames", "heap", "_", "worth"], ["known", "state"], 0, ("given_back", none), "given_back", none⟩,
    ⟨"reckoned_row", 63, ["heap", "row", "stack", "word", "one", "other"], ["heap", "row", "stack"], 0, ("reckoned_row", none), "reckoned_row", none⟩,
    ⟨"put_row", 64, ["known", "state", "row", "frames", "heap", "prints", "_", "record", "mine", "stack", "word", "some", "index"], ["known", "state", "row"], 0, ("put_row", none), "put_row", none⟩,
    ⟨"is_worth", 18, ["thing"], ["thing"], 0, ("is_worth", none), "is_worth", none⟩,
    ⟨"kept_heap", 49, ["known", "thing", "found", "one", "kept"], ["known", "thing"], 0, ("kept_heap", none), "kept_heap", none⟩,
    ⟨"kept_frame", 52, ["known", "heap", "thing", "is_waiting", "number", "record", "row", "locals_there", "stack", "mine", "some", "one"], ["known", "heap", "thing", "is_waiting"], 0, ("kept_frame", none), "kept_frame", none⟩,
    ⟨"is_row", 5, ["thing", "many"], ["thing", "many"], 0, ("is_row", none), "is_row", none⟩,
    ⟨"is_list", 1, ["thing"], ["thing"], 0, ("is_list", none), "is_list", none⟩,
    ⟨"is_number", 3, ["thing"], ["thing"], 0, ("is_number", none), "is_number", none⟩,
    ⟨"kept_shape", 54, ["thing", "part"], ["thing"], 0, ("kept_shape", none), "kept_shape", none⟩,
    ⟨"is_shape", 53, ["known", "thing", "deep", "part"], ["known", "thing", "deep"], 0, ("is_shape", none), "is_shape", none⟩,
    ⟨"kept_code", 28, ["thing", "found", "indexes", "group", "index", "_", "one"], ["thing"], 0, ("kept_code", none), "kept_code", none⟩,
    ⟨"Known.__init__", 44, ["self", "code", "function", "high", "number"], ["self", "code"], 0, ("Known", some "__init__"), "__init__", some 0⟩,
    ⟨"sizes_of", 30, ["code", "found", "group", "_"], ["code"], 0, ("sizes_of", none), "sizes_of", none⟩,
    ⟨"helds_of", 31, ["code", "found", "_", "rows", "row"], ["code"], 0, ("helds_of", none), "helds_of", none⟩,
    ⟨"heights_or_row", 37, ["function", "sizes", "helds", "known", "left", "rows", "at", "word", "there"], ["function", "sizes", "helds"], 0, ("heights_or_row", none), "heights_or_row", none⟩,
    ⟨"bound_by", 38, ["function", "heights", "_", "params", "many", "rows", "found", "is_on", "at", "mine", "there", "both", "one"], ["function", "heights"], 0, ("bound_by", none), "bound_by", none⟩,
    ⟨"shape_in", 60, ["known", "heap", "worth", "deep", "part"], ["known", "heap", "worth", "deep"], 0, ("shape_in", none), "shape_in", none⟩,
    ⟨"reckoned", 19, ["op", "one", "other"], ["op", "one", "other"], 0, ("reckoned", none), "reckoned", none⟩,
    ⟨"is_whole", 2, ["thing"], ["thing"], 0, ("is_whole", none), "is_whole", none⟩,
    ⟨"kept_thing", 48, ["known", "heap", "thing", "parts", "part"], ["known", "heap", "thing"], 0, ("kept_thing", none), "kept_thing", none⟩,
    ⟨"kept_locals", 50, ["known", "heap", "number", "row", "thing", "found", "place", "one"], ["known", "heap", "number", "row", "thing"], 0, ("kept_locals", none), "kept_locals", none⟩,
    ⟨"kept_worth", 47, ["known", "heap", "limit", "thing"], ["known", "heap", "limit", "thing"], 0, ("kept_worth", none), "kept_worth", none⟩,
    ⟨"is_below", 4, ["thing", "most"], ["thing", "most"], 0, ("is_below", none), "is_below", none⟩,
    ⟨"is_own", 51, ["known", "heap", "number", "row", "record"], ["known", "heap", "number", "row", "record"], 0, ("is_own", none), "is_own", none⟩,
    ⟨"kept_function", 27, ["thing", "one", "row"], ["thing"], 0, ("kept_function", none), "kept_function", none⟩,
    ⟨"live_in", 41, ["function", "heights", "rows", "found", "is_on", "at", "mine", "there", "one"], ["function", "heights"], 0, ("live_in", none), "live_in", none⟩,
    ⟨"reads_in", 42, ["function", "heights", "rows", "found", "is_on", "at", "mine", "there"], ["function", "heights"], 0, ("reads_in", none), "reads_in", none⟩,
    ⟨"wrong_word", 36, ["function", "at", "high", "known", "sizes", "helds", "row", "rows", "leads", "later", "there"], ["function", "at", "high", "known", "sizes", "helds"], 0, ("wrong_word", none), "wrong_word", none⟩,
    ⟨"leads_of", 34, ["at", "row"], ["at", "row"], 0, ("leads_of", none), "leads_of", none⟩,
    ⟨"put_by", 33, ["row", "sizes"], ["row", "sizes"], 0, ("put_by", none), "put_by", none⟩,
    ⟨"taken", 32, ["row"], ["row"], 0, ("taken", none), "taken", none⟩,
    ⟨"wrapped", 17, ["number"], ["number"], 0, ("wrapped", none), "wrapped", none⟩,
    ⟨"is_thing_at", 46, ["heap", "limit", "number", "word"], ["heap", "limit", "number", "word"], 0, ("is_thing_at", none), "is_thing_at", none⟩,
    ⟨"kept_row", 26, ["row", "part"], ["row"], 0, ("kept_row", none), "kept_row", none⟩,
    ⟨"is_code_row", 25, ["thing", "sorts", "sort", "part"], ["thing"], 0, ("is_code_row", none), "is_code_row", none⟩,
    ⟨"is_indexed", 35, ["function", "row", "sizes", "helds", "group", "_", "many"], ["function", "row", "sizes", "helds"], 0, ("is_indexed", none), "is_indexed", none⟩,
    ⟨"is_part", 24, ["sort", "thing"], ["sort", "thing"], 0, ("is_part", none), "is_part", none⟩,
    ⟨"is_place", 13, ["thing"], ["thing"], 0, ("is_place", none), "is_place", none⟩]
  exs := [("BadGiven", 8, some 0), ("BadMost", 9, some 1), ("BadCode", 10, some 2), ("BadState", 11, some 3)]
  bts := [("ValueError" : Str), ("abs" : Str), ("all" : Str), ("any" : Str), ("bool" : Str), ("dict" : Str), ("enumerate" : Str), ("int" : Str), ("isinstance" : Str), ("len" : Str), ("list" : Str), ("min" : Str), ("range" : Str), ("sorted" : Str), ("str" : Str), ("tuple" : Str), ("zip" : Str)]
  cst := [("OPENEST", .int 40), ("DEEPEST", .int 8)]
  tup := [("OPS", [[43], [45], [42], [61, 61], [60]])]
  tbl := [("TAKES", [([116, 119, 111], .int 2), ([112, 97, 105, 114], .int 2), ([98, 105, 110, 100], .int 1), ([112, 97, 114, 116], .int 1), ([112, 114, 105, 110, 116], .int 1), ([102, 105, 114, 115, 116], .int 1), ([114, 101, 115, 116], .int 1), ([103, 105, 118, 101], .int 1)]), ("SORTS", [([112, 117, 115, 104], .str [105]), ([108, 111, 99, 97, 108], .str [110]), ([104, 101, 108, 100], .str [110]), ([109, 97, 116, 101], .str [110]), ([98, 105, 110, 100], .str [110]), ([99, 108, 111, 115, 101], .str [110, 110]), ([99, 97, 108, 108], .str [110, 112]), ([108, 97, 115, 116], .str [110, 112]), ([103, 105, 118, 101], .str []), ([112, 97, 114, 116], .str [110, 112]), ([106, 117, 109, 112], .str [110]), ([116, 119, 111], .str [111, 112]), ([112, 114, 105, 110, 116], .str []), ([112, 97, 105, 114], .str []), ([102, 105, 114, 115, 116], .str [112]), ([114, 101, 115, 116], .str [112])])]
  flds := [("given" : Str), ("most" : Str), ("code" : Str), ("state" : Str), ("heights" : Str), ("live" : Str), ("reads" : Str), ("numbers" : Str), ("sizes" : Str), ("helds" : Str), ("__init__" : Str)]
  cls := [⟨"Known", 37, [], [4, 5, 6, 7, 2, 8, 9]⟩]
def lawN : List Str := ["script", "stream", "odd", "asks", "code", "odds", "least", "ask"]
def lawR : DefR := ⟨"law", 81, lawN, ["script"], 3, ("law", none), "law", none⟩
def lawS : Stmt := pd.at_ 81
def lawM (k : Nat) : SM := cmpB (cfgD pd.tx "law" lawN (defScope lawS) (pd.mkL lawR)) (defBody lawS).tail (pd.tab k)
end K24

end

noncomputable section
set_option maxHeartbeats 2000000
namespace K24
open Sh PySem PySem.Spec PyProof.Rows L2 LamX He
theorem pd_ok : pd.okB = true := by decide +kernel
theorem pd_cst : pd.cst.all Pd.cstB = true := by decide +kernel
def drR : DefR := ⟨"_law_draw", 73, ["stream", "many", "cell", "digit", "mixed"], ["stream", "many"], 2, ("_law_draw", none), "_law_draw", none⟩
def stR : DefR := ⟨"_law_stream", 72, ["script"], ["script"], 3, ("_law_stream", none), "_law_stream", none⟩
theorem dr_one : (pd.dfs.all fun r => !Nat.beq r.kind 2 || decide (r = drR)) = true := by decide +kernel
theorem dr_in : drR ∈ pd.dfs := by decide +kernel
theorem st_in : stR ∈ pd.dfs := by decide +kernel
theorem law_in : lawR ∈ pd.dfs := by decide +kernel
theorem law_bf : ("abs" : Str) ∈ pd.bts ∧ ("int" : Str) ∈ pd.bts ∧ ("list" : Str) ∈ pd.bts := by decide +kernel
abbrev s_draw : Stmt := pd.at_ 73
abbrev s_stream : Stmt := pd.at_ 72
theorem sc_draw : FnScope ["stream", "many", "cell", "digit", "mixed"] ["stream", "many"] (defScope s_draw) := Pd.fscB_ok (by decide +kernel)
theorem sc_stream : FnScope ["script"] ["script"] (defScope s_stream) := Pd.fscB_ok (by decide +kernel)
theorem sc_law : FnScope ["script", "stream", "odd", "asks", "code", "odds", "least", "ask"] ["script"] (defScope lawS) := Pd.fscB_ok (by decide +kernel)
section
variable
      {P : Program} {w : World} {K : PySem.W.Frag} {mg : Str → Option Value} {base : Heap}
theorem sp_draw {k : Nat} {fd : FuncData} (F : FunD K "_law_draw" "_law_draw" (defArgs s_draw) (defBody s_draw) (defScope s_draw) [] [] (ga K "_law_draw") fd) (b_abs : mg "abs" = none) (b_int : mg "int" = none) : FnOk P w K mg base (L2.CX P w) (k + 1) (ga K "_law_draw") fd ["stream", "many"] spDraw := by
  refine FunD.ok F sc_draw (fun vs H Q E h => ?_) (fun cdv A outer s H vs Q E hr h => ⟨t_draw K, ?_, pure_draw vs H Q E h⟩)
  · obtain ⟨a, l, d, m, n, c, xs, rfl, _⟩ := h
    rfl
  · exact pss_cons (ps_asg (pe_op op_add (pe_ix ix_seq (pv 0) pe_int (fun _ _ => rfl)) pe_int) (pg_sub (pv 0) pe_int set_list))
      (pss_cons (ps_while PassesOwn.leaving (pw_and (pt_cmpR op_eq (pe_ix ix_seq (pv 0) pe_int (fun _ _ => rfl)) pe_int (nomark _)) (pw_and1 (pt_cmpR (op_neD hr.units) (pe_ix ix_seq (pv 0) pe_int (fun _ _ => rfl)) (pe_lst pa_nil) (nomark _)))).pt
        (pss_cons (ps_set (i := 2) sc_draw.nd rfl (Or.inl rfl) (pe_callB call_abs rfl b_abs rfl (pa_cons (pe_bm PySem.F.plainAttrs_list PySem.F.slot_list_pop PySem.F.type_list_pop mt_popAt (pe_ix ix_seq (pv 0) pe_int (fun _ _ => rfl)) (pa_cons pe_int pa_nil)) pa_nil)))
        (pss_cons (ps_asg (pe_op op_mod (pe_callTy call_int1 rfl b_int rfl (pa_cons (pe_op op_add (pe_op op_add (pe_op op_mul (pe_ix ix_seq (pv 0) pe_int (fun _ _ => rfl)) pe_int) (pv 2)) pe_int) pa_nil)) pe_int) (pg_sub (pv 0) pe_int set_list))
        (pss_one (ps_asg (pe_ifExp (pt_cmpR op_ge (pv 2) (pe_op op_pow pe_int pe_int) (nomark _)) (pv 2) pe_int) (pg_sub (pv 0) pe_int set_list))))))
      (pss_cons (ps_if (pt_cmpR op_gt (pe_ix ix_seq (pv 0) pe_int (fun _ _ => rfl)) pe_int (nomark _))
        (pss_cons (ps_set (i := 3) sc_draw.nd rfl (Or.inl rfl) (pe_op op_mod (pe_callTy call_int1 rfl b_int rfl (pa_cons (pe_ix ix_seq (pv 0) pe_int (fun _ _ => rfl)) pa_nil)) (pv 1)))
          (pss_cons (ps_asg (pe_op op_fdiv (pe_ix ix_seq (pv 0) pe_int (fun _ _ => rfl)) (pv 1)) (pg_sub (pv 0) pe_int set_list)) (pss_one (ps_ret (pv 3))))) pss_nil)
      (pss_cons (ps_set (i := 4) sc_draw.nd rfl (Or.inl rfl) (pe_op op_mod (pe_callTy call_int1 rfl b_int rfl (pa_cons (pe_op op_pow (pe_op op_add (pe_op op_add (pe_ix ix_seq (pv 0) pe_int (fun _ _ => rfl)) (pe_op op_mul pe_int (pe_ix ix_seq (pv 0) pe_int (fun _ _ => rfl)))) pe_int) pe_int) pa_nil)) pe_int))
      (pss_one (ps_ret (pe_op op_mod (pe_op op_mod (pe_callTy call_int1 rfl b_int rfl (pa_cons (pe_op op_pow (pe_op op_add (pe_op op_add (pe_op op_mul (pv 4) pe_int) (pe_op op_mul pe_int (pe_ix ix_seq (pv 0) pe_int (fun _ _ => rfl)))) pe_int) pe_int) pa_nil)) pe_int) (pv 1)))))))
theorem sp_stream {k : Nat} {fd : FuncData} (F : FunD K "_law_stream" "_law_stream" (defArgs s_stream) (defBody s_stream) (defScope s_stream) [] [] (ga K "_law_stream") fd) (b_list : mg "list" = none) : FnOk P w K mg base (L2.CX P w) (k + 1) (ga K "_law_stream") fd ["script"] (spStream K) := by
  refine FunD.ok F sc_stream (fun vs H Q E h => ?_) (fun cdv A outer s H vs Q E hr h => ⟨t_stream K, ?_, pure_stream vs H Q E h⟩)
  · obtain ⟨a, ns, rfl, _⟩ := h
    rfl
  · exact pss_one (ps_ret (pe_lst (pa_cons (pe_callTy call_list_of rfl b_list rfl (pa_cons (pv 0) pa_nil)) (pa_cons pe_int (pa_cons pe_int (pa_cons pe_int pa_nil))))))
theorem dr_ok (h : pd.Ok w K mg base) : Pd.DrawOk P w K mg base pd := Pd.draw_of dr_one fun fd F k => sp_draw F (h.bts _ law_bf.1) (h.bts _ law_bf.2.1)
end
abbrev cfg0 : CF := cfgD pd.tx "law" lawN (defScope lawS) (pd.mkL lawR)
abbrev bd : List Stmt := (defBody lawS).tail
def m0 : Cut := ([.u, .v (.ref 0), .u, .u, .u, .u, .u, .u], 1659, [(77, .lst [.non, .int (5), .str [99, 111, 100, 101], .ref 2, .ref 3, .ref 4, .ref 5, .ref 6, .ref 7, .ref 8, .ref 9, .ref 10, .ref 11, .ref 18, .ref 20, .ref 22, .ref 24, .ref 26, .ref 28, .ref 30, .ref 32, .ref 34, .ref 36, .ref 38, .ref 40, .ref 42, .ref 44, .ref 46, .ref 47, .ref 48, .ref 49, .ref 50, .ref 63, .ref 64, .ref 65, .ref 66, .ref 67, .ref 68, .ref 69, .ref 70, .ref 72, .ref 74]), (2, .dct []), (3, .lst []), (4, .lst [.non]), (5, .lst [.tup [.int (0), .int (0), .int (0), .int (0)]]), (6, .lst [.tup [.int (0), .int (0), .int (0), .int (0), .ref 1, .int (0)]]), (1, .lst [.tup [.str [112, 117, 115, 104], .int (1)], .tup [.str [103, 105, 118, 101]]]), (7, .lst [.tup [.int (1), .int (0), .int (0), .int (0), .ref 1]]), (8, .lst [.tup [.int (0), .int (1), .int (0), .int (0), .ref 1]]), (9, .lst [.tup [.int (0), .int (0), .int (0), .int (0), .ref 1], .tup [.int (0), .int (0), .int (0), .int (0), .ref 1]]), (10, .lst [.tup [.int (0), .int (0), .int (0), .int (0), .ref 1], .tup [.int (1), .int (1), .int (0), .int (0), .ref 1]]), (11, .lst [.tup [.int (0), .int (0), .int (1), .int (0), .ref 1]]), (18, .lst [.tup [.int (0), .int (0), .int (0), .int (0), .ref 17]]), (17, .lst [.tup [.str [112, 117, 115, 104]], .tup [.str [103, 105, 118, 101]]]), (20, .lst [.tup [.int (0), .int (0), .int (0), .int (0), .ref 19]]), (19, .lst [.tup [.str [112, 117, 115, 104], .int (2147483648)], .tup [.str [103, 105, 118, 101]]]), (22, .lst [.tup [.int (0), .int (0), .int (0), .int (0), .ref 21]]), (21, .lst [.tup [.str [112, 117, 115, 104], .bl true], .tup [.str [103, 105, 118, 101]]]), (24, .lst [.tup [.int (0), .int (0), .int (0), .int (0), .ref 23]]), (23, .lst [.tup [.str [108, 111, 99, 97, 108], .int (-1)], .tup [.str [103, 105, 118, 101]]]), (26, .lst [.tup [.int (0), .int (0), .int (0), .int (0), .ref 25]]), (25, .lst [.tup [.str [98, 105, 110, 100], .str [48]], .tup [.str [103, 105, 118, 101]]]), (28, .lst [.tup [.int (0), .int (0), .int (0), .int (0), .ref 27]]), (27, .lst [.tup [.str [99, 108, 111, 115, 101], .int (1)], .tup [.str [103, 105, 118, 101]]]), (30, .lst [.tup [.int (0), .int (0), .int (0), .int (0), .ref 29]]), (29, .lst [.tup [.str [99, 97, 108, 108], .int (0)], .tup [.str [103, 105, 118, 101]]]), (32, .lst [.tup [.int (0), .int (0), .int (0), .int (0), .ref 31]]), (31, .lst [.tup [.str [99, 97, 108, 108], .int (0), .tup [.int (0), .int (1)]], .tup [.str [103, 105, 118, 101]]]), (34, .lst [.tup [.int (0), .int (0), .int (0), .int (0), .ref 33]]), (33, .lst [.tup [.str [103, 105, 118, 101], .int (0)], .tup [.str [103, 105, 118, 101]]]), (36, .lst [.tup [.int (0), .int (0), .int (0), .int (0), .ref 35]]), (35, .lst [.tup [.str [116, 119, 111], .str [47], .tup [.int (1), .int (1)]], .tup [.str [103, 105, 118, 101]]]), (38, .lst [.tup [.int (0), .int (0), .int (0), .int (0), .ref 37]]), (37, .lst [.tup [.str [112, 114, 105, 110, 116], .int (1)], .tup [.str [103, 105, 118, 101]]]), (40, .lst [.tup [.int (0), .int (0), .int (0), .int (0), .ref 39]]), (39, .lst [.tup [.str [110, 111, 110, 101]], .tup [.str [103, 105, 118, 101]]]), (42, .lst [.tup [.int (0), .int (0), .int (0), .int (0), .ref 41]]), (41, .lst [.ref 14, .tup [.str [103, 105, 118, 101]]]), (14, .lst [.str [102, 105, 114, 115, 116]]), (44, .lst [.tup [.int (0), .int (0), .int (0), .int (0), .ref 43]]), (43, .lst [.tup [.str [112, 97, 114, 116], .int (0)], .tup [.str [103, 105, 118, 101]]]), (46, .lst [.tup [.int (0), .int (0), .int (0), .int (0), .ref 45]]), (45, .lst [.tup [], .tup [.str [103, 105, 118, 101]]]), (47, .lst [.tup [.bl true, .int (0), .int (0), .int (0), .ref 1]]), (48, .lst [.tup [.int (0), .int (0), .int (0), .int (-1), .ref 1]]), (49, .lst [.tup [.int (0), .int (0), .int (0), .int (0), .tup [.str [103, 105, 118, 101]]]]), (50, .lst [.tup [.int (0), .int (0), .int (0), .int (0), .non]]), (63, .lst [.tup [.int (0), .int (0), .int (0), .int (0), .ref 53]]), (53, .lst [.tup [.str [103, 105, 118, 101]]]), (64, .lst [.tup [.int (0), .int (0), .int (0), .int (0), .ref 54]]), (54, .lst [.tup [.str [112, 117, 115, 104], .int (1)]]), (65, .lst [.tup [.int (0), .int (0), .int (0), .int (0), .ref 55]]), (55, .lst []), (66, .lst [.tup [.int (0), .int (0), .int (0), .int (0), .ref 56]]), (56, .lst [.tup [.str [112, 117, 115, 104], .int (1)], .tup [.str [106, 117, 109, 112], .int (9)]]), (67, .lst [.tup [.int (0), .int (0), .int (0), .int (0), .ref 57]]), (57, .lst [.tup [.str [108, 111, 99, 97, 108], .int (0)], .tup [.str [103, 105, 118, 101]]]), (68, .lst [.tup [.int (0), .int (0), .int (0), .int (0), .ref 58]]), (58, .lst [.tup [.str [109, 97, 116, 101], .int (1)], .tup [.str [103, 105, 118, 101]]]), (69, .lst [.tup [.int (0), .int (0), .int (0), .int (0), .ref 59]]), (59, .lst [.tup [.str [104, 101, 108, 100], .int (0)], .tup [.str [103, 105, 118, 101]]]), (70, .lst [.tup [.int (0), .int (0), .int (0), .int (0), .ref 60]]), (60, .lst [.tup [.str [99, 108, 111, 115, 101], .int (0), .int (0)], .tup [.str [103, 105, 118, 101]]]), (72, .lst [.tup [.int (0), .int (0), .int (0), .int (1), .ref 71]]), (71, .lst [.tup [.str [108, 111, 99, 97, 108], .int (0)], .tup [.str [103, 105, 118, 101]]]), (74, .lst [.tup [.int (0), .int (0), .int (0), .int (0), .ref 73]]), (73, .lst [.tup [.str [112, 117, 115, 104], .int (1)], .tup [.str [112, 117, 115, 104], .int (1)], .tup [.str [103, 105, 118, 101]]]), (0, .strm 0)])
def c0 : Cut := ([.u, .v (.ref 0), .u, .u, .u, .u, .u, .u], 3289, [(0, .strm 0)])
def c1 : Cut := ([.u, .v (.ref 0), .u, .u, .v (.ref 3290), .u, .u, .u], 3291, [(0, .strm 0), (3290, .lst [.tup [.int (0), .int (0), .int (1), .int (1), .ref 3289]]), (3289, .lst [.tup [.str [108, 111, 99, 97, 108], .int (0)], .tup [.str [103, 105, 118, 101]]])])
def c2 : Cut := ([.u, .v (.ref 0), .u, .u, .v (.ref 3290), .u, .u, .u], 6211, [(0, .strm 0), (3290, .lst [.tup [.int (0), .int (0), .int (1), .int (1), .ref 3289]]), (3289, .lst [.tup [.str [108, 111, 99, 97, 108], .int (0)], .tup [.str [103, 105, 118, 101]]])])
def c3 : Cut := ([.u, .v (.ref 0), .u, .u, .v (.ref 3290), .v (.ref 6228), .u, .u], 6229, [(0, .strm 0), (3290, .lst [.tup [.int (0), .int (0), .int (1), .int (1), .ref 3289]]), (3289, .lst [.tup [.str [108, 111, 99, 97, 108], .int (0)], .tup [.str [103, 105, 118, 101]]]), (6228, .lst [.non, .int (5), .ref 6211, .ref 6212, .tup [.ref 6213, .ref 6214, .ref 6215, .int (0)], .tup [.ref 6219, .ref 6220, .ref 6221, .int (0)], .tup [.ref 6225, .ref 6226, .ref 6227, .int (0)]]), (6211, .dct []), (6212, .lst []), (6213, .lst []), (6214, .lst []), (6215, .lst []), (6219, .lst [.ref 6218]), (6218, .lst [.int (0), .non, .int (0), .ref 6216, .ref 6217]), (6216, .lst [.non]), (6217, .lst []), (6220, .lst []), (6221, .lst []), (6225, .lst [.ref 6224]), (6224, .lst [.int (0), .non, .int (1), .ref 6222, .ref 6223]), (6222, .lst [.int (1)]), (6223, .lst []), (6226, .lst []), (6227, .lst [])])
def c4 : Cut := ([.u, .v (.ref 0), .u, .u, .v (.ref 3290), .u, .u, .u], 7765, [(0, .strm 0), (3290, .lst [.tup [.int (0), .int (0), .int (1), .int (1), .ref 3289]]), (3289, .lst [.tup [.str [108, 111, 99, 97, 108], .int (0)], .tup [.str [103, 105, 118, 101]]])])
def c5 : Cut := ([.u, .v (.ref 0), .v (.ref 7766), .u, .v (.ref 3290), .u, .u, .u], 8850, [(0, .strm 0), (7766, .dct []), (3290, .lst [.tup [.int (0), .int (0), .int (1), .int (1), .ref 3289]]), (3289, .lst [.tup [.str [108, 111, 99, 97, 108], .int (0)], .tup [.str [103, 105, 118, 101]]])])
theorem f_ok : chainB cfg0 [.f (0 + 27, m0) c0, .s c1, .s c2, .s c3, .s c4, .s c5] bd = true := by decide +kernel
theorem f_it : itOk ((fpOf cfg0 (hdSt bd)).1 (pd.tab 20) (lawLo lawN.length) S1) = true := by decide +kernel
theorem f_a : cutB m0.1 m0.2.1 m0.2.2 (segF (fpOf cfg0 (hdSt bd)).2.1 ((fpOf cfg0 (hdSt bd)).2.2 (pd.tab 20)) (itI ((fpOf cfg0 (hdSt bd)).1 (pd.tab 20) (lawLo lawN.length) S1)) 27 0 (lawLo lawN.length) (itS ((fpOf cfg0 (hdSt bd)).1 (pd.tab 20) (lawLo lawN.length) S1))) = true := by decide +kernel
theorem f_b : cutB c0.1 c0.2.1 c0.2.2 (loopY (fpOf cfg0 (hdSt bd)).2.1 ((fpOf cfg0 (hdSt bd)).2.2 (pd.tab 20)) (itI ((fpOf cfg0 (hdSt bd)).1 (pd.tab 20) (lawLo lawN.length) S1)) (99972 + 1) [] (0 + 27) m0.1 (mkS m0.2.1 m0.2.2)) = true := by decide +kernel
theorem st0 : chainY cfg0 (pd.tab 20) [.f (0 + 27, m0) c0, .s c1, .s c2, .s c3, .s c4, .s c5] bd (lawLo lawN.length) S1 = chainY cfg0 (pd.tab 20) [.s c1, .s c2, .s c3, .s c4, .s c5] bd.tail c0.1 (mkS c0.2.1 c0.2.2) :=
  chainY_f (fun z => nomatch z) (stage_f f_it f_a f_b (by decide))
theorem s1 : stepS cfg0 (pd.tab 20) c1 (bd.tail) c0.1 (mkS c0.2.1 c0.2.2) = true := by decide +kernel
theorem s2 : stepS cfg0 (pd.tab 20) c2 (bd.tail.tail) c1.1 (mkS c1.2.1 c1.2.2) = true := by decide +kernel
theorem s3 : stepS cfg0 (pd.tab 20) c3 (bd.tail.tail.tail) c2.1 (mkS c2.2.1 c2.2.2) = true := by decide +kernel
theorem s4 : stepS cfg0 (pd.tab 20) c4 (bd.tail.tail.tail.tail) c3.1 (mkS c3.2.1 c3.2.2) = true := by decide +kernel
theorem s5 : stepS cfg0 (pd.tab 20) c5 (bd.tail.tail.tail.tail.tail) c4.1 (mkS c4.2.1 c4.2.2) = true := by decide +kernel
theorem last_ok : (fin (cmpB cfg0 (bd.tail.tail.tail.tail.tail.tail) (pd.tab 20) c5.1 (mkS c5.2.1 c5.2.2))).allTrue = true := by decide +kernel
theorem ch_ok : chainY cfg0 (pd.tab 20) [.f (0 + 27, m0) c0, .s c1, .s c2, .s c3, .s c4, .s c5] bd (lawLo lawN.length) S1 = chainY cfg0 (pd.tab 20) [] (bd.tail.tail.tail.tail.tail.tail) c5.1 (mkS c5.2.1 c5.2.2) := st0.trans ((chainY_s s1).trans ((chainY_s s2).trans ((chainY_s s3).trans ((chainY_s s4).trans (chainY_s s5)))))
theorem law_true : (lawOut lawN.length (chainY cfg0 (pd.tab 20) [.f (0 + 27, m0) c0, .s c1, .s c2, .s c3, .s c4, .s c5] bd)).allTrue = true := by
  rw [lawOut_fin, ch_ok]
  exact last_ok
section
variable
      {P : Program} {w : World} {K : PySem.W.Frag} {mg : Str → Option Value} {base : Heap}
theorem ok_law (h : pd.Ok w K mg base) : ∃ fd, FunD K "law" "law" (defArgs lawS) (defBody lawS) (defScope lawS) [] [] (ga K "law") fd ∧ FnOk P w K mg base (L2.CX P w) 63 (ga K "law") fd ["script"] (spLaw K (pd.mkG K).T) := by
  have pg := Pd.pg_ok (P := P) pd_ok h (dr_ok h) 20
  obtain ⟨_, fd, FL⟩ := h.fn lawR law_in
  obtain ⟨gs, fs, FS⟩ := h.fn stR st_in
  refine ⟨fd, FL, ?_⟩
  obtain ⟨oc, od, dV, kV, doc, pm, an, cdv, ct, osl, e, lk, hcd0, _, _⟩ := FL.ex
  have lko : pd.mkL lawR = true → LkOk base mg (pd.mkG K) "law" cdv := fun z => by
    have y := Pd.lk_of h law_in FL z
    rw [e] at y
    exact y
  rw [e] at lk ⊢
  refine fn_of lk hcd0 sc_law (fun vs H Q E h => ?_) fun A outer s H vs Q E hr hsp => ?_
  · obtain ⟨a, ns, rfl, _⟩ := h
    rfl
  · have tk := takes_of (X := cxOf (L2.CX P w) P w K mg base ["script", "stream", "odd", "asks", "code", "odds", "least", "ask"] "law" (defScope lawS) (ga K "law") cdv A outer s H E) rfl rfl rfl rfl
    refine ⟨_, pss_cons (ps_set (i := 1) sc_law.nd rfl (Or.inl rfl) (pe_callS (sp_stream (k := 30) FS (h.bts _ law_bf.2.2)) (hr.mono (by omega)) rfl (gs rfl) FS.kp (Pd.binds_of (by decide +kernel) (by decide +kernel) (by decide +kernel) FS) (passAt tk) (pa_cons (pv 0) pa_nil)))
      (Pd.chainY_ok (cs := [.f (0 + 27, m0) c0, .s c1, .s c2, .s c3, .s c4, .s c5]) (b := (defBody lawS).tail) (mk := pd.mkL lawR) pg sc_law lko (hr.mono (by omega)) f_ok), law_pure (P := P) (w := w) (mg := mg) (base := base) (G := pd.mkG K) (N := ["script", "stream", "odd", "asks", "code", "odds", "least", "ask"]) (by decide) law_true hsp⟩
end
end K24

end

noncomputable section
set_option maxHeartbeats 0
namespace K24
open Sh PySem PySem.Spec PyProof.Rows L2 LamX He
abbrev R : PySem.W.OpenRow := PySem.W.OpenLaw.row PySem.Challenge.rw_carriednames_k24_flat_machine_refused
abbrev hk : PySem.W.Hook := hookX 4 pd.fa pd.fnl pd.tsl pd.tfl pd.ex
def ob (s : PySem.W.SharedT) : AlX := obsX 4 pd.fa pd.fnl pd.tsl pd.tfl pd.ex (HandSHeadRun.getT s)
theorem ob_eq (s : PySem.W.SharedT) : ob s = hk.obs s.abs := obsX_eq (HandSHeadRun.getT_eq s)
end K24

end

noncomputable section
set_option maxHeartbeats 2000000
namespace K24
open Sh PySem PySem.Spec PyProof.Rows L2 LamX He
theorem law_at {w : World} {h : Heap} {K : PySem.W.Frag} {mg : Str → Option Value} {f : Addr} (KX : K.In h) (G : h.Ns mainGlobals mg) (c : SaysX pd.fa pd.fnl pd.tsl pd.tfl pd.ex w h K) (hmg : mg "law" = some (.ref f)) :
    LawAtS PySem.Challenge.rw_carriednames_k24_flat_machine_refused w K (L2.CX PySem.Challenge.rw_carriednames_k24_flat_machine_refused.prog w) 63 63 "script" mg f h := by
  obtain ⟨fd, FL⟩ := c.t.d.defs (d := ⟨("law", none), "law", "law", defArgs lawS, defBody lawS, defScope lawS, [], []⟩) (List.mem_append_left _ (List.mem_map.mpr ⟨lawR, law_in, rfl⟩))
  have gl : mg "law" = some (.ref (ga K "law")) := glo_ok KX G (c.t.d.facts (List.mem_append_left _ (List.mem_map.mpr ⟨lawR, List.mem_filter.mpr ⟨law_in, rfl⟩, rfl⟩)))
  rw [hmg] at gl
  cases gl
  obtain ⟨c1, c2, c3⟩ := Pd.law_cs KX c
  obtain ⟨p1, p2, p3, _, _⟩ := Pd.defB_ok (p := pd) (r := lawR) (List.all_eq_true.mp (ba pd_ok).1 lawR law_in)
  have hB := FunD.bindsA (ps := ["script"]) FL fun kV doc pm an cdv ct us hl => bind_plain p1 rfl p2 p3 hl
  refine ⟨fd, pd.tfl.map (He.cT K), spLaw K (pd.mkG K).T, c1, c2, c3, fun s u => hB s [u] rfl, fun H a ns _ _ hT hS => ⟨a, ns, rfl, hS, Pd.tabs_of hT, fun H' => rfl⟩, fun base KB _ TB => ?_⟩
  obtain ⟨fd2, F2, ok⟩ := ok_law (Pd.ok_of pd pd_ok pd_cst KX G c base TB) (P := PySem.Challenge.rw_carriednames_k24_flat_machine_refused.prog)
  have e : fd2 = fd := Pd.fd_eq F2 FL
  rw [← e]
  exact ok
end K24

end
section
open PySem PySem.W PySem.Calls PyProof.Rows
set_option maxHeartbeats 0
theorem PySem.Challenge.cw_carriednames_k24_flat_machine_refused_holds : PySem.Challenge.rw_carriednames_k24_flat_machine_refused.Holds := by
  w_on; o_law; o_head K24.hk; (case hw => w_witness2)
  refine LamX.walk_ofTsE (l := PySem.Challenge.rw_carriednames_k24_flat_machine_refused) (n := 63) (k := 63) (x := "script") (CX := fun w => L2.CX PySem.Challenge.rw_carriednames_k24_flat_machine_refused.prog w) rfl (by decide) (by rfl) ⟨rfl, by decide, by decide⟩ ?F (fun w H s e s' ⟨_, _, _, _, _, _, _, _, _, _, _, _, z⟩ => z)
  intro w mg fa h Y G hmg
  obtain ⟨K, KX, c⟩ := Y
  exact ⟨K, KX, K24.law_at KX G c hmg⟩
end
