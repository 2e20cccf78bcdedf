import PyProof.Rows.All
import Wide.All
import OpenK.AllK
import Wide.FinOn
import HandS.ForMost
import HandS.Lambda
import HandS.AnyAll
import HandS.TupAny
import HandS.TupMul
import HandS.Style
import HandS.Deep
import HandS.FStr
import HandS.Wide
import HandS.Flow
import HandS.ForExc
import HandS.Zip
import KE.GoesMore
import HandS.TryOnly
import HandS.ExcOwn
import HandS.ExcCtx
import HandS.SuiteRaise
import HandS.RaiseFrom
import HandS.Defaults
import KE.KTupSum
import HandS.StrMore
import HandS.Comp
import HandS.GenList
import PyProof.TupleOfGen
import PyProof.Draws
import HandS.CallRecv
import PyProof.SumWalkG
import PyProof.FactsAll.subtypes_4
import HandS.DictEq
import HandS.Strs
import HandS.HeadHook4
import KE.KDictKeyed
import KE.KDictLaw
import KE.KEqDict
import HandS.Conv
import PyProof.ExcBaseAll.ValueError
import HandS.Head0
import HandS.Head1
import HandS.Head2
import HandS.HeadHook1
import HandS.HeadHook2
import HandS.HeadHook3
import HandS.HeadWalk
import HandS.EndTab
import HandS.Words
import PySem.Challenge.RW_emustack_k02_codes_that_come_back
set_option Elab.async false
set_option linter.all false
set_option maxRecDepth 100000
/-! Z1: values, the store, outcomes; the operators by values. -/
namespace Z
open PySem

/-- a lambda that captures nothing -/
structure LamI where
  qual : Str
  params : Arguments
  body : Expr
  scope : Scope
/-- a value: pure trees (tuples, lists that are never changed), references into the store, lambdas of the frame -/
inductive D where
  | non | bl (b : Bool) | int (i : Int) | str (x : Str)
  | tup (xs : List D) | lst (xs : List D)
  | ref (n : Nat) | lam (li : LamI)
  /-- the script: a list that is only read -/
  | scr (xs : List D)
  /-- a dict that is only read -/
  | dic (ks : List L2.Key) (vs : List D)
  deriving Inhabited
abbrev Key := L2.Key
/-- what stands in the store -/
inductive Ob where
  | dead
  | lst (xs : List D)
  | dct (kvs : List (Key × D))
  | ins (c : Nat) (fs : List (Nat × D))
  /-- a dict while it is walked -/
  | lck (kvs : List (Key × D))
  deriving Inhabited
abbrev Sto := List Ob
abbrev Env := List (Option D)
/-- how an evaluation ends: a value, an exception of the class c, or nothing is known -/
inductive R (α : Type) where
  | ok (a : α) (s : Sto)
  | exc (c : Nat) (s : Sto)
  | bad
def R.bind {α β : Type} : R α → (α → Sto → R β) → R β
  | .ok a s, f => f a s
  | .exc c s, _ => .exc c s
  | .bad, _ => .bad
@[simp] theorem R.bind_ok {α β : Type} (a : α) (s : Sto) (f : α → Sto → R β) : (R.ok a s).bind f = f a s := rfl
@[simp] theorem R.bind_exc {α β : Type} (c : Nat) (s : Sto) (f : α → Sto → R β) : (R.exc c s : R α).bind f = .exc c s := rfl
@[simp] theorem R.bind_bad {α β : Type} (f : α → Sto → R β) : (R.bad : R α).bind f = .bad := rfl

abbrev line : Nat := 16777216
abbrev ME := Env → Sto → R D
abbrev MB := Env → Sto → R Bool
abbrev MA := Env → Sto → R (List D)
/-- a statement's end -/
inductive Out where
  | nx (e : Env) (s : Sto)
  | rt (d : D) (s : Sto)
  | bk (e : Env) (s : Sto)
  | ct (e : Env) (s : Sto)
  | ex (c : Nat) (e : Env) (s : Sto)
  | bad
abbrev MS := Env → Sto → Out

/-! ### texts -/
def seq (x y : Str) : Bool := x.cps.toList == y.cps.toList
theorem seq_iff {x y : Str} : seq x y = true ↔ x = y := by
  unfold seq
  rw [beq_iff_eq]
  exact ⟨fun h => by
    obtain ⟨a⟩ := x
    obtain ⟨b⟩ := y
    exact congrArg Str.mk (Array.ext' h), fun h => by rw [h]⟩
def mkS (l : List Nat) : Str := ⟨l.toArray⟩
@[simp] theorem mkS_cps (l : List Nat) : (mkS l).cps.toList = l := by simp [mkS]

/-! ### reading through the store -/
def atS (n : Nat) (s : Sto) : Option (List D) := match s[n]? with
  | some (.lst xs) => some xs
  | _ => none
/-- the items of a list or tuple -/
def seqOf (d : D) (s : Sto) : Option (List D) := match d with
  | .tup xs => some xs
  | .scr xs => some xs
  | .lst xs => some xs
  | .ref n => atS n s
  | _ => none
def lstOf (d : D) (s : Sto) : Option (List D) := match d with
  | .lst xs => some xs
  | .ref n => atS n s
  | _ => none
/-- truth -/
def truth (d : D) (s : Sto) : Option Bool := match d with
  | .non => some false
  | .bl b => some b
  | .int i => some (i != 0)
  | .str x => if x.length ≤ line then some (!x.cps.toList.isEmpty) else none
  | .tup xs => some (!xs.isEmpty)
  | .lst xs => some (!xs.isEmpty)
  | .ref n => (match s[n]? with | some (.lst xs) => some (!xs.isEmpty) | some (.dct kvs) => some (!kvs.isEmpty) | _ => none)
  | .lam _ => none
  | .scr xs => some (!xs.isEmpty)
  | .dic _ _ => none
def optAll {α β : Type} (f : α → Option β) : List α → Option (List β)
  | [] => some []
  | a :: r => match f a, optAll f r with
    | some b, some bs => some (b :: bs)
    | _, _ => none
def strB (x : Str) : Bool := x.cps.toList.all fun c => decide (c < 1114112)
/-- the data of a value, lists of the store read -/
def pyOf (s : Sto) : Nat → D → Option PyData
  | 0, _ => none
  | k + 1, d => match d with
    | .non => some .none
    | .bl b => some (.bool b)
    | .int i => some (.int i)
    | .str x => if strB x then some (.str x) else none
    | .tup xs => (optAll (pyOf s k) xs).map .tuple
    | .lst xs => (optAll (pyOf s k) xs).map .list
    | .ref n => (match atS n s with | some xs => (optAll (pyOf s k) xs).map .list | none => none)
    | .lam _ => none
    | .scr _ => none
    | .dic _ _ => none
/-- does a value name nothing of the store -/
def pure? : Nat → D → Bool
  | 0, _ => false
  | k + 1, d => match d with
    | .tup xs => xs.all (pure? k)
    | .lst xs => xs.all (pure? k)
    | .ref _ => false
    | .lam _ => false
    | .scr xs => xs.all (pure? k)
    | .dic _ vs => vs.all (pure? k)
    | _ => true

/-- no lambda in it -/
def nolam : Nat → D → Bool
  | 0, _ => false
  | k + 1, d => match d with
    | .tup xs => xs.all (nolam k)
    | .lst xs => xs.all (nolam k)
    | .scr xs => xs.all (nolam k)
    | .dic _ vs => vs.all (nolam k)
    | .lam _ => false
    | _ => true
def nolamO : Ob → Bool
  | .dead => true
  | .lst xs => xs.all (nolam 12)
  | .dct kvs => kvs.all fun q => nolam 12 q.2
  | .lck kvs => kvs.all fun q => nolam 12 q.2
  | .ins _ fs => fs.all fun q => nolam 12 q.2

/-! ### operators by values -/
/-- no exception comes of these -/
abbrev O1 := Option (D × Sto)
abbrev B2 := D → D → Sto → O1
abbrev B1 := D → Sto → O1
/-- a new list: in the store, or never changed -/
def mkL (m : Bool) (xs : List D) (s : Sto) : O1 := if xs.length ≤ line then (if m then some ((.ref s.length), (s ++ [.lst xs])) else some ((.lst xs), s)) else none
def mkT (xs : List D) (s : Sto) : O1 := if xs.length ≤ line then some ((.tup xs), s) else none
def big (i : Int) : Bool := decide (-(2 ^ 64) < i ∧ i < 2 ^ 64)
def opAdd (m : Bool) : B2 := fun x y s => match x, y with
  | .int i, .int j => some ((.int (i + j)), s)
  | .str i, .str j => if i.length + j.length ≤ line then some ((.str (i ++ j)), s) else none
  | .tup xs, .tup ys => mkT (xs ++ ys) s
  | x, y => match lstOf x s, lstOf y s with
    | some xs, some ys => mkL m (xs ++ ys) s
    | _, _ => none
def opSub : B2 := fun x y s => match x, y with
  | .int i, .int j => some ((.int (i - j)), s)
  | _, _ => none
def rep (xs : List D) (k : Int) : List D := (List.replicate k.toNat xs).flatten
def opMul (m : Bool) : B2 := fun x y s => match x, y with
  | .int i, .int j => if big i || big j then some ((.int (i * j)), s) else none
  | .tup xs, .int k => if decide (2 ≤ k ∧ k ≤ 1000) && decide (xs.length ≤ 1000) && !xs.isEmpty then mkT (rep xs k) s else none
  | x, .int k => (match lstOf x s with
    | some xs => if decide (-(2 ^ 63) ≤ k ∧ k < 2 ^ 63) && decide (xs.length * k.toNat ≤ line) then mkL m (rep xs k) s else none
    | none => none)
  | _, _ => none
def opFdiv : B2 := fun x y s => match x, y with
  | .int i, .int j => if 0 < j ∧ j < 1073741824 then some ((.int (i / j)), s) else none
  | _, _ => none
def opMod : B2 := fun x y s => match x, y with
  | .int i, .int j => if 0 < j then some ((.int (i % j)), s) else none
  | _, _ => none
def opPow : B2 := fun x y s => match x, y with
  | .int i, .int j => if 0 ≤ j ∧ j ≤ 1000000 ∧ i.natAbs < 2 ^ 64 then some ((.int (i ^ j.toNat)), s) else none
  | _, _ => none
def opBin (m : Bool) : Operator → B2
  | .Add => opAdd m
  | .Sub => opSub
  | .Mult => opMul m
  | .FloorDiv => opFdiv
  | .Mod => opMod
  | .Pow => opPow
  | _ => fun _ _ _ => none
def unNeg : B1 := fun x s => match x with
  | .int i => some ((.int (-i)), s)
  | _ => none
/-! comparisons -/
def opEq (neg : Bool) : B2 := fun x y s => match pyOf s 12 x, pyOf s 12 y with
  | some a, some b => some ((.bl (xor neg (PyData.eqv a b))), s)
  | _, _ => none
def lexB (lt : PyData → PyData → Option Bool) : List PyData → List PyData → Option Bool
  | [], [] => some false
  | [], _ :: _ => some true
  | _ :: _, [] => some false
  | x :: xs, y :: ys => if PyData.eqv x y then lexB lt xs ys else lt x y
def opCmp (f : Int → Int → Bool) : B2 := fun x y s => match x, y with
  | .int i, .int j => some ((.bl (f i j)), s)
  | _, _ => none
def isFlat : D → Bool
  | .non | .bl _ | .int _ | .str _ => true
  | _ => false
/-- x in y -/
def opIn (neg : Bool) : B2 := fun x y s => match y with
  | .str z => (match x with
    | .str w => (match w.cps.toList with
      | [c] => some ((.bl (xor neg (decide (c ∈ z.cps.toList)))), s)
      | _ => none)
    | _ => none)
  | y => match pyOf s 12 x, pyOf s 12 y with
    | some a, some (.list bs) => some ((.bl (xor neg (bs.any fun z => PyData.eqv z a))), s)
    | some a, some (.tuple bs) => some ((.bl (xor neg (bs.any fun z => PyData.eqv z a))), s)
    | _, _ => none
def isNon : D → Bool
  | .non => true
  | _ => false
def opIs (neg : Bool) : B2 := fun x y s => match y with
  | .non => some ((.bl (xor neg (isNon x))), s)
  | _ => none
def opC : CmpOp → B2
  | .Eq => opEq false
  | .NotEq => opEq true
  | .Lt => opCmp fun i j => decide (i < j)
  | .LtE => opCmp fun i j => decide (i ≤ j)
  | .Gt => opCmp fun i j => decide (j < i)
  | .GtE => opCmp fun i j => decide (j ≤ i)
  | .Is => opIs false
  | .IsNot => opIs true
  | .In => opIn false
  | .NotIn => opIn true
/-! subscripts -/
def opIx : B2 := fun x y s => match y with
  | .int i => (match x with
    | .str z => if z.length ≤ line then (match L2.atI z.cps.toList i with | some c => some ((.str ⟨#[c]⟩), s) | none => none) else none
    | x => match seqOf x s with
      | some xs => (match L2.atI xs i with | some v => some (v, s) | none => none)
      | none => none)
  | _ => none
def cutD {α : Type} (xs : List α) (lo hi : Option Int) : List α := (xs.drop (HT.sIx xs.length 0 lo)).take (HT.sIx xs.length xs.length hi - HT.sIx xs.length 0 lo)
def opSl (m : Bool) (x : D) (lo hi : Option Int) (s : Sto) : O1 := match x with
  | .str z => if z.length ≤ line then some ((.str (mkS (cutD z.cps.toList lo hi))), s) else none
  | .tup xs => some ((.tup (cutD xs lo hi)), s)
  | .scr xs => mkL m (cutD xs lo hi) s
  | x => match lstOf x s with
    | some xs => mkL m (cutD xs lo hi) s
    | none => none
/-- x[::-1] -/
def opRev (m : Bool) : B1 := fun x s => match x with
  | .tup xs => some ((.tup xs.reverse), s)
  | x => match lstOf x s with
    | some xs => mkL m xs.reverse s
    | none => none
end Z

set_option Elab.async false
set_option linter.all false
set_option maxRecDepth 100000
/-! Z2: how values stand in the abstract heap. -/
namespace Z
open PySem PySem.Spec PyProof.Rows L2
/-- what is known for good: things that never change; where the store's things stand -/
structure Wd where
  fz : Hp
  io : List Addr
  /-- the cells of the frame whose lambdas are held -/
  lf : Option (List (Str × Addr))
/-- the function object of a lambda -/
def LamO (f : Addr) (li : LamI) (cl : List (Str × Addr)) (c' : Addr) (pm ctv : Value) : HO := .ext fun h => h.get? f = some (PySem.W.kla_obj "<lambda>" li.qual li.params li.body li.scope cl pm c' ctv)
mutual
def RelD (K : PySem.W.Frag) (W : Wd) : D → V → Prop
  | .non, v => v = .non
  | .bl b, v => v = .bl b
  | .int i, v => v = .int i
  | .str x, v => v = .str x
  | .tup ds, v => ∃ a vs, v = .ref a ∧ SqT K W.fz a vs ∧ RelDs K W ds vs
  | .lst ds, v => ∃ a vs, v = .ref a ∧ W.fz a = some (.lst vs) ∧ RelDs K W ds vs
  | .scr ds, v => ∃ a vs, v = .ref a ∧ SqL K W.fz a vs ∧ RelDs K W ds vs
  | .ref n, v => ∃ a, v = .ref a ∧ W.io[n]? = some a
  | .lam li, v => ∃ f cl c' pm ctv, v = .ref f ∧ W.fz f = some (LamO f li cl c' pm ctv) ∧ W.fz c' = some (LamX.CodeO c' li.qual) ∧ ∀ cells, W.lf = some cells → cl = cloFrom cells li.scope.names []
  | .dic ks ds, v => ∃ a o kws, v = .ref a ∧ W.fz a = some (.frz o (.dK kws)) ∧ kws.map Prod.fst = ks ∧ RelDs K W ds (kws.map Prod.snd)
def RelDs (K : PySem.W.Frag) (W : Wd) : List D → List V → Prop
  | [], vs => vs = []
  | d :: ds, vs => ∃ v r, vs = v :: r ∧ RelD K W d v ∧ RelDs K W ds r
end
/-- more is known -/
structure Wd.le (W W' : Wd) : Prop where
  fz : ∀ a o, W.fz a = some o → W'.fz a = some o
  io : ∃ l, W'.io = W.io ++ l
  lf : W'.lf = W.lf
theorem Wd.le.refl (W : Wd) : W.le W := ⟨fun _ _ h => h, ⟨[], by simp⟩, rfl⟩
theorem Wd.le.trans {W W1 W2 : Wd} (a : W.le W1) (b : W1.le W2) : W.le W2 := by
  refine ⟨fun x o h => b.fz x o (a.fz x o h), ?_, b.lf.trans a.lf⟩
  obtain ⟨l, e⟩ := a.io
  obtain ⟨m, f⟩ := b.io
  exact ⟨l ++ m, by rw [f, e, List.append_assoc]⟩
theorem Wd.le.at {W W' : Wd} (h : W.le W') {n : Nat} {a : Addr} (e : W.io[n]? = some a) : W'.io[n]? = some a := by
  obtain ⟨l, f⟩ := h.io
  rw [f, List.getElem?_append_left (List.getElem?_eq_some_iff.mp e).1]
  exact e
theorem seqT_mono {K : PySem.W.Frag} {H H' : Hp} {a : Addr} {xs : List V} (e : ∀ a o, H a = some o → H' a = some o) (h : SqT K H a xs) : SqT K H' a xs := by
  rcases h with (h | ⟨o, h⟩) | h
  · exact .inl (.inl (e _ _ h))
  · exact .inl (.inr ⟨o, e _ _ h⟩)
  · exact .inr h
theorem seqL_mono {K : PySem.W.Frag} {H H' : Hp} {a : Addr} {xs : List V} (e : ∀ a o, H a = some o → H' a = some o) (h : SqL K H a xs) : SqL K H' a xs := by
  rcases h with (h | ⟨o, h⟩) | h
  · exact .inl (.inl (e _ _ h))
  · exact .inl (.inr ⟨o, e _ _ h⟩)
  · exact .inr h
theorem rd_mono {H H' : Hp} {a : Addr} {o : HO} (e : ∀ a o, H a = some o → H' a = some o) (h : Rd H a o) : Rd H' a o := by
  rcases h with h | ⟨u, h⟩
  · exact .inl (e _ _ h)
  · exact .inr ⟨u, e _ _ h⟩
mutual
theorem RelD.mono {K : PySem.W.Frag} {W W' : Wd} (l : W.le W') : ∀ {d : D} {v : V}, RelD K W d v → RelD K W' d v
  | .non, _, h => h
  | .bl _, _, h => h
  | .int _, _, h => h
  | .str _, _, h => h
  | .tup ds, v, h => by
    unfold RelD at h ⊢
    obtain ⟨a, vs, e, s, r⟩ := h
    exact ⟨a, vs, e, seqT_mono l.fz s, RelDs.mono l r⟩
  | .lst ds, v, h => by
    unfold RelD at h ⊢
    obtain ⟨a, vs, e, s, r⟩ := h
    exact ⟨a, vs, e, l.fz _ _ s, RelDs.mono l r⟩
  | .scr ds, v, h => by
    unfold RelD at h ⊢
    obtain ⟨a, vs, e, s, r⟩ := h
    exact ⟨a, vs, e, seqL_mono l.fz s, RelDs.mono l r⟩
  | .ref n, v, h => by
    unfold RelD at h ⊢
    obtain ⟨a, e, i⟩ := h
    exact ⟨a, e, l.at i⟩
  | .lam li, v, h => by
    unfold RelD at h ⊢
    obtain ⟨f, cl, c', pm, ctv, e, a, b, c⟩ := h
    exact ⟨f, cl, c', pm, ctv, e, l.fz _ _ a, l.fz _ _ b, fun cells q => c cells (by rw [← l.lf]; exact q)⟩
  | .dic ks ds, v, h => by
    unfold RelD at h ⊢
    obtain ⟨a, o, kws, e, s, k, r⟩ := h
    exact ⟨a, o, kws, e, l.fz _ _ s, k, RelDs.mono l r⟩
theorem RelDs.mono {K : PySem.W.Frag} {W W' : Wd} (l : W.le W') : ∀ {ds : List D} {vs : List V}, RelDs K W ds vs → RelDs K W' ds vs
  | [], _, h => h
  | d :: ds, vs, h => by
    unfold RelDs at h ⊢
    obtain ⟨v, r, e, h1, h2⟩ := h
    exact ⟨v, r, e, RelD.mono l h1, RelDs.mono l h2⟩
end
theorem relDs_nil {K : PySem.W.Frag} {W : Wd} : RelDs K W [] [] := by unfold RelDs; rfl
theorem relDs_cons {K : PySem.W.Frag} {W : Wd} {d : D} {ds : List D} {v : V} {vs : List V} (h : RelD K W d v) (t : RelDs K W ds vs) : RelDs K W (d :: ds) (v :: vs) := by
  unfold RelDs
  exact ⟨v, vs, rfl, h, t⟩
theorem relDs_iff {K : PySem.W.Frag} {W : Wd} : ∀ {ds : List D} {vs : List V}, RelDs K W ds vs ↔ Paired (RelD K W) ds vs
  | [], vs => by
    unfold RelDs
    exact ⟨fun h => by rw [h]; exact .nil, fun h => by cases h; rfl⟩
  | d :: ds, vs => by
    unfold RelDs
    exact ⟨fun ⟨v, r, e, h1, h2⟩ => by rw [e]; exact .cons h1 (relDs_iff.mp h2), fun h => by
      cases h with
      | cons h1 h2 => exact ⟨_, _, rfl, h1, relDs_iff.mpr h2⟩⟩
theorem RelDs.length {K : PySem.W.Frag} {W : Wd} {ds : List D} {vs : List V} (h : RelDs K W ds vs) : ds.length = vs.length := Paired.length (relDs_iff.mp h)
theorem RelDs.get {K : PySem.W.Frag} {W : Wd} : ∀ {ds : List D} {vs : List V} {i : Nat} {d : D}, RelDs K W ds vs → ds[i]? = some d → ∃ v, vs[i]? = some v ∧ RelD K W d v
  | [], _, _, _, _, e => by simp at e
  | d :: ds, vs, 0, x, h, e => by
    unfold RelDs at h
    obtain ⟨v, r, rfl, h1, h2⟩ := h
    simp only [List.getElem?_cons_zero, Option.some.injEq] at e
    subst e
    exact ⟨v, rfl, h1⟩
  | d :: ds, vs, i + 1, x, h, e => by
    unfold RelDs at h
    obtain ⟨v, r, rfl, h1, h2⟩ := h
    simp only [List.getElem?_cons_succ] at e
    obtain ⟨u, a, b⟩ := RelDs.get h2 e
    exact ⟨u, by simpa using a, b⟩
theorem RelDs.getV {K : PySem.W.Frag} {W : Wd} {ds : List D} {vs : List V} {i : Nat} {v : V} (h : RelDs K W ds vs) (e : vs[i]? = some v) : ∃ d, ds[i]? = some d ∧ RelD K W d v := by
  have hi : i < ds.length := by rw [h.length]; exact (List.getElem?_eq_some_iff.mp e).1
  obtain ⟨u, a, b⟩ := h.get (List.getElem?_eq_getElem hi)
  rw [e] at a
  cases a
  exact ⟨_, List.getElem?_eq_getElem hi, b⟩
theorem RelDs.append {K : PySem.W.Frag} {W : Wd} : ∀ {ds es : List D} {vs us : List V}, RelDs K W ds vs → RelDs K W es us → RelDs K W (ds ++ es) (vs ++ us)
  | [], _, vs, _, h, h2 => by
    unfold RelDs at h
    subst h
    exact h2
  | d :: ds, es, vs, us, h, h2 => by
    unfold RelDs at h
    obtain ⟨v, r, rfl, h1, h3⟩ := h
    exact relDs_cons h1 (h3.append h2)
theorem RelDs.take {K : PySem.W.Frag} {W : Wd} : ∀ {ds : List D} {vs : List V} (n : Nat), RelDs K W ds vs → RelDs K W (ds.take n) (vs.take n)
  | _, _, 0, _ => by simp only [List.take_zero]; exact relDs_nil
  | [], vs, n + 1, h => by
    unfold RelDs at h
    subst h
    exact relDs_nil
  | d :: ds, vs, n + 1, h => by
    unfold RelDs at h
    obtain ⟨v, r, rfl, h1, h3⟩ := h
    exact relDs_cons h1 (h3.take n)
theorem RelDs.drop {K : PySem.W.Frag} {W : Wd} : ∀ {ds : List D} {vs : List V} (n : Nat), RelDs K W ds vs → RelDs K W (ds.drop n) (vs.drop n)
  | _, _, 0, h => h
  | [], vs, n + 1, h => by
    unfold RelDs at h
    subst h
    exact relDs_nil
  | d :: ds, vs, n + 1, h => by
    unfold RelDs at h
    obtain ⟨v, r, rfl, h1, h3⟩ := h
    exact h3.drop n
theorem RelDs.set {K : PySem.W.Frag} {W : Wd} {d : D} {v : V} (hd : RelD K W d v) : ∀ {ds : List D} {vs : List V} (n : Nat), RelDs K W ds vs → RelDs K W (ds.set n d) (vs.set n v)
  | [], vs, n, h => by
    unfold RelDs at h
    subst h
    exact relDs_nil
  | _ :: ds, vs, 0, h => by
    unfold RelDs at h
    obtain ⟨u, r, rfl, h1, h3⟩ := h
    exact relDs_cons hd h3
  | _ :: ds, vs, n + 1, h => by
    unfold RelDs at h
    obtain ⟨u, r, rfl, h1, h3⟩ := h
    exact relDs_cons h1 (RelDs.set hd n h3)
theorem RelDs.reverse {K : PySem.W.Frag} {W : Wd} : ∀ {ds : List D} {vs : List V}, RelDs K W ds vs → RelDs K W ds.reverse vs.reverse
  | [], vs, h => by
    unfold RelDs at h
    subst h
    exact relDs_nil
  | d :: ds, vs, h => by
    unfold RelDs at h
    obtain ⟨v, r, rfl, h1, h3⟩ := h
    rw [List.reverse_cons, List.reverse_cons]
    exact (RelDs.reverse h3).append (relDs_cons h1 relDs_nil)

/-- the names of fields and where the classes stand -/
structure Pl where
  K : PySem.W.Frag
  /-- the tables of code objects: of defs with lambdas (their name), of defs with generator expressions -/
  tl : List (Addr × Str)
  tg : List Addr
  xa : Nat → Addr
  ca : Nat → Addr
  fn : Nat → Str
  /-- whose lambdas may be held -/
  lfc : Option (List (Str × Addr)) → Prop
/-- a thing of the store stands at a -/
def RepO (p : Pl) (W : Wd) (H : Hp) (a : Addr) : Ob → Prop
  | .dead => True
  | .lst ds => W.fz a = none ∧ ∃ vs, H a = some (.lst vs) ∧ RelDs p.K W ds vs
  | .dct kvs => W.fz a = none ∧ ∃ kws, H a = some (.dK kws) ∧ Paired (fun (x : Key × D) (y : L2.Key × V) => x.1 = y.1 ∧ RelD p.K W x.2 y.2) kvs kws
  | .lck kvs => W.fz a = none ∧ ∃ o kws, H a = some (.frz o (.dK kws)) ∧ Paired (fun (x : Key × D) (y : L2.Key × V) => x.1 = y.1 ∧ RelD p.K W x.2 y.2) kvs kws
  | .ins c fs => W.fz a = none ∧ ∃ dx kws, H a = some (.ins (p.ca c) dx kws) ∧ Paired (fun (x : Nat × D) (y : Str × V) => p.fn x.1 = y.1 ∧ RelD p.K W x.2 y.2) fs kws
def isSt : HO → Bool
  | .lst _ | .dK _ | .dT _ | .ins _ _ _ | .frz _ _ => true
  | _ => false
structure TabI (p : Pl) (H : Hp) : Prop where
  tl : LamX.Tabs p.tl H
  tg : ∀ P ∈ p.tg, GxR.TabG H P
theorem TabI.ext {p : Pl} {H H' : Hp} (t : TabI p H) (e : ∀ b o, H b = some o → H' b = some o) : TabI p H' := ⟨t.tl.ext e, fun P hP => by
  obtain ⟨ps, h1, h2⟩ := t.tg P hP
  exact ⟨ps, e _ _ h1, h2⟩⟩
theorem TabI.put {p : Pl} {H : Hp} {a : Addr} {o u : HO} (t : TabI p H) (h : H a = some o) (hs : isSt o = true) : TabI p (upd H a u) := by
  refine ⟨fun q hq => ?_, fun P hP => ?_⟩
  · obtain ⟨ps, h1, h2, h3⟩ := t.tl q hq
    refine ⟨ps, by rw [upd_ne (ne_of h1 h (by rintro rfl; cases hs))]; exact h1, h2, fun pos cv hc => ?_⟩
    obtain ⟨c, e1, e2⟩ := h3 pos cv hc
    exact ⟨c, e1, by rw [upd_ne (ne_of e2 h (by rintro rfl; cases hs))]; exact e2⟩
  · obtain ⟨ps, h1, h2⟩ := t.tg P hP
    exact ⟨ps, by rw [upd_ne (ne_of h1 h (by rintro rfl; cases hs))]; exact h1, h2⟩
structure Rep (p : Pl) (W : Wd) (s : Sto) (H : Hp) : Prop where
  tab : TabI p H
  fz : ∀ a o, W.fz a = some o → H a = some o
  nt : ∀ a ps, W.fz a ≠ some (.tbl ps)
  len : W.io.length = s.length
  nd : W.io.Nodup
  tr : ∀ b ∈ W.io, H b ≠ none
  obs : ∀ (n : Nat) (ob : Ob) (a : Addr), s[n]? = some ob → W.io[n]? = some a → RepO p W H a ob
/-- the heap but for the store's things and tables is kept; what is newly known for good was not there, or was the store's -/
structure Fr (W W' : Wd) (H H' : Hp) : Prop where
  keep : ∀ b o, H b = some o → b ∉ W.io → (∀ ps, o ≠ .tbl ps) → H' b = some o
  sm : ∀ b, H b ≠ none → H' b ≠ none
  new : ∀ a, W'.fz a ≠ none → W.fz a ≠ none ∨ H a = none ∨ a ∈ W.io ∨ ∃ o, H a = some o ∧ isSt o = false
  io : ∀ a, a ∈ W'.io → a ∈ W.io ∨ H a = none
theorem Fr.refl (W : Wd) (H : Hp) : Fr W W H H := ⟨fun _ _ h _ _ => h, fun _ h => h, fun _ h => .inl h, fun _ h => .inl h⟩
theorem Fr.trans {W W1 W2 : Wd} {H H1 H2 : Hp} (a : Fr W W1 H H1) (b : Fr W1 W2 H1 H2) : Fr W W2 H H2 := by
  have back : ∀ x, H1 x = none → H x = none := fun x q => by
    cases e : H x with
    | none => rfl
    | some o => exact absurd q (a.sm x (by rw [e]; simp))
  have nin : ∀ x o, H x = some o → x ∉ W.io → x ∉ W1.io := fun x o e hx hm => by
    rcases a.io x hm with q | q
    · exact hx q
    · rw [e] at q; cases q
  refine ⟨fun x o e hx ht => b.keep x o (a.keep x o e hx ht) (nin x o e hx) ht, fun x h => b.sm x (a.sm x h), fun x h => ?_, fun x h => ?_⟩
  · rcases b.new x h with q | q | q | ⟨o1, q, hs⟩
    · exact a.new x q
    · exact .inr (.inl (back x q))
    · rcases a.io x q with z | z
      · exact .inr (.inr (.inl z))
      · exact .inr (.inl z)
    · cases e : H x with
      | none => exact .inr (.inl rfl)
      | some o =>
        by_cases hi : x ∈ W.io
        · exact .inr (.inr (.inl hi))
        · cases ho : isSt o with
          | false => exact .inr (.inr (.inr ⟨o, rfl, ho⟩))
          | true =>
            have e2 := a.keep x o e hi (by rintro ps rfl; cases ho)
            rw [e2] at q
            cases q
            rw [ho] at hs
            cases hs
  · rcases b.io x h with q | q
    · exact a.io x q
    · exact .inr (back x q)
/-- the state of a body: the names' values, the store, the heap -/
structure RelE (p : Pl) (W : Wd) (e : Env) (σ : L2.St) : Prop where
  len : e.length = σ.length
  at_ : ∀ (i : Nat) (d : D), e[i]? = some (some d) → ∃ v, σ[i]? = some (some v) ∧ RelD p.K W d v
  lf : p.lfc W.lf
theorem RelE.mono {p : Pl} {W W' : Wd} {e : Env} {σ : L2.St} (l : W.le W') (h : RelE p W e σ) : RelE p W' e σ := ⟨h.len, fun i d q => by
  obtain ⟨v, a, b⟩ := h.at_ i d q
  exact ⟨v, a, b.mono l⟩, by rw [l.lf]; exact h.lf⟩
theorem RelE.set {p : Pl} {W : Wd} {e : Env} {σ : L2.St} {d : D} {v : V} (i : Nat) (h : RelE p W e σ) (hd : RelD p.K W d v) : RelE p W (e.set i (some d)) (σ.set i (some v)) := by
  refine ⟨by rw [List.length_set, List.length_set, h.len], fun j x q => ?_, h.lf⟩
  by_cases hj : j = i
  · subst hj
    have hl : j < e.length := by
      have := (List.getElem?_eq_some_iff.mp q).1
      rwa [List.length_set] at this
    rw [List.getElem?_set_self hl] at q
    cases q
    exact ⟨v, by rw [List.getElem?_set_self (by rw [← h.len]; exact hl)], hd⟩
  · rw [List.getElem?_set_ne (Ne.symm hj)] at q
    obtain ⟨u, a, b⟩ := h.at_ j x q
    exact ⟨u, by rw [List.getElem?_set_ne (Ne.symm hj)]; exact a, b⟩
/-! ### the state grows -/
section
variable {p : Pl} {W : Wd} {s : Sto} {H : Hp}
/-- a new thing that never changes -/
theorem Rep.fresh {a : Addr} {o : HO} (r : Rep p W s H) (n : H a = none) (ht : ∀ ps, o ≠ .tbl ps) : ∃ W', W.le W' ∧ Fr W W' H (upd H a o) ∧ Rep p W' s (upd H a o) ∧ W'.fz a = some o := by
  have nf : W.fz a = none := by
    cases e : W.fz a with
    | none => rfl
    | some x => rw [r.fz a x e] at n; cases n
  have le : W.le ⟨upd W.fz a o, W.io, W.lf⟩ := ⟨fun b x e => by
    show upd W.fz a o b = some x
    rw [upd_ne (ne_of_none e nf)]; exact e, ⟨[], by simp⟩, rfl⟩
  refine ⟨⟨upd W.fz a o, W.io, W.lf⟩, le, ⟨fun b x e _ _ => by rw [upd_ne (ne_of_none e n)]; exact e, fun b h => ?_, fun b h => ?_, fun b h => .inl h⟩, ⟨r.tab.ext fun b x e => by rw [upd_ne (ne_of_none e n)]; exact e, fun b x e => ?_, fun b ps e => ?_, r.len, r.nd, fun b hb => ?_, fun k ob b e1 e2 => ?_⟩, upd_same⟩
  · by_cases hb : b = a
    · rw [hb, upd_same]; simp
    · rw [upd_ne hb]; exact h
  · by_cases hb : b = a
    · rw [hb]; exact .inr (.inl n)
    · exact .inl (by
        have h' : upd W.fz a o b ≠ none := h
        rwa [upd_ne hb] at h')
  · have e' : upd W.fz a o b = some x := e
    by_cases hb : b = a
    · rw [hb, upd_same] at e' ⊢; exact e'
    · rw [upd_ne hb] at e' ⊢; exact r.fz b x e'
  · have e' : upd W.fz a o b = some (.tbl ps) := e
    by_cases hb : b = a
    · rw [hb, upd_same] at e'; exact ht ps (Option.some.inj e')
    · rw [upd_ne hb] at e'; exact r.nt b ps e'
  · by_cases h : b = a
    · rw [h, upd_same]; simp
    · rw [upd_ne h]; exact r.tr b hb
  · have q := r.obs k ob b e1 e2
    cases ob with
    | dead => trivial
    | lst ds =>
      obtain ⟨z, vs, h1, h2⟩ := q
      have hb := ne_of_none h1 n
      exact ⟨by show upd W.fz a o b = none; rw [upd_ne hb]; exact z, vs, by rw [upd_ne hb]; exact h1, h2.mono le⟩
    | dct kvs =>
      obtain ⟨z, vs, h1, h2⟩ := q
      have hb := ne_of_none h1 n
      exact ⟨by show upd W.fz a o b = none; rw [upd_ne hb]; exact z, vs, by rw [upd_ne hb]; exact h1, Paired.mapP h2 fun x y z => ⟨z.1, z.2.mono le⟩⟩
    | lck kvs =>
      obtain ⟨z, od, vs, h1, h2⟩ := q
      have hb := ne_of_none h1 n
      exact ⟨by show upd W.fz a o b = none; rw [upd_ne hb]; exact z, od, vs, by rw [upd_ne hb]; exact h1, Paired.mapP h2 fun x y z => ⟨z.1, z.2.mono le⟩⟩
    | ins c fs =>
      obtain ⟨z, dx, vs, h1, h2⟩ := q
      have hb := ne_of_none h1 n
      exact ⟨by show upd W.fz a o b = none; rw [upd_ne hb]; exact z, dx, vs, by rw [upd_ne hb]; exact h1, Paired.mapP h2 fun x y z => ⟨z.1, z.2.mono le⟩⟩
/-- a thing of the store, seen from a later state in which its place is as it was -/
theorem RepO.keep {W' : Wd} {H' : Hp} {b : Addr} {ob : Ob} (l : W.le W') (hH : H' b = H b) (hz : W.fz b = none → W'.fz b = none) (q : RepO p W H b ob) : RepO p W' H' b ob := by
  cases ob with
  | dead => trivial
  | lst ds =>
    obtain ⟨z, vs, h1, h2⟩ := q
    exact ⟨hz z, vs, hH.trans h1, h2.mono l⟩
  | dct kvs =>
    obtain ⟨z, vs, h1, h2⟩ := q
    exact ⟨hz z, vs, hH.trans h1, Paired.mapP h2 fun x y z => ⟨z.1, z.2.mono l⟩⟩
  | lck kvs =>
    obtain ⟨z, dx, vs, h1, h2⟩ := q
    exact ⟨hz z, dx, vs, hH.trans h1, Paired.mapP h2 fun x y z => ⟨z.1, z.2.mono l⟩⟩
  | ins c fs =>
    obtain ⟨z, dx, vs, h1, h2⟩ := q
    exact ⟨hz z, dx, vs, hH.trans h1, Paired.mapP h2 fun x y z => ⟨z.1, z.2.mono l⟩⟩
/-- a new thing of the store -/
theorem Rep.push {a : Addr} {o : HO} {ob : Ob} (r : Rep p W s H) (n : H a = none) (hb : ∀ W', W.le W' → W'.fz = W.fz → RepO p W' (upd H a o) a ob) :
    W.le ⟨W.fz, W.io ++ [a], W.lf⟩ ∧ Fr W ⟨W.fz, W.io ++ [a], W.lf⟩ H (upd H a o) ∧ Rep p ⟨W.fz, W.io ++ [a], W.lf⟩ (s ++ [ob]) (upd H a o) ∧ (⟨W.fz, W.io ++ [a], W.lf⟩ : Wd).io[s.length]? = some a := by
  have le : W.le ⟨W.fz, W.io ++ [a], W.lf⟩ := ⟨fun _ _ e => e, ⟨[a], rfl⟩, rfl⟩
  have nin : a ∉ W.io := fun h => r.tr a h n
  have nof : W.fz a = none := by
    cases e : W.fz a with
    | none => rfl
    | some x => rw [r.fz a x e] at n; cases n
  refine ⟨le, ⟨fun b x e _ _ => by rw [upd_ne (ne_of_none e n)]; exact e, fun b h => ?_, fun b h => .inl h, fun b h => ?_⟩, ⟨r.tab.ext fun b x e => by rw [upd_ne (ne_of_none e n)]; exact e, fun b x e => ?_, r.nt, ?_, ?_, fun b h => ?_, fun k ob' b e1 e2 => ?_⟩, ?_⟩
  · by_cases hb : b = a
    · rw [hb, upd_same]; simp
    · rw [upd_ne hb]; exact h
  · rcases List.mem_append.mp h with h | h
    · exact .inl h
    · rw [List.mem_singleton.mp h]; exact .inr n
  · have e' : W.fz b = some x := e
    rw [upd_ne (ne_of_none (r.fz b x e') n)]
    exact r.fz b x e'
  · show (W.io ++ [a]).length = (s ++ [ob]).length
    rw [List.length_append, List.length_append, r.len]; rfl
  · show (W.io ++ [a]).Nodup
    exact List.nodup_append.mpr ⟨r.nd, by simp, fun x hx y hy => by rw [List.mem_singleton.mp hy]; rintro rfl; exact nin hx⟩
  · rcases List.mem_append.mp h with h | h
    · by_cases hb : b = a
      · rw [hb, upd_same]; simp
      · rw [upd_ne hb]; exact r.tr b h
    · rw [List.mem_singleton.mp h, upd_same]; simp
  · have e2' : (W.io ++ [a])[k]? = some b := e2
    by_cases hk : k < s.length
    · rw [List.getElem?_append_left hk] at e1
      rw [List.getElem?_append_left (by rw [r.len]; exact hk)] at e2'
      have hba : b ≠ a := fun z => nin (z ▸ List.mem_of_getElem? e2')
      exact (r.obs k ob' b e1 e2').keep le (upd_ne hba) (fun z => z)
    · have hk2 : k = s.length := by
        have h1 := (List.getElem?_eq_some_iff.mp e1).1
        rw [List.length_append] at h1
        simp only [List.length_singleton] at h1
        omega
      subst hk2
      rw [List.getElem?_append_right (Nat.le_refl _), Nat.sub_self] at e1
      rw [List.getElem?_append_right (by rw [r.len]; exact Nat.le_refl _), r.len, Nat.sub_self] at e2'
      simp only [List.getElem?_cons_zero, Option.some.injEq] at e1 e2'
      subst e1
      subst e2'
      exact hb _ le rfl
  · show (W.io ++ [a])[s.length]? = some a
    rw [List.getElem?_append_right (by rw [r.len]; exact Nat.le_refl _), r.len, Nat.sub_self]; rfl
/-- a thing of the store is changed -/
theorem Rep.put {a : Addr} {o u : HO} {ob : Ob} {n : Nat} (r : Rep p W s H) (hn : W.io[n]? = some a) (hz : W.fz a = none) (hu : H a = some u) (hs : isSt u = true) (hb : RepO p W (upd H a o) a ob) :
    Fr W W H (upd H a o) ∧ Rep p W (s.set n ob) (upd H a o) := by
  have hm : a ∈ W.io := List.mem_of_getElem? hn
  refine ⟨⟨fun b x e hb _ => by rw [upd_ne (fun z => hb (by rw [z]; exact hm))]; exact e, fun b h => ?_, fun b h => .inl h, fun b h => .inl h⟩, ⟨r.tab.put hu hs, fun b x e => ?_, r.nt, ?_, r.nd, fun b h => ?_, fun k ob' b e1 e2 => ?_⟩⟩
  · by_cases hb : b = a
    · rw [hb, upd_same]; simp
    · rw [upd_ne hb]; exact h
  · have hba : b ≠ a := fun z => by rw [z, hz] at e; cases e
    rw [upd_ne hba]; exact r.fz b x e
  · rw [List.length_set]; exact r.len
  · by_cases hb : b = a
    · rw [hb, upd_same]; simp
    · rw [upd_ne hb]; exact r.tr b h
  · by_cases hk : k = n
    · subst hk
      have hl : k < s.length := by
        have := (List.getElem?_eq_some_iff.mp e1).1
        rwa [List.length_set] at this
      rw [List.getElem?_set_self hl] at e1
      rw [hn] at e2
      cases e1
      cases e2
      exact hb
    · rw [List.getElem?_set_ne (Ne.symm hk)] at e1
      have hba : b ≠ a := fun z => by
        subst z
        obtain ⟨h1, e3⟩ := List.getElem?_eq_some_iff.mp e2
        obtain ⟨h2, e4⟩ := List.getElem?_eq_some_iff.mp hn
        exact hk ((List.getElem_inj r.nd).mp (e3.trans e4.symm))
      exact (r.obs k ob' b e1 e2).keep (Wd.le.refl W) (upd_ne hba) (fun z => z)
/-- a thing of the store is let go (it is no longer the store's) -/
theorem Rep.drop {n : Nat} (r : Rep p W s H) : Rep p W (s.set n .dead) H := by
  refine ⟨r.tab, r.fz, r.nt, by rw [List.length_set]; exact r.len, r.nd, r.tr, fun k ob b e1 e2 => ?_⟩
  by_cases hk : k = n
  · subst hk
    have hl : k < s.length := by
      have := (List.getElem?_eq_some_iff.mp e1).1
      rwa [List.length_set] at this
    rw [List.getElem?_set_self hl] at e1
    cases e1
    trivial
  · rw [List.getElem?_set_ne (Ne.symm hk)] at e1
    exact r.obs k ob b e1 e2
theorem Rep.at {n : Nat} {ob : Ob} (r : Rep p W s H) (h : s[n]? = some ob) : ∃ a, W.io[n]? = some a ∧ RepO p W H a ob := by
  have hl : n < W.io.length := by rw [r.len]; exact (List.getElem?_eq_some_iff.mp h).1
  exact ⟨W.io[n], List.getElem?_eq_getElem hl, r.obs n ob _ h (List.getElem?_eq_getElem hl)⟩
end

/-- a table of code objects has grown -/
theorem Rep.tabbed {p : Pl} {W : Wd} {s : Sto} {H H2 : Hp} {P : Addr} (r : Rep p W s H) (hP : P ∈ p.tg) (hl : ∀ q ∈ p.tl, q.1 ≠ P) (t : GxR.Tabbed P H H2) : Fr W W H H2 ∧ Rep p W s H2 := by
  obtain ⟨⟨ps2, e2, h2⟩, ke⟩ := t
  obtain ⟨ps, e1, h1⟩ := r.tab.tg P hP
  have nP : ∀ b o, H b = some o → (∀ ps, o ≠ .tbl ps) → b ≠ P := fun b o e n z => by
    rw [z, e1] at e
    exact n ps (Option.some.inj e).symm
  have some2 : ∀ b, H b ≠ none → H2 b ≠ none := fun b hb => by
    by_cases z : b = P
    · rw [z, e2]; simp
    · rw [ke b z]; exact hb
  refine ⟨⟨fun b o e _ n => by rw [ke b (nP b o e n)]; exact e, some2, fun _ h => .inl h, fun _ h => .inl h⟩, ⟨⟨fun q hq => ?_, fun P' hP' => ?_⟩, fun a o e => ?_, r.nt, r.len, r.nd, fun b hb => some2 b (r.tr b hb), fun n ob a q1 q2 => ?_⟩⟩
  · obtain ⟨qs, a1, a2, a3⟩ := r.tab.tl q hq
    refine ⟨qs, by rw [ke _ (hl q hq)]; exact a1, a2, fun pos cv hc => ?_⟩
    obtain ⟨c, c1, c2⟩ := a3 pos cv hc
    exact ⟨c, c1, by rw [ke _ (nP _ _ c2 fun ps z => by cases z)]; exact c2⟩
  · by_cases z : P' = P
    · rw [z]; exact ⟨ps2, e2, h2⟩
    · obtain ⟨qs, a1, a2⟩ := r.tab.tg P' hP'
      exact ⟨qs, by rw [ke _ z]; exact a1, a2⟩
  · have h := r.fz a o e
    rw [ke _ (nP a o h fun ps z => r.nt a ps (by rw [e, z]))]
    exact h
  · have q := r.obs n ob a q1 q2
    cases ob with
    | dead => trivial
    | lst ds =>
      obtain ⟨z, vs, b1, b2⟩ := q
      exact ⟨z, vs, by rw [ke _ (nP _ _ b1 fun ps z => by cases z)]; exact b1, b2⟩
    | dct kvs =>
      obtain ⟨z, vs, b1, b2⟩ := q
      exact ⟨z, vs, by rw [ke _ (nP _ _ b1 fun ps z => by cases z)]; exact b1, b2⟩
    | lck kvs =>
      obtain ⟨z, dx, vs, b1, b2⟩ := q
      exact ⟨z, dx, vs, by rw [ke _ (nP _ _ b1 fun ps z => by cases z)]; exact b1, b2⟩
    | ins c fs =>
      obtain ⟨z, dx, vs, b1, b2⟩ := q
      exact ⟨z, dx, vs, by rw [ke _ (nP _ _ b1 fun ps z => by cases z)]; exact b1, b2⟩

/-! ### the readings -/
/-- what is wanted behind an evaluation from (W, H) -/
def Post {α β : Type} (p : Pl) (Rl : Wd → α → β → Prop) (W : Wd) (H : Hp) (EX : Nat → Hp → Prop) (Q : β → Hp → Prop) : R α → Prop
  | .ok d s => ∀ W' H' v, W.le W' → Fr W W' H H' → Rep p W' s H' → Rl W' d v → Q v H'
  | .exc c s => ∀ W' H', W.le W' → Fr W W' H H' → Rep p W' s H' → EX c H'
  | .bad => False
/-- an exception's kind: one without a context (even), any (odd) -/
def tgX (c : Nat) : Option Addr := if c % 2 = 0 then none else some 0
abbrev exW (p : Pl) (WX : L2.WX) (σ : L2.St) : Nat → Hp → Prop := fun c H' => WX (.ref (p.xa (c / 2))) (tgX c) σ H'
/-- an expression's reading by its meaning -/
def tE (p : Pl) (WX : L2.WX) (m : ME) : TE := fun σ H Q => ∃ W e s, RelE p W e σ ∧ Rep p W s H ∧ Post p (RelD p.K) W H (exW p WX σ) Q (m e s)
def tA (p : Pl) (WX : L2.WX) (m : MA) : TA := fun σ H Q => ∃ W e s, RelE p W e σ ∧ Rep p W s H ∧ Post p (RelDs p.K) W H (exW p WX σ) Q (m e s)
def tB (p : Pl) (WX : L2.WX) (m : MB) : TT := fun σ H Q => ∃ W e s, RelE p W e σ ∧ Rep p W s H ∧ Post p (fun _ b c => c = b) W H (exW p WX σ) Q (m e s)
/-- one evaluation behind another -/
theorem Post.bind {α α' β β' : Type} {p : Pl} {Rl : Wd → α → β → Prop} {Rl' : Wd → α' → β' → Prop} {W : Wd} {H : Hp} {EX : Nat → Hp → Prop} {Q : β' → Hp → Prop} {r : R α} {f : α → Sto → R α'} {G : β → Hp → Prop}
    (h : Post p Rl' W H EX Q (r.bind f)) (hg : ∀ W' H' d v s, W.le W' → Fr W W' H H' → Rep p W' s H' → Rl W' d v → Post p Rl' W' H' EX Q (f d s) → G v H') : Post p Rl W H EX G r := by
  have key : ∀ {W' H'} (x : R α'), W.le W' → Fr W W' H H' → Post p Rl' W H EX Q x → Post p Rl' W' H' EX Q x := fun {W' H'} x l fr q => by
    cases x with
    | ok d s => exact fun W2 H2 v l2 f2 r2 rv => q W2 H2 v (l.trans l2) (fr.trans f2) r2 rv
    | exc c s => exact fun W2 H2 l2 f2 r2 => q W2 H2 (l.trans l2) (fr.trans f2) r2
    | bad => exact q
  cases r with
  | ok d s => exact fun W' H' v l fr rp rv => hg W' H' d v s l fr rp rv (key _ l fr h)
  | exc c s => exact h
  | bad => exact h
theorem PE.imp {X : Cx} {e : Expr} {t t' : TE} (h : PE X e t) (i : ∀ σ H Q, t' σ H Q → t σ H Q) : PE X e t' := ⟨fun pins s σ H Q I q => h.run pins s σ H Q I (i σ H Q q)⟩
theorem PT.imp {X : Cx} {e : Expr} {t t' : TT} (h : PT X e t) (i : ∀ σ H Q, t' σ H Q → t σ H Q) : PT X e t' := ⟨fun pins s σ H Q I q => h.run pins s σ H Q I (i σ H Q q)⟩
theorem PA.imp {X : Cx} {e : List Expr} {t t' : TA} (h : PA X e t) (i : ∀ σ H Q, t' σ H Q → t σ H Q) : PA X e t' := ⟨fun pos pins s σ H Q I q => h.run pos pins s σ H Q I (i σ H Q q)⟩
theorem PS.imp {X : Cx} {e : Stmt} {t t' : TS} (h : PS X e t) (i : ∀ D σ H, t' D σ H → t D σ H) : PS X e t' := ⟨fun pins s σ H D I q => h.run pins s σ H D I (i D σ H q)⟩
theorem PSs.imp {X : Cx} {e : List Stmt} {t t' : TS} (h : PSs X e t) (i : ∀ D σ H, t' D σ H → t D σ H) : PSs X e t' := ⟨fun pins s σ H D I q => h.run pins s σ H D I (i D σ H q)⟩
end Z

set_option Elab.async false
set_option linter.all false
set_option maxRecDepth 100000
/-! Z3: the operators. -/
namespace Z
open PySem PySem.Spec PyProof.Rows L2
def PostO {α β : Type} (p : Pl) (Rl : Wd → α → β → Prop) (W : Wd) (H : Hp) (Q : β → Hp → Prop) : Option (α × Sto) → Prop
  | some (d, s) => ∀ W' H' v, W.le W' → Fr W W' H H' → Rep p W' s H' → Rl W' d v → Q v H'
  | none => False
def r2 (p : Pl) (op : B2) : R2 := fun x y H Q => ∃ W s a b, Rep p W s H ∧ RelD p.K W a x ∧ RelD p.K W b y ∧ PostO p (RelD p.K) W H Q (op a b s)
def r1 (p : Pl) (op : B1) : V → Hp → VK → Prop := fun x H Q => ∃ W s a, Rep p W s H ∧ RelD p.K W a x ∧ PostO p (RelD p.K) W H Q (op a s)
section
variable {p : Pl} {W : Wd} {s : Sto} {H : Hp} {Q : VK}
theorem relD_non {K : PySem.W.Frag} {v : V} (h : RelD K W .non v) : v = .non := by unfold RelD at h; exact h
theorem relD_bl {K : PySem.W.Frag} {b : Bool} {v : V} (h : RelD K W (.bl b) v) : v = .bl b := by unfold RelD at h; exact h
theorem relD_int {K : PySem.W.Frag} {i : Int} {v : V} (h : RelD K W (.int i) v) : v = .int i := by unfold RelD at h; exact h
theorem relD_str {K : PySem.W.Frag} {x : Str} {v : V} (h : RelD K W (.str x) v) : v = .str x := by unfold RelD at h; exact h
theorem relD_tup {K : PySem.W.Frag} {ds : List D} {v : V} (h : RelD K W (.tup ds) v) : ∃ a vs, v = .ref a ∧ SqT K W.fz a vs ∧ RelDs K W ds vs := by unfold RelD at h; exact h
theorem relD_lst {K : PySem.W.Frag} {ds : List D} {v : V} (h : RelD K W (.lst ds) v) : ∃ a vs, v = .ref a ∧ W.fz a = some (.lst vs) ∧ RelDs K W ds vs := by unfold RelD at h; exact h
theorem relD_scr {K : PySem.W.Frag} {ds : List D} {v : V} (h : RelD K W (.scr ds) v) : ∃ a vs, v = .ref a ∧ SqL K W.fz a vs ∧ RelDs K W ds vs := by unfold RelD at h; exact h
theorem relD_ref {K : PySem.W.Frag} {n : Nat} {v : V} (h : RelD K W (.ref n) v) : ∃ a, v = .ref a ∧ W.io[n]? = some a := by unfold RelD at h; exact h
theorem rel_non {K : PySem.W.Frag} : RelD K W .non .non := by unfold RelD; rfl
theorem rel_bl {K : PySem.W.Frag} {b : Bool} : RelD K W (.bl b) (.bl b) := by unfold RelD; rfl
theorem rel_int {K : PySem.W.Frag} {i : Int} : RelD K W (.int i) (.int i) := by unfold RelD; rfl
theorem rel_str {K : PySem.W.Frag} {x : Str} : RelD K W (.str x) (.str x) := by unfold RelD; rfl
theorem rel_tup {K : PySem.W.Frag} {ds : List D} {a : Addr} {vs : List V} (h : SqT K W.fz a vs) (r : RelDs K W ds vs) : RelD K W (.tup ds) (.ref a) := by unfold RelD; exact ⟨a, vs, rfl, h, r⟩
theorem rel_lst {K : PySem.W.Frag} {ds : List D} {a : Addr} {vs : List V} (h : W.fz a = some (.lst vs)) (r : RelDs K W ds vs) : RelD K W (.lst ds) (.ref a) := by unfold RelD; exact ⟨a, vs, rfl, h, r⟩
theorem rel_ref {K : PySem.W.Frag} {n : Nat} {a : Addr} (h : W.io[n]? = some a) : RelD K W (.ref n) (.ref a) := by unfold RelD; exact ⟨a, rfl, h⟩
/-- nothing has changed -/
theorem PostO.same {α β : Type} {Rl : Wd → α → β → Prop} {Q : β → Hp → Prop} {d : α} {v : β} (r : Rep p W s H) (h : PostO p Rl W H Q (some (d, s))) (rv : Rl W d v) : Q v H := h W H v (Wd.le.refl W) (Fr.refl W H) r rv
/-- a list as it is read -/
theorem lst_rd {d : D} {xs : List D} {v : V} (r : Rep p W s H) (h : lstOf d s = some xs) (rv : RelD p.K W d v) : ∃ a vs, v = .ref a ∧ H a = some (.lst vs) ∧ RelDs p.K W xs vs := by
  cases d with
  | lst ys =>
    cases h
    obtain ⟨a, vs, e, z, q⟩ := relD_lst rv
    exact ⟨a, vs, e, r.fz _ _ z, q⟩
  | ref n =>
    obtain ⟨a, e, i⟩ := relD_ref rv
    have h' : atS n s = some xs := h
    unfold atS at h'
    split at h'
    · rename_i ys q
      cases h'
      obtain ⟨z, vs, h1, h2⟩ := r.obs n _ a q i
      exact ⟨a, vs, e, h1, h2⟩
    · cases h'
  | _ => cases h
theorem seq_rd {d : D} {xs : List D} {v : V} (r : Rep p W s H) (h : seqOf d s = some xs) (rv : RelD p.K W d v) : ∃ a vs, v = .ref a ∧ (SqL p.K H a vs ∨ SqT p.K H a vs) ∧ RelDs p.K W xs vs := by
  cases d with
  | tup ys =>
    cases h
    obtain ⟨a, vs, e, z, q⟩ := relD_tup rv
    exact ⟨a, vs, e, .inr (seqT_mono r.fz z), q⟩
  | lst ys =>
    obtain ⟨a, vs, e, z, q⟩ := lst_rd (d := .lst ys) r h rv
    exact ⟨a, vs, e, .inl (SqL.of z), q⟩
  | ref n =>
    obtain ⟨a, vs, e, z, q⟩ := lst_rd (d := .ref n) r h rv
    exact ⟨a, vs, e, .inl (SqL.of z), q⟩
  | scr ys =>
    cases h
    obtain ⟨a, vs, e, z, q⟩ := relD_scr rv
    exact ⟨a, vs, e, .inl (seqL_mono r.fz z), q⟩
  | _ => cases h
theorem tup_rd {ds : List D} {v : V} (r : Rep p W s H) (rv : RelD p.K W (.tup ds) v) : ∃ a vs, v = .ref a ∧ SqT p.K H a vs ∧ RelDs p.K W ds vs := by
  obtain ⟨a, vs, e, z, q⟩ := relD_tup rv
  exact ⟨a, vs, e, seqT_mono r.fz z, q⟩
/-- a new list is laid -/
theorem mkL_ok {m : Bool} {xs : List D} {vs : List V} {a : Addr} (r : Rep p W s H) (h : PostO p (RelD p.K) W H Q (mkL m xs s)) (rv : RelDs p.K W xs vs) (n : H a = none) : Q (.ref a) (upd H a (.lst vs)) := by
  unfold mkL at h
  split at h
  · cases m with
    | true =>
      obtain ⟨l, f, rp, e⟩ := r.push (a := a) (o := .lst vs) (ob := .lst xs) n fun W' l hz => by
        refine ⟨?_, vs, upd_same, rv.mono l⟩
        rw [hz]
        cases q : W.fz a with
        | none => rfl
        | some x => rw [r.fz a x q] at n; cases n
      exact h _ _ _ l f rp (rel_ref e)
    | false =>
      obtain ⟨W', l, f, rp, e⟩ := r.fresh (a := a) (o := .lst vs) n (fun ps z => by cases z)
      exact h _ _ _ l f rp (rel_lst e (rv.mono l))
  · exact h.elim
theorem mkL_len {m : Bool} {xs : List D} (h : PostO p (RelD p.K) W H Q (mkL m xs s)) : xs.length ≤ sizeLine := by
  unfold mkL at h
  split at h
  · rename_i q
    rw [sizeLine_eq]; exact q
  · exact h.elim
theorem mkT_ok {xs : List D} {vs : List V} {a : Addr} (r : Rep p W s H) (h : PostO p (RelD p.K) W H Q (mkT xs s)) (rv : RelDs p.K W xs vs) (n : H a = none) : Q (.ref a) (upd H a (.tup vs)) := by
  unfold mkT at h
  split at h
  · obtain ⟨W', l, f, rp, e⟩ := r.fresh (a := a) (o := .tup vs) n (fun ps z => by cases z)
    exact h _ _ _ l f rp (rel_tup (SqT.of e) (rv.mono l))
  · exact h.elim
theorem mkT_len {xs : List D} (h : PostO p (RelD p.K) W H Q (mkT xs s)) : xs.length ≤ sizeLine := by
  unfold mkT at h
  split at h
  · rename_i q
    rw [sizeLine_eq]; exact q
  · exact h.elim
/-- a tuple that stands already -/
theorem mkT_old {xs : List D} {a : Addr} (r : Rep p W s H) (h : PostO p (RelD p.K) W H Q (mkT xs s)) (rv : RelD p.K W (.tup xs) (.ref a)) : Q (.ref a) H := by
  unfold mkT at h
  split at h
  · exact h.same r rv
  · exact h.elim
end
section
variable {X : Cx} {p : Pl}
theorem OpR.imp {f : Value → Value → Sem Value} {r r' : R2} (h : OpR X f r) (i : ∀ x y H Q, r' x y H Q → r x y H Q) : OpR X f r' := fun pins s σ H x y v u Q I rx ry q => h pins s σ H x y v u Q I rx ry (i x y H Q q)
theorem cat_lists {m : Bool} {W : Wd} {st : Sto} {a b : D} {xs ys : List D} {pins : List (Addr × Obj)} {s : Shared} {σ : L2.St} {H : Hp} {x y : V} {v u : Value} {Q : VK} (I : Inv X pins σ H s) (rx : RelV x v) (ry : RelV y u) (rp : Rep p W st H)
    (ra : RelD p.K W a x) (rb : RelD p.K W b y) (ha : lstOf a st = some xs) (hb : lstOf b st = some ys) (q : PostO p (RelD p.K) W H Q (mkL m (xs ++ ys) st)) : wpAny (model X.prog X.w) X.A (binaryOp .Add v u) (EP X pins σ Q) X.xe s := by
  obtain ⟨a1, vs, rfl, h1, q1⟩ := lst_rd rp ha ra
  obtain ⟨b1, us, rfl, h2, q2⟩ := lst_rd rp hb rb
  have hl := mkL_len q
  rw [List.length_append, q1.length, q2.length] at hl
  exact op_cat pins s σ H _ _ v u Q I rx ry ⟨a1, b1, vs, us, rfl, rfl, h1, h2, hl, fun a n => mkL_ok rp q (q1.append q2) n⟩
theorem op_addR (hK : p.K = X.K) (m : Bool) : OpR X (binaryOp .Add) (r2 p (opAdd m)) := by
  intro pins s σ H x y v u Q I rx ry h
  obtain ⟨W, st, a, b, rp, ra, rb, q⟩ := h
  unfold opAdd at q
  split at q
  · cases relD_int ra
    cases relD_int rb
    exact op_add pins s σ H _ _ v u Q I rx ry ⟨_, _, rfl, rfl, q.same rp rel_int⟩
  · cases relD_str ra
    cases relD_str rb
    split at q
    · rename_i hz
      exact op_add_str pins s σ H _ _ v u Q I rx ry ⟨_, _, rfl, rfl, by rw [sizeLine_eq]; exact hz, q.same rp rel_str⟩
    · exact q.elim
  · rename_i xs ys
    obtain ⟨a1, vs, rfl, h1, q1⟩ := tup_rd rp ra
    obtain ⟨b1, us, rfl, h2, q2⟩ := tup_rd rp rb
    have hl := mkT_len q
    rw [List.length_append, q1.length, q2.length] at hl
    refine op_catA pins s σ H _ _ v u Q I rx ry ⟨a1, b1, vs, us, rfl, rfl, hK ▸ h1, hK ▸ h2, hl, fun e => ?_, fun _ e => ?_, fun _ _ a n => mkT_ok rp q (q1.append q2) n⟩
    · have e1 : xs = [] := List.eq_nil_of_length_eq_zero (by rw [q1.length, e]; rfl)
      rw [e1, List.nil_append] at q
      exact mkT_old rp q rb
    · have e1 : ys = [] := List.eq_nil_of_length_eq_zero (by rw [q2.length, e]; rfl)
      rw [e1, List.append_nil] at q
      exact mkT_old rp q ra
  · split at q
    · rename_i ha hb
      exact cat_lists I rx ry rp ra rb ha hb q
    · exact q.elim
theorem op_subR : OpR X (binaryOp .Sub) (r2 p opSub) := by
  intro pins s σ H x y v u Q I rx ry h
  obtain ⟨W, st, a, b, rp, ra, rb, q⟩ := h
  unfold opSub at q
  split at q
  · cases relD_int ra
    cases relD_int rb
    exact op_sub pins s σ H _ _ v u Q I rx ry ⟨_, _, rfl, rfl, q.same rp rel_int⟩
  · exact q.elim
theorem op_fdivR : OpR X (binaryOp .FloorDiv) (r2 p opFdiv) := by
  intro pins s σ H x y v u Q I rx ry h
  obtain ⟨W, st, a, b, rp, ra, rb, q⟩ := h
  unfold opFdiv at q
  split at q
  · cases relD_int ra
    cases relD_int rb
    split at q
    · rename_i hz
      exact op_fdiv pins s σ H _ _ v u Q I rx ry ⟨_, _, rfl, rfl, hz, q.same rp rel_int⟩
    · exact q.elim
  · exact q.elim
theorem op_modR : OpR X (binaryOp .Mod) (r2 p opMod) := by
  intro pins s σ H x y v u Q I rx ry h
  obtain ⟨W, st, a, b, rp, ra, rb, q⟩ := h
  unfold opMod at q
  split at q
  · cases relD_int ra
    cases relD_int rb
    split at q
    · rename_i hz
      exact op_mod pins s σ H _ _ v u Q I rx ry ⟨_, _, rfl, rfl, hz, q.same rp rel_int⟩
    · exact q.elim
  · exact q.elim
theorem op_powR : OpR X (binaryOp .Pow) (r2 p opPow) := by
  intro pins s σ H x y v u Q I rx ry h
  obtain ⟨W, st, a, b, rp, ra, rb, q⟩ := h
  unfold opPow at q
  split at q
  · cases relD_int ra
    cases relD_int rb
    split at q
    · rename_i hz
      exact op_pow pins s σ H _ _ v u Q I rx ry ⟨_, _, rfl, rfl, hz, q.same rp rel_int⟩
    · exact q.elim
  · exact q.elim
theorem big_iff {i : Int} : big i = true ↔ (-(2 ^ 64) < i ∧ i < 2 ^ 64) := by unfold big; exact decide_eq_true_iff
theorem RelDs.rep {K : PySem.W.Frag} {W : Wd} {ds : List D} {vs : List V} (h : RelDs K W ds vs) : ∀ n : Nat, RelDs K W (List.replicate n ds).flatten (List.replicate n vs).flatten
  | 0 => relDs_nil
  | n + 1 => by
    rw [List.replicate_succ, List.replicate_succ, List.flatten_cons, List.flatten_cons]
    exact h.append (h.rep n)
theorem op_mulR (hK : p.K = X.K) (m : Bool) : OpR X (binaryOp .Mult) (r2 p (opMul m)) := by
  intro pins s σ H x y v u Q I rx ry h
  obtain ⟨W, st, a, b, rp, ra, rb, q⟩ := h
  unfold opMul at q
  split at q
  · cases relD_int ra
    cases relD_int rb
    split at q
    · rename_i i j hz
      refine op_mul pins s σ H _ _ v u Q I rx ry ⟨_, _, rfl, rfl, ?_, q.same rp rel_int⟩
      rcases Bool.or_eq_true_iff.mp hz with z | z
      · exact .inl (big_iff.mp z)
      · exact .inr (big_iff.mp z)
    · exact q.elim
  · cases relD_int rb
    rename_i xs k
    split at q
    · rename_i hz
      obtain ⟨a1, vs, rfl, h1, q1⟩ := tup_rd rp ra
      simp only [Bool.and_eq_true, decide_eq_true_eq, Bool.not_eq_true', List.isEmpty_eq_false_iff] at hz
      obtain ⟨⟨⟨z1, z2⟩, z3⟩, z4⟩ := hz
      have z5 : vs ≠ [] := fun e => z4 (List.eq_nil_of_length_eq_zero (by rw [q1.length, e]; rfl))
      exact op_repT pins s σ H _ _ v u Q I rx ry ⟨a1, k, vs, rfl, rfl, hK ▸ h1, z5, z1, z2, by rw [← q1.length]; exact z3, fun a n => mkT_ok rp q (q1.rep _) n⟩
    · exact q.elim
  · cases relD_int rb
    split at q
    · rename_i hl
      split at q
      · rename_i hz
        obtain ⟨a1, vs, rfl, h1, q1⟩ := lst_rd rp hl ra
        simp only [Bool.and_eq_true, decide_eq_true_eq] at hz
        exact op_rep pins s σ H _ _ v u Q I rx ry ⟨a1, _, vs, rfl, rfl, h1, hz.1.1, hz.1.2, by rw [← q1.length, sizeLine_eq]; exact hz.2, fun a n => mkL_ok rp q (q1.rep _) n⟩
      · exact q.elim
    · exact q.elim
  · exact q.elim
theorem un_negR : UnR X (unaryOp .USub) (r1 p unNeg) := by
  intro pins s σ H x v Q I rx h
  obtain ⟨W, st, a, rp, ra, q⟩ := h
  unfold unNeg at q
  split at q
  · cases relD_int ra
    exact un_neg pins s σ H _ v Q I rx ⟨_, rfl, q.same rp rel_int⟩
  · exact q.elim
theorem op_cmpI {op : CmpOp} {f : Int → Int → Bool} (h0 : OpR X (compareOp op) (rI0 fun i j => .bl (f i j))) : OpR X (compareOp op) (r2 p (opCmp f)) := by
  intro pins s σ H x y v u Q I rx ry h
  obtain ⟨W, st, a, b, rp, ra, rb, q⟩ := h
  unfold opCmp at q
  split at q
  · cases relD_int ra
    cases relD_int rb
    exact h0 pins s σ H _ _ v u Q I rx ry ⟨_, _, rfl, rfl, q.same rp rel_bl⟩
  · exact q.elim
/-! ### data -/
theorem opt_all {α β : Type} {f : α → Option β} : ∀ {xs : List α} {ys : List β}, optAll f xs = some ys → Paired (fun x y => f x = some y) xs ys
  | [], ys, h => by
    cases h
    exact .nil
  | x :: xs, ys, h => by
    unfold optAll at h
    split at h
    · rename_i b bs e1 e2
      cases h
      exact .cons e1 (opt_all e2)
    · cases h
theorem dpAll_of {K : PySem.W.Frag} {W : Wd} {H : Hp} {f : D → Option PyData} (h : ∀ (d : D) (v : V) (x : PyData), f d = some x → RelD K W d v → Dp K H v x) : ∀ {ds : List D} {vs : List V} {xs : List PyData}, optAll f ds = some xs → RelDs K W ds vs → DpAll K H vs xs
  | [], vs, xs, e, r => by
    unfold RelDs at r
    cases e
    subst r
    exact .nil
  | d :: ds, vs, xs, e, r => by
    unfold RelDs at r
    obtain ⟨v, r', rfl, h1, h2⟩ := r
    unfold optAll at e
    split at e
    · rename_i b bs e1 e2
      cases e
      exact .cons (h d v b e1 h1) (dpAll_of h e2 h2)
    · cases e
theorem py_dp {W : Wd} {st : Sto} {H : Hp} (rp : Rep p W st H) : ∀ (k : Nat) (d : D) (v : V) (x : PyData), pyOf st k d = some x → RelD p.K W d v → Dp p.K H v x
  | 0, _, _, _, e, _ => by cases e
  | k + 1, d, v, x, e, r => by
    cases d with
    | non => cases e; cases relD_non r; exact .non
    | bl b => cases e; cases relD_bl r; exact .bl b
    | int i => cases e; cases relD_int r; exact .int i
    | str z =>
      have e0 : (if strB z then some (PyData.str z) else none) = some x := e
      split at e0
      · cases e0; cases relD_str r; exact .str z
      · cases e0
    | tup ds =>
      have e' : (optAll (pyOf st k) ds).map PyData.tuple = some x := e
      obtain ⟨xs, e1, e2⟩ := Option.map_eq_some_iff.mp e'
      subst e2
      obtain ⟨a, vs, rfl, h1, q1⟩ := tup_rd rp r
      exact .tup h1 (dpAll_of (py_dp rp k) e1 q1)
    | lst ds =>
      have e' : (optAll (pyOf st k) ds).map PyData.list = some x := e
      obtain ⟨xs, e1, e2⟩ := Option.map_eq_some_iff.mp e'
      subst e2
      obtain ⟨a, vs, rfl, h1, q1⟩ := lst_rd (d := .lst ds) rp rfl r
      exact .lst (SqL.of h1) (dpAll_of (py_dp rp k) e1 q1)
    | ref n =>
      have e' : (match atS n st with | some xs => (optAll (pyOf st k) xs).map PyData.list | none => none) = some x := e
      split at e'
      · rename_i ds ed
        obtain ⟨xs, e1, e2⟩ := Option.map_eq_some_iff.mp e'
        subst e2
        obtain ⟨a, vs, rfl, h1, q1⟩ := lst_rd (d := .ref n) rp ed r
        exact .lst (SqL.of h1) (dpAll_of (py_dp rp k) e1 q1)
      · cases e'
    | lam n => cases e
    | scr n => cases e
    | dic ks n => cases e
theorem canAll_of : ∀ {xs : List PyData}, (∀ x ∈ xs, x.canLay0 = true) → PyData.canLayAll0 xs = true
  | [], _ => by simp [PyData.canLayAll0]
  | x :: xs, h => by
    simp only [PyData.canLayAll0, Bool.and_eq_true]
    exact ⟨h x List.mem_cons_self, canAll_of fun y hy => h y (List.mem_cons_of_mem _ hy)⟩
theorem depthAll_of {n : Nat} : ∀ {xs : List PyData}, (∀ x ∈ xs, x.depth ≤ n) → PyData.depthAll xs ≤ n
  | [], _ => by simp [PyData.depthAll]
  | x :: xs, h => by
    simp only [PyData.depthAll]
    have h1 := h x List.mem_cons_self
    have h2 := depthAll_of (n := n) (xs := xs) fun y hy => h y (List.mem_cons_of_mem _ hy)
    omega
theorem paired_mem {α β : Type} {F : α → β → Prop} : ∀ {l₁ : List α} {l₂ : List β}, Paired F l₁ l₂ → ∀ y ∈ l₂, ∃ x, F x y
  | _, _, .nil, y, h => by cases h
  | _, _, .cons r t, y, h => by
    rcases List.mem_cons.mp h with e | h
    · exact ⟨_, e ▸ r⟩
    · exact paired_mem t y h
theorem strB_ok {z : Str} (h : strB z = true) : PyData.strOk z = true := by
  unfold strB at h
  unfold PyData.strOk
  rw [← Array.all_toList]
  exact h
theorem py_shape (st : Sto) : ∀ (k : Nat) (d : D) (x : PyData), pyOf st k d = some x → x.canLay0 = true ∧ x.depth ≤ k
  | 0, _, _, e => by cases e
  | k + 1, d, x, e => by
    have all : ∀ {ds : List D} {xs : List PyData}, optAll (pyOf st k) ds = some xs → PyData.canLayAll0 xs = true ∧ PyData.depthAll xs ≤ k := fun {ds xs} e1 =>
      ⟨canAll_of fun y hy => by obtain ⟨z, hz⟩ := paired_mem (opt_all e1) y hy; exact (py_shape st k z y hz).1,
       depthAll_of fun y hy => by obtain ⟨z, hz⟩ := paired_mem (opt_all e1) y hy; exact (py_shape st k z y hz).2⟩
    cases d with
    | non => cases e; simp [PyData.canLay0, PyData.depth]
    | bl b => cases e; simp [PyData.canLay0, PyData.depth]
    | int i => cases e; simp [PyData.canLay0, PyData.depth]
    | str z =>
      have e0 : (if strB z then some (PyData.str z) else none) = some x := e
      split at e0
      · rename_i hz
        cases e0
        simp [PyData.canLay0, PyData.depth, strB_ok hz]
      · cases e0
    | tup ds =>
      have e' : (optAll (pyOf st k) ds).map PyData.tuple = some x := e
      obtain ⟨xs, e1, e2⟩ := Option.map_eq_some_iff.mp e'
      subst e2
      obtain ⟨a, b⟩ := all e1
      simp only [PyData.canLay0, PyData.depth]
      exact ⟨a, by omega⟩
    | lst ds =>
      have e' : (optAll (pyOf st k) ds).map PyData.list = some x := e
      obtain ⟨xs, e1, e2⟩ := Option.map_eq_some_iff.mp e'
      subst e2
      obtain ⟨a, b⟩ := all e1
      simp only [PyData.canLay0, PyData.depth]
      exact ⟨a, by omega⟩
    | ref n =>
      have e' : (match atS n st with | some xs => (optAll (pyOf st k) xs).map PyData.list | none => none) = some x := e
      split at e'
      · obtain ⟨xs, e1, e2⟩ := Option.map_eq_some_iff.mp e'
        subst e2
        obtain ⟨a, b⟩ := all e1
        simp only [PyData.canLay0, PyData.depth]
        exact ⟨a, by omega⟩
      · cases e'
    | lam n => cases e
    | scr n => cases e
    | dic ks n => cases e
theorem py_shaped {st : Sto} {k : Nat} {d : D} {x : PyData} (e : pyOf st k d = some x) (hk : k ≤ 64) : SeqAt.shaped x = true := by
  obtain ⟨a, b⟩ := py_shape st k d x e
  unfold SeqAt.shaped
  rw [a, Bool.true_and]
  exact decide_eq_true (by omega)
theorem op_eqR (hK : p.K = X.K) (hu : X.A.units + 64 < cLine) : OpR X (compareOp .Eq) (r2 p (opEq false)) := by
  intro pins s σ H x y v u Q I rx ry h
  obtain ⟨W, st, a, b, rp, ra, rb, q⟩ := h
  unfold opEq at q
  split at q
  · rename_i d e h1 h2
    rw [Bool.false_xor] at q
    exact op_eqD hu pins s σ H x y v u Q I rx ry ⟨d, e, hK ▸ py_dp rp 12 a x d h1 ra, hK ▸ py_dp rp 12 b y e h2 rb, py_shaped h1 (by decide), py_shaped h2 (by decide), q.same rp rel_bl⟩
  · exact q.elim
theorem op_neR (hK : p.K = X.K) (hu : X.A.units + 64 < cLine) : OpR X (compareOp .NotEq) (r2 p (opEq true)) := by
  intro pins s σ H x y v u Q I rx ry h
  obtain ⟨W, st, a, b, rp, ra, rb, q⟩ := h
  unfold opEq at q
  split at q
  · rename_i d e h1 h2
    rw [Bool.true_xor] at q
    exact op_neD hu pins s σ H x y v u Q I rx ry ⟨d, e, hK ▸ py_dp rp 12 a x d h1 ra, hK ▸ py_dp rp 12 b y e h2 rb, py_shaped h1 (by decide), py_shaped h2 (by decide), q.same rp rel_bl⟩
  · exact q.elim
theorem isNon_eq {K : PySem.W.Frag} {W : Wd} {a : D} {x : V} (r : RelD K W a x) : decide (x = .non) = isNon a := by
  cases a with
  | non => cases relD_non r; rfl
  | bl b => cases relD_bl r; rfl
  | int i => cases relD_int r; rfl
  | str z => cases relD_str r; rfl
  | tup ds => obtain ⟨a, vs, rfl, _, _⟩ := relD_tup r; rfl
  | lst ds => obtain ⟨a, vs, rfl, _, _⟩ := relD_lst r; rfl
  | ref n => obtain ⟨a, rfl, _⟩ := relD_ref r; rfl
  | lam n => unfold RelD at r; obtain ⟨f, _, _, _, _, rfl, _⟩ := r; rfl
  | dic ks n => unfold RelD at r; obtain ⟨a, _, _, rfl, _⟩ := r; rfl
  | scr ds => obtain ⟨a, vs, rfl, _, _⟩ := relD_scr r; rfl
theorem op_isR : OpR X (compareOp .Is) (r2 p (opIs false)) := by
  intro pins s σ H x y v u Q I rx ry h
  obtain ⟨W, st, a, b, rp, ra, rb, q⟩ := h
  unfold opIs at q
  split at q
  · cases relD_non rb
    rw [Bool.false_xor] at q
    exact op_isN pins s σ H _ _ v u Q I rx ry ⟨rfl, by rw [isNon_eq ra]; exact q.same rp rel_bl⟩
  · exact q.elim
theorem op_isNotR : OpR X (compareOp .IsNot) (r2 p (opIs true)) := by
  intro pins s σ H x y v u Q I rx ry h
  obtain ⟨W, st, a, b, rp, ra, rb, q⟩ := h
  unfold opIs at q
  split at q
  · cases relD_non rb
    rw [Bool.true_xor] at q
    exact op_notN pins s σ H _ _ v u Q I rx ry ⟨rfl, by rw [isNon_eq ra]; exact q.same rp rel_bl⟩
  · exact q.elim
end
end Z

set_option Elab.async false
set_option linter.all false
set_option maxRecDepth 100000
/-! Z3b: in, subscripts, slices. -/
namespace Z
open PySem PySem.Spec PyProof.Rows L2
section
variable {X : Cx} {p : Pl}
theorem dp_str {K : PySem.W.Frag} {H : Hp} {x : Str} {v : V} (h : Dp K H v (.str x)) : v = .str x := by cases h; rfl
theorem room_in {A : Around} {d : PyData} {n : Nat} (sd : SeqAt.shaped d = true) (hu : A.units + 65 < cLine) : A.units + 1 + min n d.depth < cLine := by
  have h1 : d.depth ≤ 64 := by
    unfold SeqAt.shaped at sd
    exact of_decide_eq_true (Bool.and_eq_true_iff.mp sd).2
  have h2 : min n d.depth ≤ 64 := Nat.le_trans (Nat.min_le_right _ _) h1
  omega
theorem op_inS (neg : Bool) (hK : p.K = X.K) (hu : X.A.units + 65 < cLine) : OpR X (compareOp (if neg then .NotIn else .In)) (r2 p (opIn neg)) := by
  intro pins s σ H x y v u Q I rx ry h
  obtain ⟨W, st, a, b, rp, ra, rb, q⟩ := h
  have main : ∀ (d : PyData) (ds : List PyData) (c : PyData), pyOf st 12 a = some d → pyOf st 12 b = some c → (c = .list ds ∨ c = .tuple ds) →
      PostO p (RelD p.K) W H Q (some ((.bl (xor neg (ds.any fun z => PyData.eqv z d))), st)) → wpAny (model X.prog X.w) X.A (compareOp (if neg then .NotIn else .In) v u) (EP X pins σ Q) X.xe s := by
    intro d ds c h1 h2 hc q
    obtain ⟨as, r1⟩ := Dp.reads I d x v (hK ▸ py_dp rp 12 a x d h1 ra) rx
    obtain ⟨bs, r2⟩ := Dp.reads I c y u (hK ▸ py_dp rp 12 b y c h2 rb) ry
    have sd := py_shaped h1 (by decide)
    have sc := py_shaped h2 (by decide)
    have cd : d.canLay0 = true := SeqAt.canLay_of_shaped sd
    have q' := q.same rp rel_bl
    rcases hc with rfl | rfl
    · cases neg with
      | false => exact SeqAt.in_list_reads r2 r1 (SeqAt.canLay_of_shaped sc) cd (room_in sd hu) ⟨.bl _, H, I, rfl, by rw [Bool.false_xor] at q'; exact q'⟩
      | true => exact SeqAt.notIn_list_reads r2 r1 (SeqAt.canLay_of_shaped sc) cd (room_in sd hu) ⟨.bl _, H, I, rfl, by rw [Bool.true_xor] at q'; exact q'⟩
    · cases neg with
      | false => exact SeqAt.in_tuple_reads r2 r1 (SeqAt.canLay_of_shaped sc) cd (room_in sd hu) ⟨.bl _, H, I, rfl, by rw [Bool.false_xor] at q'; exact q'⟩
      | true => exact SeqAt.notIn_tuple_reads r2 r1 (SeqAt.canLay_of_shaped sc) cd (room_in sd hu) ⟨.bl _, H, I, rfl, by rw [Bool.true_xor] at q'; exact q'⟩
  unfold opIn at q
  split at q
  · cases relD_str rb
    split at q
    · rename_i w
      cases relD_str ra
      split at q
      · rename_i c hc
        have ew : w = ⟨#[c]⟩ := by
          obtain ⟨arr⟩ := w
          exact congrArg Str.mk (Array.ext' hc)
        subst ew
        have q' := q.same rp rel_bl
        cases neg with
        | false => exact op_in_sign pins s σ H _ _ v u Q I rx ry ⟨c, _, rfl, rfl, by rw [Bool.false_xor] at q'; exact q'⟩
        | true => exact op_notIn_sign pins s σ H _ _ v u Q I rx ry ⟨c, _, rfl, rfl, by rw [Bool.true_xor] at q'; exact q'⟩
      · exact q.elim
    · exact q.elim
  · split at q
    · rename_i h1 h2
      exact main _ _ _ h1 h2 (.inl rfl) q
    · rename_i h1 h2
      exact main _ _ _ h1 h2 (.inr rfl) q
    · exact q.elim
/-- a subscript by place -/
theorem ix_R (hK : p.K = X.K) : IxR X (r2 p opIx) := by
  intro value slice pins s σ H x y v u Q I rx ry h hs
  obtain ⟨W, st, a, b, rp, ra, rb, q⟩ := h
  unfold opIx at q
  split at q
  · rename_i i
    cases relD_int rb
    split at q
    · cases relD_str ra
      split at q
      · rename_i hz
        split at q
        · rename_i hc
          exact ix_str value slice pins s σ H _ _ v u Q I rx ry ⟨_, _, _, rfl, rfl, by rw [sizeLine_eq]; exact hz, hc, q.same rp rel_str⟩ hs
        · exact q.elim
      · exact q.elim
    · split at q
      · rename_i xs hx
        split at q
        · rename_i d hd
          obtain ⟨ad, vs, rfl, h1, q1⟩ := seq_rd rp hx ra
          have hd' : (L2.ixN xs.length _).bind (fun j => xs[j]?) = some d := hd
          obtain ⟨j, e1, e2⟩ := Option.bind_eq_some_iff.mp hd'
          obtain ⟨w, e3, rw'⟩ := q1.get e2
          have at_ : atI vs i = some w := by
            unfold atI
            rw [← q1.length, e1]
            exact e3
          rcases h1 with h1 | h1
          · exact ix_list value slice pins s σ H _ _ v u Q I rx ry ⟨ad, vs, _, w, rfl, rfl, hK ▸ h1, at_, q.same rp rw'⟩ hs
          · exact ix_tup value slice pins s σ H _ _ v u Q I rx ry ⟨ad, vs, _, w, rfl, rfl, hK ▸ h1, at_, q.same rp rw'⟩ hs
        · exact q.elim
      · exact q.elim
  · exact q.elim
/-! ### slices -/
theorem RelDs.cut {K : PySem.W.Frag} {W : Wd} {ds : List D} {vs : List V} (h : RelDs K W ds vs) (lo hi : Option Int) : RelDs K W (cutD ds lo hi) (cutV vs lo hi) := by
  unfold cutD cutV
  rw [h.length]
  exact (h.drop _).take _
def rSl (p : Pl) (m : Bool) : V → Option Int → Option Int → Hp → VK → Prop := fun x lo hi H Q => ∃ W s a, Rep p W s H ∧ RelD p.K W a x ∧ PostO p (RelD p.K) W H Q (opSl m a lo hi s)
theorem sl_R (hK : p.K = X.K) (m : Bool) : SlR X (rSl p m) := by
  intro pins s σ H x v vl vu lo hi sl Q I rx hs pl pu h
  obtain ⟨W, st, a, rp, ra, q⟩ := h
  unfold opSl at q
  split at q
  · cases relD_str ra
    split at q
    · rename_i hz
      have eL : ∀ z : Str, z.length = z.cps.toList.length := fun z => by simp [Str.length]
      refine sl_str pins s σ H _ v vl vu lo hi sl Q I rx hs pl pu ⟨_, rfl, by rw [sizeLine_eq]; exact hz, ?_⟩
      have q' := q.same rp rel_str
      unfold cutD at q'
      unfold cutS
      rw [eL]
      exact q'
    · exact q.elim
  · rename_i xs
    obtain ⟨ad, vs, rfl, h1, q1⟩ := tup_rd rp ra
    refine sl_tupA pins s σ H _ v vl vu lo hi sl Q I rx hs pl pu ⟨ad, vs, rfl, hK ▸ h1, fun e => ?_, fun _ a' n => ?_⟩
    · have ec : cutD xs lo hi = xs := by
        unfold cutD
        rw [q1.length, e.1, e.2, List.drop_zero, Nat.sub_zero, ← q1.length]
        exact List.take_length
      rw [ec] at q
      exact q.same rp ra
    · obtain ⟨W', l, f, rp', e⟩ := rp.fresh (a := a') (o := .tup (cutV vs lo hi)) n (fun ps z => by cases z)
      exact q _ _ _ l f rp' (rel_tup (SqT.of e) ((q1.cut lo hi).mono l))
  · obtain ⟨ad, vs, rfl, h1, q1⟩ := relD_scr ra
    exact sl_list pins s σ H _ v vl vu lo hi sl Q I rx hs pl pu ⟨ad, vs, rfl, hK ▸ seqL_mono rp.fz h1, fun a' n => mkL_ok rp q (q1.cut lo hi) n⟩
  · split at q
    · rename_i xs hx
      obtain ⟨ad, vs, rfl, h1, q1⟩ := lst_rd rp hx ra
      exact sl_list pins s σ H _ v vl vu lo hi sl Q I rx hs pl pu ⟨ad, vs, rfl, SqL.of h1, fun a' n => mkL_ok rp q (q1.cut lo hi) n⟩
    · exact q.elim
end
end Z

set_option Elab.async false
set_option linter.all false
set_option maxRecDepth 100000
/-! Z3c: x[::-1] of lists and tuples. -/
namespace Z
open PySem PySem.Spec PyProof.Rows L2
section
variable {prog : Program} {w : World} {A : Around} {E : Value → Shared → Prop} {s : Shared}
theorem applied_back {sl : Addr} {t1 : Tok} {n : Nat} {Q : Int × Int × Nat → Shared → Prop} (hs : s.heap.IsSliceOf sl .none .none (.int (-1) t1)) (h : Q ((n : Int) - 1, -1, n) s) :
    wpAny (model prog w) A (Builtin.Slice.sliceApplied (.ref sl) (pure (n : Int))) Q E s := by
  obtain ⟨os, hos, _, hds⟩ := hs
  unfold Builtin.Slice.sliceApplied Builtin.Slice.sliceFields
  refine wpAny_bind (wpAny_bind (wpAny_field hos hds (x := .none) rfl (wpAny_bind (wpAny_field hos hds (x := .none) rfl (wpAny_bind (wpAny_field hos hds (x := .int (-1) t1) rfl (wpAny_pure ?_)))))))
  refine wpAny_bind (slicePart_int ?_)
  show wpAny _ _ (if ((-1 : Int) == 0) = true then _ else _) _ _ s
  rw [if_neg (by decide)]
  refine wpAny_bind (slicePart_none (wpAny_bind (slicePart_none (wpAny_bind (wpAny_pure ?_)))))
  have e : Builtin.Slice.sliceAdjust none none (-1) (n : Int) = ((n : Int) - 1, -1) := rfl
  have e2 : Builtin.Slice.slicePlaces ((n : Int) - 1) (-1) (-1) = n := by
    unfold Builtin.Slice.slicePlaces
    rw [if_neg (by decide)]
    split
    · have : ((n : Int) - 1 - -1 - 1) / (- -1) = (n : Int) - 1 := by
        rw [show (- -1 : Int) = 1 by decide, Int.ediv_one]; omega
      rw [this]; omega
    · omega
  show wpAny _ _ (match Builtin.Slice.sliceAdjust none none (-1) (n : Int) with | (lo, hi) => pure (lo, (-1 : Int), Builtin.Slice.slicePlaces lo hi (-1))) _ _ s
  rw [e]
  show wpAny _ _ (pure ((n : Int) - 1, (-1 : Int), Builtin.Slice.slicePlaces ((n : Int) - 1) (-1) (-1))) _ _ s
  rw [e2]
  exact wpAny_pure h
theorem pick_back (xs : Array Value) : ((List.range xs.size).filterMap fun (m : Nat) => xs[(((xs.size : Int) - 1) + (m : Int) * -1).toNat]?).toArray = xs.toList.reverse.toArray := by
  have e : (List.range xs.size).filterMap (fun (m : Nat) => xs[(((xs.size : Int) - 1) + (m : Int) * -1).toNat]?) = (List.range xs.size).filterMap (fun m => xs[xs.size - 1 - m]?) := by
    have aux : ∀ l : List Nat, (∀ m ∈ l, m < xs.size) → l.filterMap (fun (m : Nat) => xs[(((xs.size : Int) - 1) + (m : Int) * -1).toNat]?) = l.filterMap (fun m => xs[xs.size - 1 - m]?) := by
      intro l
      induction l with
      | nil => intro _; rfl
      | cons m r ih =>
        intro hl
        have h1 := hl m List.mem_cons_self
        have e1 : (((xs.size : Int) - 1) + (m : Int) * -1).toNat = xs.size - 1 - m := by omega
        rw [List.filterMap_cons, List.filterMap_cons, e1, ih fun y hy => hl y (List.mem_cons_of_mem _ hy)]
    exact aux _ fun m hm => List.mem_range.mp hm
  rw [e]
  have h2 : (List.range xs.size).filterMap (fun m => xs[xs.size - 1 - m]?) = ((List.range xs.size).map fun k => xs.size - 1 - k).filterMap (xs[·]?) := by
    rw [List.filterMap_map]; rfl
  rw [h2, PySem.W.krv_range, List.filterMap_reverse, PySem.W.krv_all]
theorem tuple_back {t sl : Addr} {t1 : Tok} {items : Array Value} {Q : Value → Shared → Prop} (ht : IsTup s.heap t items) (hs : s.heap.IsSliceOf sl .none .none (.int (-1) t1))
    (h : Q (.ref s.heap.objs.size) { s with heap := s.heap.push { cls := .type "tuple", data := .seq items.toList.reverse.toArray } }) (hsz : items.size ≤ sizeLine) : wpAny (model prog w) A (getItem (.ref t) (.ref sl)) Q E s := by
  have hok : sizeOk (.seq items.toList.reverse.toArray) := by
    show items.toList.reverse.toArray.size ≤ sizeLine
    rw [List.size_toArray, List.length_reverse, Array.length_toList]
    exact hsz
  obtain ⟨os, hos, hcs, hds⟩ := id hs
  have hTs : s.TypeIs (.ref sl) "slice" := ⟨os, hos, hcs⟩
  unfold getItem
  try with_reducible refine wpAny_holding ?_
  first | refine wpAny_bind (wpAny_pure ?_) | skip
  refine wpAny_bind (wpAny_sequenceKey ht.typeIs (by decide) ?_)
  refine wpAny_bind (wpAny_callSpecial?_slot (name := Str.ofString "__getitem__") ht.typeIs PyProof.Rows.slot_tuple_getitem (wpAny_call_entry PyProof.Rows.slot_tuple_getitem ht.typeIs entry_tuple_getitem ?_ (args_tuple_getitem _ _)))
  show wpAny _ _ (Builtin.Tuple.tupleItemsOf (.ref t) >>= _) _ _ s
  refine wpAny_bind (tupleItemsOf_ ht ?_)
  refine wpAny_bind (wpAny_typeOf hTs ?_)
  rw [if_pos (by decide)]
  refine wpAny_bind (applied_back hs ?_)
  have hno : ¬ ((((items.size : Int) - 1) == 0 && (-1 : Int) == 1 && items.size == items.size) = true) := by
    intro q
    rw [Bool.and_eq_true, Bool.and_eq_true] at q
    exact absurd q.1.2 (by decide)
  show wpAny _ _ (if (((items.size : Int) - 1) == 0 && (-1 : Int) == 1 && items.size == items.size) = true then _ else _) _ _ s
  rw [if_neg hno, pick_back]
  first
    | exact wpAny_bind (m := Builtin.Tuple.tupleExact _) (wpAny_newObj_type (wpAny_pure ⟨_, rfl, wpAny_pure h⟩) hok)
    | exact wpAny_bind (wpAny_newObj_type (wpAny_bind (wpAny_pure (wpAny_pure ⟨_, rfl, wpAny_pure h⟩))) hok)
end
section
variable {X : Cx} {p : Pl}
/-- e[::-1] -/
theorem pe_back (hK : p.K = X.K) {e : Expr} {te : TE} {k : Nat} {p1 p2 p3 pos : Pos} (m : Bool) (he : PE X e te) : PE X (.Subscript e (.Slice none none (some (.UnaryOp .USub (.Constant (.int 1) k p1) p2)) p3) pos) (tUn (r1 p (opRev m)) te) := by
  refine ⟨fun pins s σ H Q I h => ?_⟩
  refine Subscript_ (thn (he.run pins s σ H _ I h) fun v s1 ⟨x, H1, I1, r1, W, st, a, rp, ra, q⟩ => ?_)
  have hst : PO X (some (.UnaryOp .USub (.Constant (.int 1) k p1) p2)) (tPart (tUn (rU fun i => .int (-i)) (tC (.int 1)))) := po_some (pe_un un_neg pe_int)
  refine wpAny_Slice ?_
  rw [evalPart_none]
  refine wpAny_pure (wpAny_pure ?_)
  refine thn (hst.run pins s1 σ H1 (fun o H4 => o = some (-1) ∧ H4 = H1) I1 ⟨1, rfl, -1, rfl, rfl, rfl⟩) fun vs s4 ⟨o, H4, I4, ps, eo, e4⟩ => ?_
  subst eo
  subst e4
  have I5 : Inv X pins σ H4 { s4 with heap := s4.heap.push { cls := .type "slice", data := .fields #[.none, .none, vs] } } := I4.kept (t' := s4.toks) fun b ob q => Heap.get?_push_of_some _ q
  have hfr := I5.hok.fresh (Nat.le_refl _)
  unfold opRev at q
  split at q
  · obtain ⟨ad, ws, rfl, h1, q1⟩ := tup_rd rp ra
    cases r1
    obtain ⟨its, rv, ht, hz⟩ := I5.tuple (hK ▸ h1)
    cases ps with
    | int i t1 =>
      refine tail_any (ops := [.ref ad, .ref s4.heap.objs.size]) ht.typeIs (PyProof.Rows.slot_tuple_getitem.lookup) ?_ (by with_unfolding_all rfl)
      refine tuple_back ht (Heap.IsSliceOf.new _ .none .none (.int (-1) t1)) ?_ (by rw [List.size_toArray, ← rv.length]; exact hz)
      obtain ⟨W', l, f, rp', e⟩ := rp.fresh (a := _) (o := .tup ws.reverse) hfr (fun ps z => by cases z)
      refine ⟨.ref _, _, I5.laid (t' := s4.toks) (o := .tup ws.reverse) (fun b ob q => Heap.get?_push_of_some _ q) (Nat.le_refl _) ?_, rfl, q _ _ _ l f rp' (rel_tup (SqT.of e) (q1.reverse.mono l))⟩
      exact ⟨by rw [List.length_reverse]; exact hz, _, rv.reverse, ⟨_, Heap.get?_push_size _ rfl, rfl, _, rfl⟩⟩
  · split at q
    · rename_i xs hx
      obtain ⟨ad, ws, rfl, h1, q1⟩ := lst_rd rp hx ra
      cases r1
      obtain ⟨its, rv, ht, hz⟩ := I5.list (SqL.of h1)
      refine tail_any (ops := [.ref ad, .ref s4.heap.objs.size]) ht.isList.typeIs (PySem.slot_list_getitem.lookup) ?_ (by with_unfolding_all rfl)
      refine wpAny_getItem_list_slice ht.isList (Heap.IsSliceOf.new _ .none .none vs) .none .none ps (by decide) ?_ (by rw [List.size_toArray, ← rv.length]; exact hz)
      rw [PySem.W.krv_pick]
      refine ⟨.ref _, _, I5.laid (t' := s4.toks) (o := .lst ws.reverse) (fun b ob q => Heap.get?_push_of_some _ q) (Nat.le_refl _) ?_, rfl, mkL_ok rp q q1.reverse hfr⟩
      exact ⟨by rw [List.length_reverse]; exact hz, _, 0, rv.reverse, Heap.get?_push_size _ rfl⟩
    · exact q.elim
end
end Z

set_option Elab.async false
set_option linter.all false
set_option maxRecDepth 100000
/-! Z4: meanings of expressions by their parts, and their rules. -/
namespace Z
open PySem PySem.Spec PyProof.Rows L2
/-! ### meanings -/
def R.of {α : Type} : Option (α × Sto) → R α
  | some (d, s) => .ok d s
  | none => .bad
def mC (d : D) : ME := fun _ s => .ok d s
def mBad : ME := fun _ _ => .bad
def mVar (i : Nat) : ME := fun e s => match e[i]? with
  | some (some d) => .ok d s
  | _ => .bad
def m1 (f : B1) (a : ME) : ME := fun e s => (a e s).bind fun x s1 => R.of (f x s1)
def m2 (f : B2) (a b : ME) : ME := fun e s => (a e s).bind fun x s1 => (b e s1).bind fun y s2 => R.of (f x y s2)
def truthR (d : D) (s : Sto) : R Bool := match truth d s with
  | some b => .ok b s
  | none => .bad
def mT (a : ME) : MB := fun e s => (a e s).bind truthR
def mB (a : ME) : MB := fun e s => (a e s).bind fun d s1 => match d with
  | .bl b => .ok b s1
  | _ => .bad
def bNot (a : MB) : MB := fun e s => (a e s).bind fun b s1 => .ok (!b) s1
def bAnd (a b : MB) : MB := fun e s => (a e s).bind fun x s1 => if x then b e s1 else .ok false s1
def bOr (a b : MB) : MB := fun e s => (a e s).bind fun x s1 => if x then .ok true s1 else b e s1
def bIf (c a b : MB) : MB := fun e s => (c e s).bind fun x s1 => if x then a e s1 else b e s1
def mIf (c : MB) (a b : ME) : ME := fun e s => (c e s).bind fun x s1 => if x then a e s1 else b e s1
def mNot (a : ME) : ME := fun e s => (mT a e s).bind fun b s1 => .ok (.bl (!b)) s1
def mAnd (a b : ME) : ME := fun e s => (a e s).bind fun d s1 => (truthR d s1).bind fun k s2 => if k then b e s2 else .ok d s2
def mOr (a b : ME) : ME := fun e s => (a e s).bind fun d s1 => (truthR d s1).bind fun k s2 => if k then .ok d s2 else b e s2
def aNil : MA := fun _ s => .ok [] s
def aCons (a : ME) (r : MA) : MA := fun e s => (a e s).bind fun x s1 => (r e s1).bind fun xs s2 => .ok (x :: xs) s2
def mTup (as : MA) : ME := fun e s => (as e s).bind fun xs s1 => R.of (mkT xs s1)
def mLst (m : Bool) (as : MA) : ME := fun e s => (as e s).bind fun xs s1 => R.of (mkL m xs s1)
/-- a op b op' c -/
def mChain (f g : B2) (a b c : ME) : ME := fun e s => (a e s).bind fun x s1 => (b e s1).bind fun y s2 => (R.of (f x y s2)).bind fun z s3 => match z with
  | .bl true => (c e s3).bind fun w s4 => R.of (g y w s4)
  | .bl false => .ok (.bl false) s3
  | _ => .bad
abbrev MO := Env → Sto → R (Option Int)
def oNone : MO := fun _ s => .ok none s
def oSome (a : ME) : MO := fun e s => (a e s).bind fun d s1 => match d with
  | .int i => .ok (some i) s1
  | _ => .bad
def mSl (m : Bool) (a : ME) (lo hi : MO) : ME := fun e s => (a e s).bind fun x s1 => (lo e s1).bind fun l s2 => (hi e s2).bind fun h s3 => R.of (opSl m x l h s3)

section
variable {X : Cx} {p : Pl} {WX : L2.WX}
theorem Post.of {α β : Type} {Rl : Wd → α → β → Prop} {W : Wd} {H : Hp} {EX : Nat → Hp → Prop} {Q : β → Hp → Prop} {r : Option (α × Sto)} (h : Post p Rl W H EX Q (R.of r)) : PostO p Rl W H Q r := by
  cases r with
  | none => exact h
  | some x => obtain ⟨d, s⟩ := x; exact h
theorem Post.same {α β : Type} {Rl : Wd → α → β → Prop} {W : Wd} {s : Sto} {H : Hp} {EX : Nat → Hp → Prop} {Q : β → Hp → Prop} {d : α} {v : β} (r : Rep p W s H) (h : Post p Rl W H EX Q (.ok d s)) (rv : Rl W d v) : Q v H := h W H v (Wd.le.refl W) (Fr.refl W H) r rv
/-! ### names, constants -/
theorem r_var {i : Nat} {x : Str} {pos : Pos} (hN : X.N[i]? = some x) (hv : Vis X.env.scope x) (hd : (x == ("__debug__" : Str)) = false) (hcd : (x == ("__classdict__" : Str)) = false) : PE X (.Name x pos) (tE p WX (mVar i)) := by
  refine PE.imp (pe_var hN hv hd hcd) fun σ H Q ⟨W, e, s, re, rp, q⟩ => ?_
  unfold mVar at q
  split at q
  · rename_i d hd
    obtain ⟨v, h1, h2⟩ := re.at_ i d hd
    exact ⟨v, h1, q.same rp h2⟩
  · exact q.elim
theorem r_bad {e : Expr} : PE X e (tE p WX mBad) := ⟨fun _ _ _ _ _ _ ⟨_, _, _, _, _, q⟩ => q.elim⟩
theorem r_C {e : Expr} {d : D} {v : V} (h : PE X e (tC v)) (r : ∀ W, RelD p.K W d v) : PE X e (tE p WX (mC d)) :=
  PE.imp h fun σ H Q ⟨W, e, s, re, rp, q⟩ => q.same rp (r W)
/-! ### operators -/
theorem r_m1 {f : B1} {a : ME} {ea e : Expr} (hu : ∀ {t : TE}, PE X ea t → PE X e (tUn (r1 p f) t)) (ha : PE X ea (tE p WX a)) : PE X e (tE p WX (m1 f a)) :=
  PE.imp (hu ha) fun σ H Q ⟨W, e, s, re, rp, q⟩ => ⟨W, e, s, re, rp, q.bind fun W1 H1 d v s1 l fr rp1 rv q1 => ⟨W1, s1, d, rp1, rv, q1.of⟩⟩
theorem t_m2 {f : B2} {a b : ME} {σ : L2.St} {H : Hp} {Q : VK} (h : tE p WX (m2 f a b) σ H Q) : tOp (r2 p f) (tE p WX a) (tE p WX b) σ H Q := by
  obtain ⟨W, e, s, re, rp, q⟩ := h
  exact ⟨W, e, s, re, rp, q.bind fun W1 H1 d v s1 l fr rp1 rv q1 => ⟨W1, e, s1, re.mono l, rp1, q1.bind fun W2 H2 d2 v2 s2 l2 fr2 rp2 rv2 q2 => ⟨W2, s2, d, d2, rp2, rv.mono l2, rv2, q2.of⟩⟩⟩
theorem r_bin {f : B2} {op : Operator} {a b : ME} {ea eb : Expr} {pos : Pos} (ho : OpR X (binaryOp op) (r2 p f)) (ha : PE X ea (tE p WX a)) (hb : PE X eb (tE p WX b)) : PE X (.BinOp ea op eb pos) (tE p WX (m2 f a b)) :=
  PE.imp (pe_op ho ha hb) fun _ _ _ h => t_m2 h
theorem r_cmp {f : B2} {op : CmpOp} {a b : ME} {ea eb : Expr} {pos : Pos} (ho : OpR X (compareOp op) (r2 p f)) (ha : PE X ea (tE p WX a)) (hb : PE X eb (tE p WX b)) (hm : behindInMarks op eb = false) : PE X (.Compare ea [op] [eb] pos) (tE p WX (m2 f a b)) :=
  PE.imp (pe_cmpR ho ha hb hm) fun _ _ _ h => t_m2 h
/-- what follows may be folded into the wish -/
theorem Post.fold {α α' β β' : Type} {Rl : Wd → α → β → Prop} {Rl' : Wd → α' → β' → Prop} {W : Wd} {H : Hp} {EX : Nat → Hp → Prop} {Q : β' → Hp → Prop} {G : β → Hp → Prop} {r : R α} {f : α → Sto → R α'}
    (h : Post p Rl' W H EX Q (r.bind f)) (hg : ∀ W' H' d v s, W.le W' → Fr W W' H H' → Rep p W' s H' → Rl W' d v → Post p Rl' W' H' EX Q (f d s) → G v H') : Post p Rl W H EX G r := h.bind hg
theorem Post.isB {W : Wd} {H : Hp} {EX : Nat → Hp → Prop} {Q : Bool → Hp → Prop} {r : R D} (h : Post p (fun _ b c => c = b) W H EX Q (r.bind fun d s1 => match d with | .bl b => .ok b s1 | _ => .bad)) :
    Post p (RelD p.K) W H EX (fun x H1 => ∃ k, x = .bl k ∧ Q k H1) r := h.fold fun W1 H1 d v s1 l fr rp1 rv q1 => by
  cases d with
  | bl b => exact ⟨b, relD_bl rv, q1.same rp1 rfl⟩
  | _ => exact q1.elim
theorem truth_ok {W : Wd} {st : Sto} {H : Hp} {d : D} {v : V} {k : Bool} (rp : Rep p W st H) (h : truth d st = some k) (rv : RelD p.K W d v) : TruV p.K v H k := by
  have eE : ∀ {ds : List D} {vs : List V}, RelDs p.K W ds vs → (!ds.isEmpty) = !vs.isEmpty := fun {ds vs} r => by
    cases ds with
    | nil => unfold RelDs at r; subst r; rfl
    | cons a b => unfold RelDs at r; obtain ⟨x, y, rfl, _, _⟩ := r; rfl
  cases d with
  | non => cases relD_non rv; cases h; rfl
  | bl b => cases relD_bl rv; cases h; rfl
  | int i => cases relD_int rv; cases h; rfl
  | str x =>
    cases relD_str rv
    have h' : (if x.length ≤ line then some (!x.cps.toList.isEmpty) else none) = some k := h
    split at h'
    · rename_i hz
      cases h'
      refine ⟨by rw [sizeLine_eq]; exact hz, ?_⟩
      have e : x.length = x.cps.toList.length := by simp [Str.length]
      rw [e]
      cases x.cps.toList with
      | nil => rfl
      | cons a b =>
        show true = _
        have : (((a :: b).length : Nat) : Int) ≠ 0 := by
          rw [List.length_cons]; omega
        simp only [bne_iff_ne, ne_eq, this, not_false_eq_true, bne_self_eq_false, Bool.true_eq]
    · cases h'
  | tup xs =>
    obtain ⟨a, vs, rfl, h1, q1⟩ := tup_rd rp rv
    cases h
    exact .inr (.inl ⟨vs, h1, eE q1⟩)
  | lst xs =>
    obtain ⟨a, vs, rfl, h1, q1⟩ := lst_rd (d := .lst xs) rp rfl rv
    cases h
    exact .inl ⟨vs, SqL.of h1, eE q1⟩
  | scr xs =>
    obtain ⟨a, vs, rfl, h1, q1⟩ := relD_scr rv
    cases h
    exact .inl ⟨vs, seqL_mono rp.fz h1, eE q1⟩
  | ref n =>
    obtain ⟨a, rfl, i⟩ := relD_ref rv
    have h' : (match st[n]? with | some (.lst xs) => some (!xs.isEmpty) | some (.dct kvs) => some (!kvs.isEmpty) | _ => none) = some k := h
    split at h'
    · rename_i xs e
      cases h'
      obtain ⟨z, vs, h1, q1⟩ := rp.obs n _ a e i
      exact .inl ⟨vs, SqL.of h1, eE q1⟩
    · rename_i kvs e
      cases h'
      obtain ⟨z, kws, h1, q1⟩ := rp.obs n _ a e i
      refine .inr (.inr ⟨kws, h1, ?_⟩)
      cases q1 <;> rfl
    · cases h'
  | lam n => cases h
  | dic ks n => cases h
theorem Post.isT {W : Wd} {H : Hp} {EX : Nat → Hp → Prop} {Q : Bool → Hp → Prop} {r : R D} (hK : p.K = X.K) (h : Post p (fun _ b c => c = b) W H EX Q (r.bind truthR)) :
    Post p (RelD p.K) W H EX (fun x H1 => ∃ k, TruV X.K x H1 k ∧ Q k H1) r := h.fold fun W1 H1 d v s1 l fr rp1 rv q1 => by
  unfold truthR at q1
  split at q1
  · rename_i k hk
    exact ⟨k, hK ▸ truth_ok rp1 hk rv, q1.same rp1 rfl⟩
  · exact q1.elim
theorem m2_fold {f : B2} {a b : ME} {σ : L2.St} {H : Hp} {G : VK} {W : Wd} {e : Env} {s : Sto} (re : RelE p W e σ) (rp : Rep p W s H) (q : Post p (RelD p.K) W H (exW p WX σ) G (m2 f a b e s)) : tOp (r2 p f) (tE p WX a) (tE p WX b) σ H G := t_m2 ⟨W, e, s, re, rp, q⟩
theorem r_cmpT {f : B2} {op : CmpOp} {a b : ME} {ea eb : Expr} {pos : Pos} (ho : OpR X (compareOp op) (r2 p f)) (ha : PE X ea (tE p WX a)) (hb : PE X eb (tE p WX b)) (hm : behindInMarks op eb = false) : PT X (.Compare ea [op] [eb] pos) (tB p WX (mB (m2 f a b))) :=
  PT.imp (pt_cmpR ho ha hb hm) fun _ _ _ ⟨_, _, _, re, rp, q⟩ => m2_fold re rp (Post.isB q)
/-- any expression as a test, by its truth -/
theorem r_T {a : ME} {ea : Expr} (hK : p.K = X.K) (ha : PE X ea (tE p WX a)) (he : ∀ whole, isTrue ea X.env whole = (do let v ← whole; standAt ea.pos; holding [v] (truthy v))) : PT X ea (tB p WX (mT a)) :=
  PT.imp (pt_truth ha he) fun _ _ _ ⟨W, e, s, re, rp, q⟩ => ⟨W, e, s, re, rp, Post.isT hK q⟩
/-! ### chains -/
theorem t_chain {f g : B2} {a b c : ME} {σ : L2.St} {H : Hp} {Q : VK} (h : tE p WX (mChain f g a b c) σ H Q) : tChain (r2 p f) (r2 p g) (tE p WX a) (tE p WX b) (tE p WX c) σ H Q := by
  obtain ⟨W, e, s, re, rp, q⟩ := h
  refine ⟨W, e, s, re, rp, q.bind fun W1 H1 d v s1 l fr rp1 rv q1 => ⟨W1, e, s1, re.mono l, rp1, q1.bind fun W2 H2 d2 v2 s2 l2 fr2 rp2 rv2 q2 => ⟨W2, s2, d, d2, rp2, rv.mono l2, rv2, Post.of (Post.fold q2 fun W3 H3 d3 v3 s3 l3 fr3 rp3 rv3 q3 => ?_)⟩⟩⟩
  cases d3 with
  | bl k =>
    refine ⟨k, relD_bl rv3, ?_⟩
    cases k with
    | true =>
      rw [if_pos rfl]
      have q4 : Post p (RelD p.K) W3 H3 (exW p WX σ) Q ((c e s3).bind fun w s4 => R.of (g d2 w s4)) := q3
      exact ⟨W3, e, s3, ((re.mono l).mono l2).mono l3, rp3, q4.bind fun W4 H4 d4 v4 s4 l4 fr4 rp4 rv4 q5 => ⟨W4, s4, d2, d4, rp4, (rv2.mono l3).mono l4, rv4, q5.of⟩⟩
    | false =>
      rw [if_neg Bool.false_ne_true]
      have q4 : Post p (RelD p.K) W3 H3 (exW p WX σ) Q (.ok (.bl false) s3) := q3
      exact q4.same rp3 rel_bl
  | _ => exact q3.elim
theorem r_chain {f g : B2} {op op' : CmpOp} {a b c : ME} {ea eb ec : Expr} {pos : Pos} (ho : OpR X (compareOp op) (r2 p f)) (ho' : OpR X (compareOp op') (r2 p g)) (ha : PE X ea (tE p WX a)) (hb : PE X eb (tE p WX b)) (hc : PE X ec (tE p WX c)) (hm : lastMarks [op, op'] [eb, ec] = false) :
    PE X (.Compare ea [op, op'] [eb, ec] pos) (tE p WX (mChain f g a b c)) := PE.imp (pe_chain ho ho' ha hb hc hm) fun _ _ _ h => t_chain h
theorem r_chainT {f g : B2} {op op' : CmpOp} {a b c : ME} {ea eb ec : Expr} {pos : Pos} (ho : OpR X (compareOp op) (r2 p f)) (ho' : OpR X (compareOp op') (r2 p g)) (ha : PE X ea (tE p WX a)) (hb : PE X eb (tE p WX b)) (hc : PE X ec (tE p WX c)) (hm : lastMarks [op, op'] [eb, ec] = false) :
    PT X (.Compare ea [op, op'] [eb, ec] pos) (tB p WX (mB (mChain f g a b c))) := PT.imp (pt_chain ho ho' ha hb hc hm) fun _ _ _ ⟨W, e, s, re, rp, q⟩ => t_chain ⟨W, e, s, re, rp, Post.isB q⟩
/-! ### and, or, not, if -/
theorem r_bNot {a : MB} {ea : Expr} {pos : Pos} (ha : PT X ea (tB p WX a)) : PT X (.UnaryOp .Not ea pos) (tB p WX (bNot a)) :=
  PT.imp (pt_not ha) fun _ _ _ ⟨W, e, s, re, rp, q⟩ => ⟨W, e, s, re, rp, q.fold fun W1 H1 d v s1 l fr rp1 rv q1 => by subst rv; exact Post.same rp1 q1 rfl⟩
theorem PW.imp {X : Cx} {e : Expr} {t t' : TT} (h : PW X e t) (i : ∀ σ H Q, t' σ H Q → t σ H Q) : PW X e t' := ⟨fun whole pins s σ H Q I q => h.run whole pins s σ H Q I (i σ H Q q)⟩
theorem r_bAnd {a b : MB} {ea eb : Expr} {rest : List Expr} {pos : Pos} (ha : PT X ea (tB p WX a)) (hb : PW X (.BoolOp .And (eb :: rest) pos) (tB p WX b)) : PW X (.BoolOp .And (ea :: eb :: rest) pos) (tB p WX (bAnd a b)) :=
  PW.imp (pw_and ha hb) fun _ _ _ ⟨W, e, s, re, rp, q⟩ => ⟨W, e, s, re, rp, q.fold fun W1 H1 d v s1 l fr rp1 rv q1 => by
    subst rv
    cases v with
    | true => rw [if_pos rfl]; exact ⟨W1, e, s1, re.mono l, rp1, q1⟩
    | false => rw [if_neg Bool.false_ne_true]; exact Post.same rp1 q1 rfl⟩
theorem r_bOr {a b : MB} {ea eb : Expr} {rest : List Expr} {pos : Pos} (ha : PT X ea (tB p WX a)) (hb : PW X (.BoolOp .Or (eb :: rest) pos) (tB p WX b)) : PW X (.BoolOp .Or (ea :: eb :: rest) pos) (tB p WX (bOr a b)) :=
  PW.imp (pw_or ha hb) fun _ _ _ ⟨W, e, s, re, rp, q⟩ => ⟨W, e, s, re, rp, q.fold fun W1 H1 d v s1 l fr rp1 rv q1 => by
    subst rv
    cases v with
    | true => rw [if_pos rfl]; exact Post.same rp1 q1 rfl
    | false => rw [if_neg Bool.false_ne_true]; exact ⟨W1, e, s1, re.mono l, rp1, q1⟩⟩
theorem r_if {c : MB} {a b : ME} {ec ea eb : Expr} {pos : Pos} (hc : PT X ec (tB p WX c)) (ha : PE X ea (tE p WX a)) (hb : PE X eb (tE p WX b)) : PE X (.IfExp ec ea eb pos) (tE p WX (mIf c a b)) :=
  PE.imp (pe_ifExp hc ha hb) fun _ _ _ ⟨W, e, s, re, rp, q⟩ => ⟨W, e, s, re, rp, q.fold fun W1 H1 d v s1 l fr rp1 rv q1 => by
    subst rv
    cases v with
    | true => rw [if_pos rfl]; exact ⟨W1, e, s1, re.mono l, rp1, q1⟩
    | false => rw [if_neg Bool.false_ne_true]; exact ⟨W1, e, s1, re.mono l, rp1, q1⟩⟩
theorem Post.tru {W : Wd} {H : Hp} {α β : Type} {Rl : Wd → α → β → Prop} {EX : Nat → Hp → Prop} {Q : β → Hp → Prop} {d : D} {v : V} {st : Sto} {f : Bool → Sto → R α} (hK : p.K = X.K) (rp : Rep p W st H) (rv : RelD p.K W d v) (h : Post p Rl W H EX Q ((truthR d st).bind f)) :
    ∃ k, TruV X.K v H k ∧ Post p Rl W H EX Q (f k st) := by
  unfold truthR at h
  split at h
  · rename_i k hk
    exact ⟨k, hK ▸ truth_ok rp hk rv, h⟩
  · exact h.elim
theorem r_and {a b : ME} {ea eb : Expr} {rest : List Expr} {pos : Pos} (hK : p.K = X.K) (ha : PE X ea (tE p WX a)) (hb : PE X (.BoolOp .And (eb :: rest) pos) (tE p WX b)) : PE X (.BoolOp .And (ea :: eb :: rest) pos) (tE p WX (mAnd a b)) :=
  PE.imp (pe_andT ha hb) fun _ _ _ ⟨W, e, s, re, rp, q⟩ => ⟨W, e, s, re, rp, q.fold fun W1 H1 d v s1 l fr rp1 rv q1 => by
    obtain ⟨k, hk, q2⟩ := Post.tru hK rp1 rv q1
    refine ⟨k, hk, ?_⟩
    cases k with
    | true => rw [if_pos rfl]; exact ⟨W1, e, s1, re.mono l, rp1, q2⟩
    | false => rw [if_neg Bool.false_ne_true]; exact Post.same rp1 q2 rv⟩
theorem r_or {a b : ME} {ea eb : Expr} {rest : List Expr} {pos : Pos} (hK : p.K = X.K) (ha : PE X ea (tE p WX a)) (hb : PE X (.BoolOp .Or (eb :: rest) pos) (tE p WX b)) : PE X (.BoolOp .Or (ea :: eb :: rest) pos) (tE p WX (mOr a b)) :=
  PE.imp (pe_orT ha hb) fun _ _ _ ⟨W, e, s, re, rp, q⟩ => ⟨W, e, s, re, rp, q.fold fun W1 H1 d v s1 l fr rp1 rv q1 => by
    obtain ⟨k, hk, q2⟩ := Post.tru hK rp1 rv q1
    refine ⟨k, hk, ?_⟩
    cases k with
    | true => rw [if_pos rfl]; exact Post.same rp1 q2 rv
    | false => rw [if_neg Bool.false_ne_true]; exact ⟨W1, e, s1, re.mono l, rp1, q2⟩⟩
theorem r_not {a : ME} {ea : Expr} {pos : Pos} (hK : p.K = X.K) (ha : PE X ea (tE p WX a)) : PE X (.UnaryOp .Not ea pos) (tE p WX (mNot a)) :=
  PE.imp (pe_notT ha) fun σ H Q ⟨W, e, s, re, rp, q⟩ => by
    have q' : Post p (RelD p.K) W H (exW p WX σ) Q ((a e s).bind fun d s1 => (truthR d s1).bind fun b s2 => .ok (.bl (!b)) s2) := by
      have e1 : mNot a e s = (a e s).bind fun d s1 => (truthR d s1).bind fun b s2 => .ok (.bl (!b)) s2 := by
        unfold mNot mT
        cases a e s <;> rfl
      rw [← e1]; exact q
    exact ⟨W, e, s, re, rp, q'.fold fun W1 H1 d v s1 l fr rp1 rv q1 => by
      obtain ⟨k, hk, q2⟩ := Post.tru hK rp1 rv q1
      exact ⟨k, hk, Post.same rp1 q2 rel_bl⟩⟩
/-! ### arguments, displays -/
theorem r_nil : PA X [] (tA p WX aNil) := PA.imp pa_nil fun _ _ _ ⟨W, e, s, re, rp, q⟩ => Post.same rp q relDs_nil
theorem r_cons {a : ME} {r : MA} {ea : Expr} {es : List Expr} (ha : PE X ea (tE p WX a)) (hr : PA X es (tA p WX r)) (he : starEach (ea :: es) X.env = (false, eval ea X.env) :: starEach es X.env) : PA X (ea :: es) (tA p WX (aCons a r)) :=
  PA.imp (pa_cons ha hr he) fun _ _ _ ⟨W, e, s, re, rp, q⟩ => ⟨W, e, s, re, rp, q.fold fun W1 H1 d v s1 l fr rp1 rv q1 => ⟨W1, e, s1, re.mono l, rp1, q1.fold fun W2 H2 d2 v2 s2 l2 fr2 rp2 rv2 q2 => Post.same rp2 q2 (relDs_cons (rv.mono l2) rv2)⟩⟩
theorem r_tup {as : MA} {es : List Expr} {k : Nat} {pos : Pos} (ha : PA X es (tA p WX as)) : PE X (.Tuple es k pos) (tE p WX (mTup as)) :=
  PE.imp (pe_tup ha) fun _ _ _ ⟨W, e, s, re, rp, q⟩ => ⟨W, e, s, re, rp, q.fold fun W1 H1 d v s1 l fr rp1 rv q1 => ⟨by rw [← rv.length]; exact mkT_len q1.of, fun a n => mkT_ok rp1 q1.of rv n⟩⟩
theorem r_lst {m : Bool} {as : MA} {es : List Expr} {pos : Pos} (ha : PA X es (tA p WX as)) : PE X (.List es pos) (tE p WX (mLst m as)) :=
  PE.imp (pe_lst ha) fun _ _ _ ⟨W, e, s, re, rp, q⟩ => ⟨W, e, s, re, rp, q.fold fun W1 H1 d v s1 l fr rp1 rv q1 => ⟨by rw [← rv.length]; exact mkL_len q1.of, fun a n => mkL_ok rp1 q1.of rv n⟩⟩
/-! ### subscripts -/
theorem r_ix {a b : ME} {ea eb : Expr} {pos : Pos} (hK : p.K = X.K) (ha : PE X ea (tE p WX a)) (hb : PE X eb (tE p WX b)) (hs : PlainIx eb) : PE X (.Subscript ea eb pos) (tE p WX (m2 opIx a b)) :=
  PE.imp (pe_ix (ix_R hK) ha hb hs) fun _ _ _ h => t_m2 h
theorem PO.imp {X : Cx} {e : Option Expr} {t t' : TO} (h : PO X e t) (i : ∀ σ H Q, t' σ H Q → t σ H Q) : PO X e t' := ⟨fun pins s σ H Q I q => h.run pins s σ H Q I (i σ H Q q)⟩
def tO (p : Pl) (WX : L2.WX) (m : MO) : TO := fun σ H Q => ∃ W e s, RelE p W e σ ∧ Rep p W s H ∧ Post p (fun _ b c => c = b) W H (exW p WX σ) Q (m e s)
theorem r_oNone : PO X none (tO p WX oNone) := PO.imp po_none fun _ _ _ ⟨W, e, s, re, rp, q⟩ => Post.same rp q rfl
theorem r_oSome {a : ME} {ea : Expr} (ha : PE X ea (tE p WX a)) : PO X (some ea) (tO p WX (oSome a)) := PO.imp (po_some ha) fun _ _ _ ⟨W, e, s, re, rp, q⟩ => ⟨W, e, s, re, rp, q.fold fun W1 H1 d v s1 l fr rp1 rv q1 => by
  cases d with
  | int i => exact ⟨i, relD_int rv, Post.same rp1 q1 rfl⟩
  | _ => exact q1.elim⟩
theorem r_sl {m : Bool} {a : ME} {lo hi : MO} {ea : Expr} {el eh : Option Expr} {p2 pos : Pos} (hK : p.K = X.K) (ha : PE X ea (tE p WX a)) (hl : PO X el (tO p WX lo)) (hh : PO X eh (tO p WX hi)) : PE X (.Subscript ea (.Slice el eh none p2) pos) (tE p WX (mSl m a lo hi)) :=
  PE.imp (pe_slice (sl_R hK m) ha hl hh) fun _ _ _ ⟨W, e, s, re, rp, q⟩ => ⟨W, e, s, re, rp, q.fold fun W1 H1 d v s1 l fr rp1 rv q1 => ⟨W1, e, s1, re.mono l, rp1, q1.fold fun W2 H2 d2 v2 s2 l2 fr2 rp2 rv2 q2 =>
    ⟨W2, e, s2, (re.mono l).mono l2, rp2, q2.fold fun W3 H3 d3 v3 s3 l3 fr3 rp3 rv3 q3 => by subst rv2; subst rv3; exact ⟨W3, s3, d, rp3, (rv.mono l2).mono l3, q3.of⟩⟩⟩⟩
theorem r_back {m : Bool} {a : ME} {ea : Expr} {k : Nat} {p1 p2 p3 pos : Pos} (hK : p.K = X.K) (ha : PE X ea (tE p WX a)) : PE X (.Subscript ea (.Slice none none (some (.UnaryOp .USub (.Constant (.int 1) k p1) p2)) p3) pos) (tE p WX (m1 (opRev m) a)) := r_m1 (fun h => pe_back hK m h) ha
end
end Z

set_option Elab.async false
set_option linter.all false
set_option maxRecDepth 100000
/-! Z5: statements. -/
namespace Z
open PySem PySem.Spec PyProof.Rows L2
/-! ### meanings -/
def R.out {α : Type} (r : R α) (e : Env) (f : α → Sto → Out) : Out := match r with
  | .ok a s => f a s
  | .exc c s => .ex c e s
  | .bad => .bad
/-- a store: no exception comes of it -/
abbrev Tg := D → Env → Sto → Option (Env × Sto)
def goOn (r : Option (Env × Sto)) : Out := match r with
  | some (e, s) => .nx e s
  | none => .bad
def sBad : MS := fun _ _ => .bad
def sPass : MS := fun e s => .nx e s
def sBreak : MS := fun e s => .bk e s
def sCont : MS := fun e s => .ct e s
def sRet (m : ME) : MS := fun e s => (m e s).out e fun d s1 => .rt d s1
def sRetN : MS := fun _ s => .rt .non s
def sExpr (m : ME) : MS := fun e s => (m e s).out e fun _ s1 => .nx e s1
def sIf (c : MB) (a b : MS) : MS := fun e s => (c e s).out e fun x s1 => if x then a e s1 else b e s1
def sSeq (a b : MS) : MS := fun e s => match a e s with
  | .nx e1 s1 => b e1 s1
  | .rt d s1 => .rt d s1
  | .bk e1 s1 => .bk e1 s1
  | .ct e1 s1 => .ct e1 s1
  | .ex c e1 s1 => .ex c e1 s1
  | .bad => .bad
def sAsg (t : Tg) (m : ME) : MS := fun e s => (m e s).out e fun d s1 => goOn (t d e s1)
def tName (i : Nat) : Tg := fun d e s => some (e.set i (some d), s)
def tAll : List Tg → List D → Env → Sto → Option (Env × Sto)
  | [], [], e, s => some (e, s)
  | t :: ts, d :: ds, e, s => (match t d e s with
    | some (e1, s1) => tAll ts ds e1 s1
    | none => none)
  | _, _, _, _ => none
def tTup (ts : List Tg) : Tg := fun d e s => match d with
  | .tup xs => tAll ts xs e s
  | _ => none
/-- a store to a place -/
abbrev B3 := D → D → D → Sto → Option Sto
def setIx : B3 := fun o i v s => match o, i with
  | .ref n, .int k => (match atS n s with
    | some xs => (match L2.ixN xs.length k with
      | some j => some (s.set n (.lst (xs.set j v)))
      | none => none)
    | none => none)
  | _, _ => none
def tSub (o i : ME) : Tg := fun d e s => match o e s with
  | .ok od s1 => (match i e s1 with
    | .ok id s2 => (match setIx od id d s2 with
      | some s3 => some (e, s3)
      | none => none)
    | _ => none)
  | _ => none
/-- in place -/
def ipAdd : B2 := fun x y s => match x, y with
  | .int i, .int j => some (.int (i + j), s)
  | .str i, .str j => if i.length + j.length ≤ line then some (.str (i ++ j), s) else none
  | .ref n, y => (match atS n s, lstOf y s with
    | some xs, some ys => if xs.length + ys.length ≤ line then some (.ref n, s.set n (.lst (xs ++ ys))) else none
    | _, _ => none)
  | _, _ => none
def ipBin : Operator → B2
  | .Add => ipAdd
  | .Sub => opSub
  | .Mult => fun x y s => match x, y with
    | .int i, .int j => if big i || big j then some (.int (i * j), s) else none
    | _, _ => none
  | .FloorDiv => opFdiv
  | .Mod => opMod
  | _ => fun _ _ _ => none
def sAug (i : Nat) (f : B2) (m : ME) : MS := fun e s => (mVar i e s).out e fun x s0 => (m e s0).out e fun y s1 => (R.of (f x y s1)).out e fun z s2 => .nx (e.set i (some z)) s2
abbrev MI := Env → Sto → R (List D)
def forL (t : Tg) (b : MS) : List D → Env → Sto → Out
  | [], e, s => .nx e s
  | d :: ds, e, s => match t d e s with
    | some (e1, s1) => (match b e1 s1 with
      | .nx e2 s2 => forL t b ds e2 s2
      | .ct e2 s2 => forL t b ds e2 s2
      | .bk e2 s2 => .nx e2 s2
      | .rt d s2 => .rt d s2
      | .ex c e2 s2 => .ex c e2 s2
      | .bad => .bad)
    | none => .bad
def sFor (t : Tg) (i : MI) (b : MS) : MS := fun e s => (i e s).out e fun ds s1 => forL t b ds e s1
def whileL (c : MB) (b : MS) : Nat → Env → Sto → Out
  | 0, _, _ => .bad
  | n + 1, e, s => (c e s).out e fun x s1 => if x then (match b e s1 with
      | .nx e2 s2 => whileL c b n e2 s2
      | .ct e2 s2 => whileL c b n e2 s2
      | .bk e2 s2 => .nx e2 s2
      | .rt d s2 => .rt d s2
      | .ex c e2 s2 => .ex c e2 s2
      | .bad => .bad)
    else .nx e s1
/-- more turns than any loop takes -/
abbrev turns : Nat := 1000000000
def sWhile (c : MB) (b : MS) : MS := fun e s => whileL c b turns e s

/-! ### readings -/
def PostS (p : Pl) (W : Wd) (H : Hp) (WX : L2.WX) (D : Ends) : Out → Prop
  | .nx e s => ∀ W' H' σ', W.le W' → Fr W W' H H' → Rep p W' s H' → RelE p W' e σ' → D.nx σ' H'
  | .rt d s => ∀ W' H' v, W.le W' → Fr W W' H H' → Rep p W' s H' → RelD p.K W' d v → D.rt v H'
  | .bk e s => ∀ W' H' σ', W.le W' → Fr W W' H H' → Rep p W' s H' → RelE p W' e σ' → D.bk σ' H'
  | .ct e s => ∀ W' H' σ', W.le W' → Fr W W' H H' → Rep p W' s H' → RelE p W' e σ' → D.ct σ' H'
  | .ex c e s => ∀ W' H' σ', W.le W' → Fr W W' H H' → Rep p W' s H' → RelE p W' e σ' → WX (.ref (p.xa (c / 2))) (tgX c) σ' H'
  | .bad => False
def tS (p : Pl) (WX : L2.WX) (m : MS) : TS := fun D σ H => ∃ W e s, RelE p W e σ ∧ Rep p W s H ∧ PostS p W H WX D (m e s)
def PostT (p : Pl) (W : Wd) (H : Hp) (Q : L2.St → Hp → Prop) : Option (Env × Sto) → Prop
  | some (e, s) => ∀ W' H' σ', W.le W' → Fr W W' H H' → Rep p W' s H' → RelE p W' e σ' → Q σ' H'
  | none => False
def gT (p : Pl) (t : Tg) : TG := fun v σ H Q => ∃ W e s d, RelE p W e σ ∧ Rep p W s H ∧ RelD p.K W d v ∧ PostT p W H Q (t d e s)
def gTs (p : Pl) (ts : List Tg) : TGs := fun vs σ H Q => ∃ W e s ds, RelE p W e σ ∧ Rep p W s H ∧ RelDs p.K W ds vs ∧ PostT p W H Q (tAll ts ds e s)
section
variable {X : Cx} {p : Pl} {WX : L2.WX} {W W' : Wd} {H H' : Hp} {D : Ends}
theorem PostS.re {o : Out} (l : W.le W') (f : Fr W W' H H') (q : PostS p W H WX D o) : PostS p W' H' WX D o := by
  cases o with
  | nx e s => exact fun W2 H2 v l2 f2 => q W2 H2 v (l.trans l2) (f.trans f2)
  | rt d s => exact fun W2 H2 v l2 f2 => q W2 H2 v (l.trans l2) (f.trans f2)
  | bk e s => exact fun W2 H2 v l2 f2 => q W2 H2 v (l.trans l2) (f.trans f2)
  | ct e s => exact fun W2 H2 v l2 f2 => q W2 H2 v (l.trans l2) (f.trans f2)
  | ex c e s => exact fun W2 H2 v l2 f2 => q W2 H2 v (l.trans l2) (f.trans f2)
  | bad => exact q
/-- an evaluation ahead of the rest of a statement -/
theorem PostS.eval {α β : Type} {Rl : Wd → α → β → Prop} {r : R α} {e : Env} {σ : L2.St} {f : α → Sto → Out} {G : β → Hp → Prop} (re : RelE p W e σ) (q : PostS p W H WX D (r.out e f))
    (hg : ∀ W' H' d v s, W.le W' → Fr W W' H H' → Rep p W' s H' → Rl W' d v → PostS p W' H' WX D (f d s) → G v H') : Post p Rl W H (exW p WX σ) G r := by
  cases r with
  | ok d s => exact fun W' H' v l fr rp rv => hg W' H' d v s l fr rp rv (PostS.re l fr q)
  | exc c s => exact fun W' H' l fr rp => q W' H' σ l fr rp (re.mono l)
  | bad => exact q
theorem PostS.nx {e : Env} {s : Sto} {σ : L2.St} (q : PostS p W H WX D (.nx e s)) (rp : Rep p W s H) (re : RelE p W e σ) : D.nx σ H := q W H σ (Wd.le.refl W) (Fr.refl W H) rp re
theorem PostS.rt {d : Z.D} {s : Sto} {v : V} (q : PostS p W H WX D (.rt d s)) (rp : Rep p W s H) (rv : RelD p.K W d v) : D.rt v H := q W H v (Wd.le.refl W) (Fr.refl W H) rp rv
/-! ### small statements -/
theorem r_pass {pos : Pos} : PS X (.Pass pos) (tS p WX sPass) := PS.imp ps_pass fun _ _ _ ⟨_, _, _, re, rp, q⟩ => q.nx rp re
theorem r_break {pos : Pos} : PS X (.Break pos) (tS p WX sBreak) := PS.imp ps_break fun _ _ _ ⟨W, _, _, re, rp, q⟩ => q W _ _ (Wd.le.refl W) (Fr.refl W _) rp re
theorem r_cont {pos : Pos} : PS X (.Continue pos) (tS p WX sCont) := PS.imp ps_continue fun _ _ _ ⟨W, _, _, re, rp, q⟩ => q W _ _ (Wd.le.refl W) (Fr.refl W _) rp re
theorem r_ret {m : ME} {e : Expr} {pos : Pos} (he : PE X e (tE p WX m)) : PS X (.Return (some e) pos) (tS p WX (sRet m)) :=
  PS.imp (ps_ret he) fun _ _ _ ⟨W, e, s, re, rp, q⟩ => ⟨W, e, s, re, rp, q.eval re fun W1 H1 d v s1 l fr rp1 rv q1 => q1.rt rp1 rv⟩
theorem r_retN {pos : Pos} : PS X (.Return none pos) (tS p WX sRetN) := PS.imp ps_retN fun _ _ _ ⟨_, _, _, re, rp, q⟩ => q.rt rp rel_non
theorem r_expr {m : ME} {e : Expr} {pos : Pos} (he : PE X e (tE p WX m)) (hs : swapsWith e none pos.line X.env = pure false) : PS X (.Expr e pos) (tS p WX (sExpr m)) :=
  PS.imp (ps_expr he hs) fun _ _ _ ⟨W, e, s, re, rp, q⟩ => ⟨W, e, s, re, rp, q.eval re fun W1 H1 d v s1 l fr rp1 rv q1 => q1.nx rp1 (re.mono l)⟩
theorem r_ifS {c : MB} {a b : MS} {ec : Expr} {ea eb : List Stmt} {pos : Pos} (hc : PT X ec (tB p WX c)) (ha : PSs X ea (tS p WX a)) (hb : PSs X eb (tS p WX b)) : PS X (.If ec ea eb pos) (tS p WX (sIf c a b)) :=
  PS.imp (ps_if hc ha hb) fun _ _ _ ⟨W, e, s, re, rp, q⟩ => ⟨W, e, s, re, rp, q.eval re fun W1 H1 d v s1 l fr rp1 rv q1 => by
    subst rv
    cases v with
    | true => rw [if_pos rfl]; exact ⟨W1, e, s1, re.mono l, rp1, q1⟩
    | false => rw [if_neg Bool.false_ne_true]; exact ⟨W1, e, s1, re.mono l, rp1, q1⟩⟩
theorem r_snil : PSs X [] (tS p WX sPass) := PSs.imp pss_nil fun _ _ _ ⟨_, _, _, re, rp, q⟩ => q.nx rp re
theorem r_seq {a b : MS} {st : Stmt} {rest : List Stmt} (ha : PS X st (tS p WX a)) (hb : PSs X rest (tS p WX b)) : PSs X (st :: rest) (tS p WX (sSeq a b)) :=
  PSs.imp (pss_cons ha hb) fun D σ H ⟨W, e, s, re, rp, q⟩ => by
    refine ⟨W, e, s, re, rp, ?_⟩
    unfold sSeq at q
    cases h : a e s with
    | nx e1 s1 =>
      rw [h] at q
      exact fun W' H' σ' l f rp' re' => ⟨W', e1, s1, re', rp', PostS.re l f q⟩
    | rt d s1 => rw [h] at q; exact q
    | bk e1 s1 => rw [h] at q; exact q
    | ct e1 s1 => rw [h] at q; exact q
    | ex c e1 s1 => rw [h] at q; exact q
    | bad => rw [h] at q; exact q
theorem goOn_post {r : Option (Env × Sto)} (q : PostS p W H WX D (goOn r)) : PostT p W H D.nx r := by
  cases r with
  | none => exact q
  | some x => obtain ⟨e, s⟩ := x; exact q
theorem r_asg {m : ME} {t : Tg} {tg e : Expr} {pos : Pos} (he : PE X e (tE p WX m)) (hg : PG X tg (gT p t)) (hs : swapsWithSole [tg] e pos.line X.env = pure false) (hw : swappedStores [tg] e X.env = pure none) (h1 : (assignEach [tg] X.env).map (·.2) = [assign tg X.env]) :
    PS X (.Assign [tg] e pos) (tS p WX (sAsg t m)) :=
  PS.imp (ps_asg he hg hs hw h1) fun D σ H ⟨W, e, s, re, rp, q⟩ => ⟨W, e, s, re, rp, q.eval re fun W1 H1 d v s1 l fr rp1 rv q1 => ⟨W1, e, s1, d, re.mono l, rp1, rv, goOn_post q1⟩⟩
/-! ### targets -/
theorem PG.imp {X : Cx} {e : Expr} {t t' : TG} (h : PG X e t) (i : ∀ v σ H Q, t' v σ H Q → t v σ H Q) : PG X e t' := ⟨fun pins s σ H v u Q I r q => h.run pins s σ H v u Q I r (i v σ H Q q)⟩
theorem PGs.imp {X : Cx} {e : List Expr} {t t' : TGs} (h : PGs X e t) (i : ∀ v σ H Q, t' v σ H Q → t v σ H Q) : PGs X e t' := ⟨fun pins s σ H v u Q I r q => h.run pins s σ H v u Q I r (i v σ H Q q)⟩
theorem PostT.nx {e : Env} {s : Sto} {σ : L2.St} {Q : L2.St → Hp → Prop} (q : PostT p W H Q (some (e, s))) (rp : Rep p W s H) (re : RelE p W e σ) : Q σ H := q W H σ (Wd.le.refl W) (Fr.refl W H) rp re
theorem PostT.re {Q : L2.St → Hp → Prop} {o : Option (Env × Sto)} (l : W.le W') (f : Fr W W' H H') (q : PostT p W H Q o) : PostT p W' H' Q o := by
  cases o with
  | none => exact q
  | some x => obtain ⟨e, s⟩ := x; exact fun W2 H2 v l2 f2 => q W2 H2 v (l.trans l2) (f.trans f2)
theorem r_tName {i : Nat} {x : Str} {pos : Pos} (hN : X.N.Nodup) (hi : X.N[i]? = some x) (hx : Loc X.env.scope x) (hf : X.fn x = true ∨ X.env.scope.names.lookup x = some .local) : PG X (.Name x pos) (gT p (tName i)) :=
  PG.imp (pg_name hN hi hx hf) fun v σ H Q ⟨W, e, s, d, re, rp, rv, q⟩ => q.nx rp (re.set i rv)
theorem r_tNil : PGs X [] (gTs p []) := PGs.imp pgs_nil fun vs σ H Q ⟨W, e, s, ds, re, rp, rv, q⟩ => by
  cases ds with
  | nil => unfold RelDs at rv; exact ⟨rv, PostT.nx q rp re⟩
  | cons d r => exact q.elim
theorem r_tCons {t : Tg} {ts : List Tg} {ex : Expr} {es : List Expr} (h1 : PG X ex (gT p t)) (h2 : PGs X es (gTs p ts)) (hs : (assignEach (ex :: es) X.env).map (·.2) = assign ex X.env :: (assignEach es X.env).map (·.2)) : PGs X (ex :: es) (gTs p (t :: ts)) :=
  PGs.imp (pgs_cons h1 h2 hs) fun vs σ H Q ⟨W, e, s, ds, re, rp, rv, q⟩ => by
    cases ds with
    | nil => exact q.elim
    | cons d r =>
      unfold RelDs at rv
      obtain ⟨v, vr, rfl, a, b⟩ := rv
      refine ⟨v, vr, rfl, W, e, s, d, re, rp, a, ?_⟩
      have q2 : PostT p W H Q (match t d e s with | some (e1, s1) => tAll ts r e1 s1 | none => none) := q
      cases h : t d e s with
      | none => rw [h] at q2; exact q2
      | some x =>
        obtain ⟨e1, s1⟩ := x
        rw [h] at q2
        exact fun W' H' σ' l f rp' re' => ⟨W', e1, s1, r, re', rp', b.mono l, PostT.re l f q2⟩
theorem tAll_len : ∀ {ts : List Tg} {ds : List Z.D} {e : Env} {s : Sto} {x : Env × Sto}, tAll ts ds e s = some x → ds.length = ts.length
  | [], [], _, _, _, _ => rfl
  | [], _ :: _, _, _, _, h => by cases h
  | _ :: _, [], _, _, _, h => by cases h
  | t :: ts, d :: ds, e, s, x, h => by
    have h' : (match t d e s with | some (e1, s1) => tAll ts ds e1 s1 | none => none) = some x := h
    split at h'
    · rw [List.length_cons, List.length_cons, tAll_len h']
    · cases h'
theorem r_tTup {ts : List Tg} {es : List Expr} {k : Nat} {pos : Pos} (hK : p.K = X.K) (hc : X.calm = true) (h : PGs X es (gTs p ts)) (hn : (assignEach es X.env).length = ts.length) (hst : (assignEach es X.env).findIdx? (·.1) = none) : PG X (.Tuple es k pos) (gT p (tTup ts)) :=
  PG.imp (pg_tup hc h hn hst) fun v σ H Q ⟨W, e, s, d, re, rp, rv, q⟩ => by
    cases d with
    | tup xs =>
      obtain ⟨a, vs, rfl, h1, q1⟩ := tup_rd rp rv
      have q2 : PostT p W H Q (tAll ts xs e s) := q
      have hl : xs.length = ts.length := by
        cases hh : tAll ts xs e s with
        | none => rw [hh] at q2; exact q2.elim
        | some x => exact tAll_len hh
      exact ⟨a, vs, rfl, hK ▸ h1, by rw [← q1.length, hl], W, e, s, xs, re, rp, q1, q2⟩
    | _ => exact q.elim
theorem set_R : PSet X (fun o i v H Q => ∃ W s a b d, Rep p W s H ∧ RelD p.K W a o ∧ RelD p.K W b i ∧ RelD p.K W d v ∧ (match setIx a b d s with | some s2 => ∀ H', Fr W W H H' → Rep p W s2 H' → Q H' | none => False)) := by
  intro pins s σ H o i v ov iv u Q I r1 r2 r3 h
  obtain ⟨W, st, a, b, d, rp, ra, rb, rd, q⟩ := h
  unfold setIx at q
  split at q
  · rename_i s2 hs
    split at hs
    · rename_i n k
      split at hs
      · rename_i xs hx
        split at hs
        · rename_i j hj
          cases hs
          obtain ⟨a1, vs, rfl, h1, q1⟩ := lst_rd (d := .ref n) rp hx ra
          cases relD_int rb
          obtain ⟨a2, e1, hio⟩ := relD_ref ra
          cases e1
          refine set_list pins s σ H _ _ v ov iv u Q I r1 r2 r3 ⟨a1, vs, k, j, rfl, rfl, h1, by rw [← q1.length]; exact hj, ?_⟩
          have hz : W.fz a1 = none := by
            unfold atS at hx
            split at hx
            · rename_i ys e
              exact (rp.obs n _ a1 e hio).1
            · cases hx
          obtain ⟨f, r⟩ := rp.put (o := .lst (vs.set j v)) (ob := .lst (xs.set j d)) hio hz h1 rfl ⟨hz, _, upd_same, q1.set rd j⟩
          exact q _ f r
        · cases hs
      · cases hs
    · cases hs
  · exact q.elim
theorem r_tSub {o i : ME} {eo ei : Expr} {pos : Pos} (ho : PE X eo (tE p WX o)) (hi : PE X ei (tE p WX i))
    (ha : ∀ v, assign (.Subscript eo ei pos) X.env v = (do
      let ov ← holding [v] (eval eo X.env)
      let iv ← holding [v, ov] (eval ei X.env)
      standAt pos
      holding [v, ov, iv] (setItem ov iv v)
      release [v, ov, iv] [])) : PG X (.Subscript eo ei pos) (gT p (tSub o i)) :=
  PG.imp (pg_sub ho hi (set_R (p := p)) ha) fun v σ H Q ⟨W, e, s, d, re, rp, rv, q⟩ => by
    have q2 : PostT p W H Q (match o e s with | .ok od s1 => (match i e s1 with | .ok id s2 => (match setIx od id d s2 with | some s3 => some (e, s3) | none => none) | _ => none) | _ => none) := q
    refine ⟨W, e, s, re, rp, ?_⟩
    cases h1 : o e s with
    | ok od s1 =>
      rw [h1] at q2
      refine fun W1 H1 v1 l1 f1 rp1 rv1 => ⟨W1, e, s1, re.mono l1, rp1, ?_⟩
      have q3 : PostT p W H Q (match i e s1 with | .ok id s2 => (match setIx od id d s2 with | some s3 => some (e, s3) | none => none) | _ => none) := q2
      cases h2 : i e s1 with
      | ok id s2 =>
        rw [h2] at q3
        refine fun W2 H2 v2 l2 f2 rp2 rv2 => ⟨W2, s2, od, id, d, rp2, rv1.mono l2, rv2, (rv.mono l1).mono l2, ?_⟩
        have q4 : PostT p W H Q (match setIx od id d s2 with | some s3 => some (e, s3) | none => none) := q3
        cases h3 : setIx od id d s2 with
        | some s3 =>
          rw [h3] at q4
          exact fun H' f3 rp3 => q4 W2 H' σ (l1.trans l2) ((f1.trans f2).trans f3) rp3 ((re.mono l1).mono l2)
        | none => rw [h3] at q4; exact q4
      | exc c s2 => rw [h2] at q3; exact q3.elim
      | bad => rw [h2] at q3; exact q3.elim
    | exc c s1 => rw [h1] at q2; exact q2.elim
    | bad => rw [h1] at q2; exact q2.elim
end
end Z

set_option Elab.async false
set_option linter.all false
set_option maxRecDepth 100000
/-! Z6: what is walked; for, while. -/
namespace Z
open PySem PySem.Spec PyProof.Rows L2
/-- what is walked: items that stay, a list of the store as it stands at each turn, pairs -/
inductive Src where
  | fix (xs : List D)
  | liv (n : Nat)
  | enu (s : Src)
  | zip (a b : Src)
/-- at the turn i: nothing is known, the end, an item -/
def Src.at : Src → Nat → Sto → Option (Option D)
  | .fix xs, i, _ => some xs[i]?
  | .liv n, i, s => (atS n s).map fun xs => xs[i]?
  | .enu a, i, s => (a.at i s).map fun o => o.map fun d => .tup [.int (i : Nat), d]
  | .zip a b, i, s => match a.at i s, b.at i s with
    | some (some x), some (some y) => some (some (.tup [x, y]))
    | some none, some _ => some none
    | some (some _), some none => some none
    | _, _ => none
abbrev MW := Env → Sto → R Src
def SrcOk (p : Pl) (W : Wd) (src : Src) (J : It) : Prop := ∀ (i : Nat) (W' : Wd) (s : Sto) (H : Hp), W.le W' → Rep p W' s H → match src.at i s with
  | some none => J.stop i H
  | some (some d) => J.go i H ∧ ∀ x H', J.yld i H x H' → ∃ W'', W'.le W'' ∧ Fr W' W'' H H' ∧ Rep p W'' s H' ∧ RelD p.K W'' d x
  | none => True
theorem SrcOk.mono {p : Pl} {W W' : Wd} {src : Src} {J : It} (l : W.le W') (h : SrcOk p W src J) : SrcOk p W' src J := fun i W2 s H l2 r => h i W2 s H (l.trans l2) r
def tI (p : Pl) (WX : L2.WX) (m : MW) : TI := fun σ H R => ∃ W e s, RelE p W e σ ∧ Rep p W s H ∧ Post p (SrcOk p) W H (exW p WX σ) R (m e s)
/-! ### the loop -/
def step1 (t : Tg) (b : MS) (d : D) (e : Env) (s : Sto) (k : Env → Sto → Out) : Out := match t d e s with
  | some (e1, s1) => (match b e1 s1 with
    | .nx e2 s2 => k e2 s2
    | .ct e2 s2 => k e2 s2
    | .bk e2 s2 => .nx e2 s2
    | .rt d s2 => .rt d s2
    | .ex c e2 s2 => .ex c e2 s2
    | .bad => .bad)
  | none => .bad
def forF (t : Tg) (b : MS) : List D → Env → Sto → Out
  | [], e, s => .nx e s
  | d :: ds, e, s => step1 t b d e s (forF t b ds)
def forI (src : Src) (t : Tg) (b : MS) : Nat → Nat → Env → Sto → Out
  | 0, _, _, _ => .bad
  | n + 1, i, e, s => match src.at i s with
    | some none => .nx e s
    | some (some d) => step1 t b d e s (forI src t b n (i + 1))
    | none => .bad
def forS (t : Tg) (b : MS) (src : Src) (e : Env) (s : Sto) : Out := match src with
  | .fix xs => forF t b xs e s
  | src => forI src t b turns 0 e s
def sForW (t : Tg) (i : MW) (b : MS) : MS := fun e s => (i e s).out e fun src s1 => forS t b src e s1
section
variable {X : Cx} {p : Pl} {WX : L2.WX} {W W' : Wd} {H H' : Hp} {D : Ends}
theorem step1_ok {t : Tg} {b : MS} {tb : TS} {d : Z.D} {v : V} {e : Env} {s : Sto} {σ : L2.St} {k : Env → Sto → Out} {N : L2.St → Hp → Prop} {bb : TS} (re : RelE p W e σ) (rp : Rep p W s H) (rv : RelD p.K W d v) (q : PostS p W H WX D (step1 t b d e s k))
    (hN : ∀ W' H' e' s' σ', W.le W' → Fr W W' H H' → Rep p W' s' H' → RelE p W' e' σ' → PostS p W' H' WX D (k e' s') → N σ' H') :
    gT p t v σ H fun σ2 H2 => tS p WX b { D with nx := N, ct := N, bk := D.nx } σ2 H2 := by
  refine ⟨W, e, s, d, re, rp, rv, ?_⟩
  unfold step1 at q
  cases h : t d e s with
  | none => rw [h] at q; exact q
  | some x =>
    obtain ⟨e1, s1⟩ := x
    rw [h] at q
    intro W1 H1 σ1 l1 f1 rp1 re1
    refine ⟨W1, e1, s1, re1, rp1, ?_⟩
    have q2 := PostS.re l1 f1 q
    show PostS p W1 H1 WX _ (b e1 s1)
    have q3 : PostS p W1 H1 WX D (match b e1 s1 with | .nx e2 s2 => k e2 s2 | .ct e2 s2 => k e2 s2 | .bk e2 s2 => .nx e2 s2 | .rt d s2 => .rt d s2 | .ex c e2 s2 => .ex c e2 s2 | .bad => .bad) := q2
    cases hb : b e1 s1 with
    | nx e2 s2 => rw [hb] at q3; exact fun W2 H2 σ2 l2 f2 rp2 re2 => hN W2 H2 e2 s2 σ2 (l1.trans l2) (f1.trans f2) rp2 re2 (PostS.re l2 f2 q3)
    | ct e2 s2 => rw [hb] at q3; exact fun W2 H2 σ2 l2 f2 rp2 re2 => hN W2 H2 e2 s2 σ2 (l1.trans l2) (f1.trans f2) rp2 re2 (PostS.re l2 f2 q3)
    | bk e2 s2 => rw [hb] at q3; exact q3
    | rt d s2 => rw [hb] at q3; exact q3
    | ex c e2 s2 => rw [hb] at q3; exact q3
    | bad => rw [hb] at q3; exact q3
/-- what is wanted of a loop's turns -/
def TurnsOk (J : It) (g : TG) (tb : TS) (D : Ends) (σ : L2.St) (H : Hp) : Prop := ∃ W : Nat → Nat → L2.St → Hp → Prop, (∃ m, W 0 m σ H) ∧ ∀ i m σ H, W i m σ H →
  (J.stop i H ∧ D.nx σ H) ∨ (J.go i H ∧ ∃ N : L2.St → Hp → Prop, (∀ σ' H', N σ' H' → ∃ m', m' < m ∧ W (i + 1) m' σ' H') ∧ ∀ x H', J.yld i H x H' → g x σ H' fun σ2 H2 => tb { D with nx := N, ct := N, bk := D.nx } σ2 H2)
theorem turns_fix {t : Tg} {b : MS} {xs : List Z.D} {J : It} {e : Env} {s : Sto} {σ : L2.St} (so : SrcOk p W (.fix xs) J) (re : RelE p W e σ) (rp : Rep p W s H) (q : PostS p W H WX D (forF t b xs e s)) : TurnsOk J (gT p t) (tS p WX b) D σ H := by
  refine ⟨fun i m σ H => m = xs.length - i ∧ i ≤ xs.length ∧ ∃ W' e s, W.le W' ∧ RelE p W' e σ ∧ Rep p W' s H ∧ PostS p W' H WX D (forF t b (xs.drop i) e s), ⟨_, rfl, Nat.zero_le _, W, e, s, Wd.le.refl W, re, rp, q⟩, ?_⟩
  rintro i m σ H ⟨rfl, hi, W', e, s, l, re, rp, q⟩
  have so' := so i W' s H l rp
  by_cases hl : i < xs.length
  · have e1 : (Src.fix xs).at i s = some (some xs[i]) := by
      show some xs[i]? = _
      rw [List.getElem?_eq_getElem hl]
    rw [e1] at so'
    obtain ⟨go, yl⟩ := so'
    rw [List.drop_eq_getElem_cons hl] at q
    refine .inr ⟨go, fun σ' H' => ∃ m', m' < xs.length - i ∧ m' = xs.length - (i + 1) ∧ (i + 1) ≤ xs.length ∧ ∃ W' e s, W.le W' ∧ RelE p W' e σ' ∧ Rep p W' s H' ∧ PostS p W' H' WX D (forF t b (xs.drop (i + 1)) e s),
      fun σ' H' ⟨m', h1, h2, h3, h4⟩ => ⟨m', h1, h2, h3, h4⟩, fun x H1 y => ?_⟩
    obtain ⟨W1, l1, f1, rp1, rv1⟩ := yl x H1 y
    exact step1_ok (bb := tS p WX b) (tb := tS p WX b) (re.mono l1) rp1 rv1 (PostS.re l1 f1 q) fun W2 H2 e2 s2 σ2 l2 f2 rp2 re2 q2 => ⟨_, by omega, rfl, by omega, W2, e2, s2, (l.trans l1).trans l2, re2, rp2, q2⟩
  · have e1 : (Src.fix xs).at i s = some none := by
      show some xs[i]? = _
      rw [List.getElem?_eq_none (by omega)]
    rw [e1] at so'
    rw [List.drop_eq_nil_of_le (by omega)] at q
    exact .inl ⟨so', PostS.nx q rp re⟩
theorem turns_any {t : Tg} {b : MS} {src : Src} {J : It} {n : Nat} {e : Env} {s : Sto} {σ : L2.St} (so : SrcOk p W src J) (re : RelE p W e σ) (rp : Rep p W s H) (q : PostS p W H WX D (forI src t b n 0 e s)) : TurnsOk J (gT p t) (tS p WX b) D σ H := by
  refine ⟨fun i m σ H => ∃ W' e s, W.le W' ∧ RelE p W' e σ ∧ Rep p W' s H ∧ PostS p W' H WX D (forI src t b m i e s), ⟨n, W, e, s, Wd.le.refl W, re, rp, q⟩, ?_⟩
  rintro i m σ H ⟨W', e, s, l, re, rp, q⟩
  have so' := so i W' s H l rp
  cases m with
  | zero => exact q.elim
  | succ m =>
    unfold forI at q
    cases h : src.at i s with
    | none => rw [h] at q; exact q.elim
    | some o =>
      rw [h] at q so'
      cases o with
      | none => exact .inl ⟨so', PostS.nx q rp re⟩
      | some d =>
        obtain ⟨go, yl⟩ := so'
        refine .inr ⟨go, fun σ' H' => ∃ W' e s, W.le W' ∧ RelE p W' e σ' ∧ Rep p W' s H' ∧ PostS p W' H' WX D (forI src t b m (i + 1) e s), fun σ' H' h4 => ⟨m, Nat.lt_succ_self m, h4⟩, fun x H1 y => ?_⟩
        obtain ⟨W1, l1, f1, rp1, rv1⟩ := yl x H1 y
        exact step1_ok (bb := tS p WX b) (tb := tS p WX b) (re.mono l1) rp1 rv1 (PostS.re l1 f1 q) fun W2 H2 e2 s2 σ2 l2 f2 rp2 re2 q2 => ⟨W2, e2, s2, (l.trans l1).trans l2, re2, rp2, q2⟩
theorem turns_src {t : Tg} {b : MS} {src : Src} {J : It} {e : Env} {s : Sto} {σ : L2.St} (so : SrcOk p W src J) (re : RelE p W e σ) (rp : Rep p W s H) (q : PostS p W H WX D (forS t b src e s)) : TurnsOk J (gT p t) (tS p WX b) D σ H := by
  cases src with
  | fix xs => exact turns_fix so re rp q
  | liv n => exact turns_any (n := turns) so re rp q
  | enu a => exact turns_any (n := turns) so re rp q
  | zip a b => exact turns_any (n := turns) so re rp q
theorem r_for {t : Tg} {i : MW} {b : MS} {tg it : Expr} {body : List Stmt} {pos : Pos} (hp : PassesOwn (model X.prog X.w) X.A X.env X.xe) (hc : X.calm = true) (hi : PI X tg it (tI p WX i)) (hg : PG X tg (gT p t)) (hb : PSs X body (tS p WX b))
    (hs : ∀ x, foldedSetIterable it X.env x = pure x) : PS X (.For tg it body [] pos) (tS p WX (sForW t i b)) :=
  PS.imp (ps_for hp hc hi hg hb hs) fun D σ H ⟨W, e, s, re, rp, q⟩ => ⟨W, e, s, re, rp, q.eval re fun W1 H1 src J s1 l fr rp1 so q1 => turns_src so (re.mono l) rp1 q1⟩
/-! ### while -/
theorem r_while {c : MB} {b : MS} {ec : Expr} {body : List Stmt} {pos : Pos} (hp : PassesOwn (model X.prog X.w) X.A X.env X.xe) (hc : PT X ec (tB p WX c)) (hb : PSs X body (tS p WX b)) : PS X (.While ec body [] pos) (tS p WX (sWhile c b)) :=
  PS.imp (ps_while hp hc hb) fun D σ H ⟨W, e, s, re, rp, q⟩ => by
    refine ⟨fun m σ H => ∃ W e s, RelE p W e σ ∧ Rep p W s H ∧ PostS p W H WX D (whileL c b m e s), ⟨turns, W, e, s, re, rp, q⟩, ?_⟩
    rintro m σ H ⟨W, e, s, re, rp, q⟩
    cases m with
    | zero => exact q.elim
    | succ m =>
      unfold whileL at q
      refine ⟨W, e, s, re, rp, q.eval re fun W1 H1 x v s1 l fr rp1 rv q1 => ?_⟩
      subst rv
      cases v with
      | false => rw [if_neg Bool.false_ne_true] at q1 ⊢; exact PostS.nx q1 rp1 (re.mono l)
      | true =>
        rw [if_pos rfl] at q1 ⊢
        refine ⟨fun σ' H' => ∃ W e s, RelE p W e σ' ∧ Rep p W s H' ∧ PostS p W H' WX D (whileL c b m e s), fun σ' H' h => ⟨m, Nat.lt_succ_self m, h⟩, W1, e, s1, re.mono l, rp1, ?_⟩
        show PostS p W1 H1 WX _ (b e s1)
        have q3 : PostS p W1 H1 WX D (match b e s1 with | .nx e2 s2 => whileL c b m e2 s2 | .ct e2 s2 => whileL c b m e2 s2 | .bk e2 s2 => .nx e2 s2 | .rt d s2 => .rt d s2 | .ex c e2 s2 => .ex c e2 s2 | .bad => .bad) := q1
        cases hb : b e s1 with
        | nx e2 s2 => rw [hb] at q3; exact fun W2 H2 σ2 l2 f2 rp2 re2 => ⟨W2, e2, s2, re2, rp2, PostS.re l2 f2 q3⟩
        | ct e2 s2 => rw [hb] at q3; exact fun W2 H2 σ2 l2 f2 rp2 re2 => ⟨W2, e2, s2, re2, rp2, PostS.re l2 f2 q3⟩
        | bk e2 s2 => rw [hb] at q3; exact q3
        | rt d s2 => rw [hb] at q3; exact q3
        | ex c e2 s2 => rw [hb] at q3; exact q3
        | bad => rw [hb] at q3; exact q3
end
end Z

set_option Elab.async false
set_option linter.all false
set_option maxRecDepth 100000
/-! Z7: what is walked, by the expression. -/
namespace Z
open PySem PySem.Spec PyProof.Rows L2
def wOf (d : D) (s : Sto) : Option Src := match d with
  | .tup xs => some (.fix xs)
  | .lst xs => some (.fix xs)
  | .scr xs => some (.fix xs)
  | .ref n => (match atS n s with | some _ => some (.liv n) | none => none)
  | .str x => some (.fix (x.cps.toList.map fun c => .str ⟨#[c]⟩))
  | _ => none
def wR (o : Option Src) (s : Sto) : R Src := match o with
  | some x => .ok x s
  | none => .bad
def wVal (a : ME) : MW := fun e s => (a e s).bind fun d s1 => wR (wOf d s1) s1
def rngL (lo c : Int) (n : Nat) : List D := (List.range n).map fun k => .int (lo + (k : Nat) * c)
def rng (vs : List D) : Option (List D) := match vs with
  | [.int j] => if decide (-(2 ^ 62) ≤ j) && decide (j < 2 ^ 62) then some (rngL 0 1 j.toNat) else none
  | [.int i, .int j] => if decide (-(2 ^ 62) ≤ i) && decide (i < 2 ^ 62) && decide (-(2 ^ 62) ≤ j) && decide (j < 2 ^ 62) then some (rngL i 1 (j - i).toNat) else none
  | [.int i, .int j, .int c] => if decide (c ≠ 0) && decide (c.natAbs < 1073741824) && Builtin.Range.small i j c && decide (Builtin.Range.rangeSize i j c = ((Builtin.Range.rangeSize i j c).toNat : Int)) then some (rngL i c (Builtin.Range.rangeSize i j c).toNat) else none
  | _ => none
def wRng (a : MA) : MW := fun e s => (a e s).bind fun vs s1 => wR ((rng vs).map .fix) s1
def enumD (k : Nat) : List D → List D
  | [] => []
  | d :: ds => .tup [.int (k : Nat), d] :: enumD (k + 1) ds
theorem enumD_get : ∀ {ds : List D} {k i : Nat}, (enumD k ds)[i]? = ds[i]?.map fun d => .tup [.int ((k + i : Nat) : Int), d]
  | [], k, i => by unfold enumD; simp
  | d :: ds, k, 0 => by unfold enumD; simp
  | d :: ds, k, i + 1 => by
    unfold enumD
    rw [List.getElem?_cons_succ, List.getElem?_cons_succ, enumD_get]
    have e : k + 1 + i = k + (i + 1) := by omega
    rw [e]
def enuOf : Src → Src
  | .fix xs => .fix (enumD 0 xs)
  | s => .enu s
def wEnu (a : ME) : MW := fun e s => (a e s).bind fun d s1 => wR ((wOf d s1).map enuOf) s1
def zipD : List D → List D → List D
  | a :: as, b :: bs => .tup [a, b] :: zipD as bs
  | _, _ => []
def zipOf : Src → Src → Src
  | .fix xs, .fix ys => .fix (zipD xs ys)
  | a, b => .zip a b
section
variable {X : Cx} {p : Pl} {WX : L2.WX} {W W' : Wd} {H H' : Hp} {s : Sto}
/-! ### lists, tuples, texts -/
/-- a known list or tuple -/
theorem srcOk_seq {xs : List Z.D} {vs : List V} {a : Addr} {S : Hp → Addr → List V → Prop} {J : It} (hJ : J = ⟨fun i H => ∃ xs x, S H a xs ∧ xs[i]? = some x, fun i H x H' => H' = H ∧ ∀ xs, S H a xs → xs[i]? = some x, fun i H => ∃ xs, S H a xs ∧ xs.length ≤ i⟩)
    (hl : ∀ W' s H, W.le W' → Rep p W' s H → S H a vs) (rv : RelDs p.K W xs vs) : SrcOk p W (.fix xs) J := by
  subst hJ
  intro i W' s H l rp
  have h1 := hl W' s H l rp
  show match (some xs[i]? : Option (Option Z.D)) with | some none => _ | some (some d) => _ | none => True
  cases e : xs[i]? with
  | none =>
    refine ⟨vs, h1, ?_⟩
    rw [← rv.length]
    exact List.getElem?_eq_none_iff.mp e
  | some d =>
    obtain ⟨v, e2, r2⟩ := rv.get e
    refine ⟨⟨vs, v, h1, e2⟩, fun x H' ⟨eH, hx⟩ => ?_⟩
    subst eH
    have e3 := hx vs h1
    rw [e2] at e3
    cases e3
    exact ⟨W', Wd.le.refl W', Fr.refl W' _, rp, r2.mono l⟩
theorem srcOk_liv {n : Nat} {a : Addr} (hn : W.io[n]? = some a) : SrcOk p W (.liv n) (Itl p.K a) := by
  intro i W' s H l rp
  show match ((atS n s).map fun xs => xs[i]? : Option (Option Z.D)) with | some none => _ | some (some d) => _ | none => True
  cases e : atS n s with
  | none => trivial
  | some xs =>
    have hs : s[n]? = some (.lst xs) := by
      unfold atS at e
      split at e
      · rename_i ys e2; cases e; exact e2
      · cases e
    obtain ⟨z, vs, h1, rv⟩ := rp.obs n _ a hs (l.at hn)
    show match (some xs[i]? : Option (Option Z.D)) with | some none => _ | some (some d) => _ | none => True
    cases e2 : xs[i]? with
    | none =>
      refine ⟨vs, SqL.of h1, ?_⟩
      rw [← rv.length]
      exact List.getElem?_eq_none_iff.mp e2
    | some d =>
      obtain ⟨v, e3, r2⟩ := rv.get e2
      refine ⟨⟨vs, v, SqL.of h1, e3⟩, fun x H' ⟨eH, hx⟩ => ?_⟩
      subst eH
      have e4 := hx vs (SqL.of h1)
      rw [e3] at e4
      cases e4
      exact ⟨W', Wd.le.refl W', Fr.refl W' _, rp, r2⟩
theorem srcOk_str {x : Str} : SrcOk p W (.fix (x.cps.toList.map fun c => .str ⟨#[c]⟩)) (Its x) := by
  intro i W' s H l rp
  show match (some ((x.cps.toList.map fun c => (Z.D.str ⟨#[c]⟩))[i]?) : Option (Option Z.D)) with | some none => _ | some (some d) => _ | none => True
  rw [List.getElem?_map, Array.getElem?_toList]
  cases e : x.cps[i]? with
  | none => exact Array.getElem?_eq_none_iff.mp e
  | some c =>
    refine ⟨(Array.getElem?_eq_some_iff.mp e).1, fun v H' ⟨eH, c', e', ev⟩ => ?_⟩
    rw [e] at e'
    cases e'
    subst eH
    subst ev
    exact ⟨W', Wd.le.refl W', Fr.refl W' _, rp, rel_str⟩
/-- the reading of a walked value, by the kinds -/
theorem pi_val {a : ME} {ex tg : Expr} (hK : p.K = X.K) (he : PE X ex (tE p WX a)) : PI X tg ex (tI p WX (wVal a)) := by
  refine ⟨fun pins s σ H R I ⟨W, e, st, re, rp, q⟩ => ?_⟩
  unfold wVal at q
  have key : ∀ (f : V → Hp → Prop), (∀ W' H' d v s, W.le W' → Fr W W' H H' → Rep p W' s H' → RelD p.K W' d v → a e st = .ok d s → Post p (SrcOk p) W' H' (exW p WX σ) R (wR (wOf d s) s) → f v H') → tE p WX a σ H f := fun f hf => by
    refine ⟨W, e, st, re, rp, ?_⟩
    cases h : a e st with
    | ok d s2 =>
      rw [h] at q
      intro W' H' v l fr rp' rv
      refine hf W' H' d v s2 l fr rp' rv h ?_
      have q' : Post p (SrcOk p) W H (exW p WX σ) R (wR (wOf d s2) s2) := q
      cases hw : wOf d s2 with
      | none => rw [hw] at q'; exact q'
      | some src =>
        rw [hw] at q'
        exact fun W2 H2 J l2 f2 rp2 so => q' W2 H2 J (l.trans l2) (fr.trans f2) rp2 so
    | exc c s2 => rw [h] at q; exact q
    | bad => rw [h] at q; exact q.elim
  cases h : a e st with
  | bad => rw [h] at q; exact q.elim
  | exc c s2 => exact (pi_list he).run pins s σ H R I (key _ fun W' H' d v s l fr rp' rv h2 => by rw [h] at h2; cases h2)
  | ok d s2 =>
    have isL : (∃ xs, wOf d s2 = some (.fix xs) ∧ ((d = .lst xs) ∨ (d = .scr xs))) ∨ (∃ n, d = .ref n ∧ wOf d s2 = some (.liv n)) → wpAny (model X.prog X.w) X.A (eval ex X.env) (fun v s1 => wpAny (model X.prog X.w) X.A (pyIter v) (PIE X pins σ tg R) X.xe s1) X.xe s := fun hL => by
      refine (pi_list he).run pins s σ H R I (key _ fun W' H' d' v s' l fr rp' rv h2 q2 => ?_)
      rw [h] at h2
      cases h2
      rcases hL with ⟨xs, e1, e2⟩ | ⟨n, e1, e2⟩
      · rw [e1] at q2
        rcases e2 with rfl | rfl
        · unfold RelD at rv
          obtain ⟨ad, vs, rfl, h1, r1⟩ := rv
          exact ⟨ad, rfl, ⟨vs, SqL.of (rp'.fz _ _ h1)⟩, Post.same rp' q2 (hK ▸ srcOk_seq (S := SqL p.K) rfl (fun W2 s H l2 rp2 => SqL.of (rp2.fz _ _ (l2.fz _ _ h1))) r1)⟩
        · obtain ⟨ad, vs, rfl, h1, r1⟩ := relD_scr rv
          exact ⟨ad, rfl, ⟨vs, hK ▸ seqL_mono rp'.fz h1⟩, Post.same rp' q2 (hK ▸ srcOk_seq (S := SqL p.K) rfl (fun W2 s H l2 rp2 => seqL_mono rp2.fz (seqL_mono l2.fz h1)) r1)⟩
      · subst e1
        rw [e2] at q2
        obtain ⟨ad, rfl, hio⟩ := relD_ref rv
        have e3 : ∃ xs, atS n s2 = some xs := by
          have e2' : (match atS n s2 with | some _ => some (Src.liv n) | none => none) = some (Src.liv n) := e2
          cases e4 : atS n s2 with
          | none => rw [e4] at e2'; cases e2'
          | some xs => exact ⟨xs, rfl⟩
        obtain ⟨xs, e3⟩ := e3
        obtain ⟨ad', vs, ea, h1, _⟩ := lst_rd (d := .ref n) rp' e3 rv
        cases ea
        exact ⟨ad, rfl, ⟨vs, SqL.of h1⟩, Post.same rp' q2 (hK ▸ srcOk_liv hio)⟩
    cases d with
    | lst xs => exact isL (.inl ⟨xs, rfl, .inl rfl⟩)
    | scr xs => exact isL (.inl ⟨xs, rfl, .inr rfl⟩)
    | ref n =>
      cases e : atS n s2 with
      | none =>
        rw [h] at q
        have q' : Post p (SrcOk p) W H (exW p WX σ) R (wR (match atS n s2 with | some _ => some (.liv n) | none => none) s2) := q
        rw [e] at q'
        exact q'.elim
      | some xs => exact isL (.inr ⟨n, rfl, by
        show (match atS n s2 with | some _ => some (Src.liv n) | none => none) = _
        rw [e]⟩)
    | tup xs =>
      refine (pi_tup he).run pins s σ H R I (key _ fun W' H' d' v s' l fr rp' rv h2 q2 => ?_)
      rw [h] at h2
      cases h2
      obtain ⟨ad, vs, rfl, h1, r1⟩ := relD_tup rv
      exact ⟨ad, rfl, ⟨vs, hK ▸ seqT_mono rp'.fz h1⟩, Post.same rp' q2 (hK ▸ srcOk_seq (S := SqT p.K) rfl (fun W2 s H l2 rp2 => seqT_mono rp2.fz (seqT_mono l2.fz h1)) r1)⟩
    | str x =>
      refine (pi_str he).run pins s σ H R I (key _ fun W' H' d' v s' l fr rp' rv h2 q2 => ?_)
      rw [h] at h2
      cases h2
      exact ⟨x, relD_str rv, Post.same rp' q2 srcOk_str⟩
    | non => rw [h] at q; exact q.elim
    | bl b => rw [h] at q; exact q.elim
    | int i => rw [h] at q; exact q.elim
    | lam i => rw [h] at q; exact q.elim
    | dic ks i => rw [h] at q; exact q.elim
/-! ### range -/
theorem srcOk_itc {lo c : Int} {n : Nat} {J : It} (hJ : (∀ i H, (J.go i H ↔ i < n) ∧ (J.stop i H ↔ n ≤ i)) ∧ ∀ i H x H', J.yld i H x H' → H' = H ∧ x = .int (lo + (i : Nat) * c)) : SrcOk p W (.fix (rngL lo c n)) J := by
  intro i W' s H l rp
  show match (some ((rngL lo c n)[i]?) : Option (Option Z.D)) with | some none => _ | some (some d) => _ | none => True
  unfold rngL
  rw [List.getElem?_map]
  by_cases hi : i < n
  · rw [List.getElem?_range hi]
    refine ⟨(hJ.1 i H).1.mpr hi, fun v H' y => ?_⟩
    obtain ⟨e1, e2⟩ := hJ.2 i H v H' y
    subst e1
    subst e2
    exact ⟨W', Wd.le.refl W', Fr.refl W' _, rp, rel_int⟩
  · rw [List.getElem?_eq_none (by rw [List.length_range]; omega)]
    exact (hJ.1 i H).2.mpr (by omega)
theorem srcOk_itr {lo : Int} {n : Nat} : SrcOk p W (.fix (rngL lo 1 n)) (Itr lo n) := srcOk_itc ⟨fun i H => ⟨Iff.rfl, Iff.rfl⟩, fun i H x H' ⟨e1, e2⟩ => ⟨e1, by rw [e2, Int.mul_one]⟩⟩
theorem srcOk_itc' {lo c : Int} {n : Nat} : SrcOk p W (.fix (rngL lo c n)) (Itc lo c n) := srcOk_itc ⟨fun i H => ⟨Iff.rfl, Iff.rfl⟩, fun i H x H' ⟨e1, e2⟩ => ⟨e1, e2⟩⟩
theorem relDs_ints1 {v : List V} {i : Int} (h : RelDs p.K W [.int i] v) : v = [.int i] := by
  unfold RelDs at h
  obtain ⟨x, r, rfl, h1, h2⟩ := h
  unfold RelDs at h2
  rw [h2, relD_int h1]
theorem relDs_ints2 {v : List V} {i j : Int} (h : RelDs p.K W [.int i, .int j] v) : v = [.int i, .int j] := by
  unfold RelDs at h
  obtain ⟨x, r, rfl, h1, h2⟩ := h
  rw [relDs_ints1 h2, relD_int h1]
theorem relDs_ints3 {v : List V} {i j k : Int} (h : RelDs p.K W [.int i, .int j, .int k] v) : v = [.int i, .int j, .int k] := by
  unfold RelDs at h
  obtain ⟨x, r, rfl, h1, h2⟩ := h
  rw [relDs_ints2 h2, relD_int h1]
theorem wR_some {o : Option Src} {st : Sto} {EX : Nat → Hp → Prop} {R : It → Hp → Prop} (q : Post p (SrcOk p) W H EX R (wR o st)) : ∃ src, o = some src ∧ Post p (SrcOk p) W H EX R (.ok src st) := by
  cases o with
  | none => exact q.elim
  | some src => exact ⟨src, rfl, q⟩
theorem r_rng1 {as : MA} {a tg : Expr} {pp pos : Pos} (hg : Gl X "range") (hm : X.mg "range" = none) (ha : PA X [a] (tA p WX as)) (hl : ∀ e s ds s1, as e s = .ok ds s1 → ds.length = 1) (hs : starEach [a] X.env = [(false, eval a X.env)]) : PI X tg (.Call (.Name "range" pp) [a] [] pos) (tI p WX (wRng as)) := by
  refine ⟨fun pins s σ H R I ⟨W, e, st, re, rp, q⟩ => (pi_range1 hg hm ha hs).run pins s σ H R I ⟨W, e, st, re, rp, ?_⟩⟩
  cases h : as e st with
  | bad => unfold wRng at q; rw [h] at q; exact q.elim
  | exc c s2 => unfold wRng at q; rw [h] at q; exact q
  | ok ds s2 =>
    have hlen := hl e st ds s2 h
    unfold wRng at q; rw [h] at q
    have q' : Post p (SrcOk p) W H (exW p WX σ) R (wR ((rng ds).map .fix) s2) := q
    obtain ⟨src, e1, q2⟩ := wR_some q'
    intro W' H' v l fr rp' rv
    match ds, hlen, e1, rv with
    | [d], _, e1, rv =>
      cases d with
      | int j =>
        have e2 : ((if decide (-(2 ^ 62) ≤ j) && decide (j < 2 ^ 62) then some (rngL 0 1 j.toNat) else none).map Src.fix) = some src := e1
        split at e2
        · rename_i hc
          simp only [Bool.and_eq_true, decide_eq_true_eq] at hc
          cases e2
          exact ⟨j, relDs_ints1 rv, hc.1, hc.2, q2 W' H' _ l fr rp' srcOk_itr⟩
        · cases e2
      | _ => cases e1
theorem r_rng2 {as : MA} {a b tg : Expr} {pp pos : Pos} (hg : Gl X "range") (hm : X.mg "range" = none) (ha : PA X [a, b] (tA p WX as)) (hl : ∀ e s ds s1, as e s = .ok ds s1 → ds.length = 2) (hs : starEach [a, b] X.env = [(false, eval a X.env), (false, eval b X.env)]) (hs2 : starEach [b] X.env = [(false, eval b X.env)]) :
    PI X tg (.Call (.Name "range" pp) [a, b] [] pos) (tI p WX (wRng as)) := by
  refine ⟨fun pins s σ H R I ⟨W, e, st, re, rp, q⟩ => (pi_range2 hg hm ha hs hs2).run pins s σ H R I ⟨W, e, st, re, rp, ?_⟩⟩
  cases h : as e st with
  | bad => unfold wRng at q; rw [h] at q; exact q.elim
  | exc c s2 => unfold wRng at q; rw [h] at q; exact q
  | ok ds s2 =>
    have hlen := hl e st ds s2 h
    unfold wRng at q; rw [h] at q
    have q' : Post p (SrcOk p) W H (exW p WX σ) R (wR ((rng ds).map .fix) s2) := q
    obtain ⟨src, e1, q2⟩ := wR_some q'
    intro W' H' v l fr rp' rv
    match ds, hlen, e1, rv with
    | [d, d'], _, e1, rv =>
      cases d with
      | int i =>
        cases d' with
        | int j =>
          have e2 : ((if decide (-(2 ^ 62) ≤ i) && decide (i < 2 ^ 62) && decide (-(2 ^ 62) ≤ j) && decide (j < 2 ^ 62) then some (rngL i 1 (j - i).toNat) else none).map Src.fix) = some src := e1
          split at e2
          · rename_i hc
            simp only [Bool.and_eq_true, decide_eq_true_eq] at hc
            cases e2
            exact ⟨i, j, relDs_ints2 rv, ⟨hc.1.1.1, hc.1.1.2, hc.1.2, hc.2⟩, q2 W' H' _ l fr rp' srcOk_itr⟩
          · cases e2
        | _ => cases e1
      | _ => cases e1
theorem r_rng3 {as : MA} {a b c tg : Expr} {pp pos : Pos} (hg : Gl X "range") (hm : X.mg "range" = none) (ha : PA X [a, b, c] (tA p WX as)) (hl : ∀ e s ds s1, as e s = .ok ds s1 → ds.length = 3)
    (hs : starEach [a, b, c] X.env = (false, eval a X.env) :: starEach [b, c] X.env) (hpl : (backTo pos (starEach [b, c] X.env)).any (·.1) = false) :
    PI X tg (.Call (.Name "range" pp) [a, b, c] [] pos) (tI p WX (wRng as)) := by
  refine ⟨fun pins s σ H R I ⟨W, e, st, re, rp, q⟩ => (pi_range3 hg hm ha hs hpl).run pins s σ H R I ⟨W, e, st, re, rp, ?_⟩⟩
  cases h : as e st with
  | bad => unfold wRng at q; rw [h] at q; exact q.elim
  | exc c s2 => unfold wRng at q; rw [h] at q; exact q
  | ok ds s2 =>
    have hlen := hl e st ds s2 h
    unfold wRng at q; rw [h] at q
    have q' : Post p (SrcOk p) W H (exW p WX σ) R (wR ((rng ds).map .fix) s2) := q
    obtain ⟨src, e1, q2⟩ := wR_some q'
    intro W' H' v l fr rp' rv
    match ds, hlen, e1, rv with
    | [d, d', d''], _, e1, rv =>
      cases d with
      | int i =>
        cases d' with
        | int j =>
          cases d'' with
          | int k =>
            have e2 : ((if decide (k ≠ 0) && decide (k.natAbs < 1073741824) && Builtin.Range.small i j k && decide (Builtin.Range.rangeSize i j k = ((Builtin.Range.rangeSize i j k).toNat : Int)) then some (rngL i k (Builtin.Range.rangeSize i j k).toNat) else none).map Src.fix) = some src := e1
            split at e2
            · rename_i hc
              simp only [Bool.and_eq_true, decide_eq_true_eq] at hc
              cases e2
              exact ⟨i, j, k, _, relDs_ints3 rv, ⟨hc.1.1.1, hc.1.1.2, hc.1.2, hc.2⟩, q2 W' H' _ l fr rp' srcOk_itc'⟩
            · cases e2
          | _ => cases e1
        | _ => cases e1
      | _ => cases e1
end
end Z

set_option Elab.async false
set_option linter.all false
set_option maxRecDepth 100000
/-! Z8: in-place operators, stores in parallel. -/
namespace Z
open PySem PySem.Spec PyProof.Rows L2
/-- in place -/
def ipMul : B2 := fun x y s => match x, y with
  | .int i, .int j => if big i || big j then some ((.int (i * j)), s) else none
  | _, _ => none
def ipOp : Operator → B2
  | .Add => ipAdd
  | .Sub => opSub
  | .Mult => ipMul
  | .FloorDiv => opFdiv
  | .Mod => opMod
  | _ => fun _ _ _ => none
/-- a, b = x, y: stored from the right -/
def putAll : List Nat → List D → Env → Option Env
  | [], [], e => some e
  | i :: is, d :: ds, e => putAll is ds (e.set i (some d))
  | _, _, _ => none
def sPar (is : List Nat) (as : MA) : MS := fun e s => (as e s).out e fun ds s1 => match putAll is ds e with
  | some e1 => .nx e1 s1
  | none => .bad
section
variable {X : Cx} {p : Pl} {WX : L2.WX} {W W' : Wd} {H H' : Hp} {s : Sto}
theorem ip_addR (hK : p.K = X.K) : OpR X (inplaceOp .Add) (r2 p ipAdd) := by
  intro pins s σ H x y v u Q I rx ry h
  obtain ⟨W, st, a, b, rp, ra, rb, q⟩ := h
  unfold ipAdd at q
  split at q
  · cases relD_int ra
    cases relD_int rb
    exact iop_add pins s σ H _ _ v u Q I rx ry ⟨_, _, rfl, rfl, q.same rp rel_int⟩
  · cases relD_str ra
    cases relD_str rb
    split at q
    · rename_i hz
      exact iop_add_str pins s σ H _ _ v u Q I rx ry ⟨_, _, rfl, rfl, by rw [sizeLine_eq]; exact hz, q.same rp rel_str⟩
    · exact q.elim
  · rename_i n
    split at q
    · rename_i xs ys hx hy
      split at q
      · rename_i hz
        obtain ⟨a1, vs, rfl, h1, q1⟩ := lst_rd (d := .ref n) rp hx ra
        obtain ⟨b1, us, rfl, h2, q2⟩ := lst_rd rp hy rb
        obtain ⟨a2, e1, hio⟩ := relD_ref ra
        cases e1
        refine iop_ext pins s σ H _ _ v u Q I rx ry ⟨a1, b1, vs, us, rfl, rfl, h1, h2, by rw [← q1.length, ← q2.length, sizeLine_eq]; exact hz, ?_⟩
        have hz2 : W.fz a1 = none := by
          unfold atS at hx
          split at hx
          · rename_i ys e
            exact (rp.obs n _ a1 e hio).1
          · cases hx
        obtain ⟨f, r⟩ := rp.put (o := .lst (vs ++ us)) (ob := .lst (xs ++ ys)) hio hz2 h1 rfl ⟨hz2, _, upd_same, q1.append q2⟩
        exact q W _ _ (Wd.le.refl W) f r ra
      · exact q.elim
    · exact q.elim
  · exact q.elim
theorem ip_subR : OpR X (inplaceOp .Sub) (r2 p opSub) := by
  intro pins s σ H x y v u Q I rx ry h
  obtain ⟨W, st, a, b, rp, ra, rb, q⟩ := h
  unfold opSub at q
  split at q
  · cases relD_int ra
    cases relD_int rb
    exact iop_sub pins s σ H _ _ v u Q I rx ry ⟨_, _, rfl, rfl, q.same rp rel_int⟩
  · exact q.elim
theorem ip_fdivR : OpR X (inplaceOp .FloorDiv) (r2 p opFdiv) := by
  intro pins s σ H x y v u Q I rx ry h
  obtain ⟨W, st, a, b, rp, ra, rb, q⟩ := h
  unfold opFdiv at q
  split at q
  · cases relD_int ra
    cases relD_int rb
    split at q
    · rename_i hz
      exact iop_fdiv pins s σ H _ _ v u Q I rx ry ⟨_, _, rfl, rfl, hz, q.same rp rel_int⟩
    · exact q.elim
  · exact q.elim
theorem ip_modR : OpR X (inplaceOp .Mod) (r2 p opMod) := by
  intro pins s σ H x y v u Q I rx ry h
  obtain ⟨W, st, a, b, rp, ra, rb, q⟩ := h
  unfold opMod at q
  split at q
  · cases relD_int ra
    cases relD_int rb
    split at q
    · rename_i hz
      exact iop_mod pins s σ H _ _ v u Q I rx ry ⟨_, _, rfl, rfl, hz, q.same rp rel_int⟩
    · exact q.elim
  · exact q.elim
theorem ip_mulR : OpR X (inplaceOp .Mult) (r2 p ipMul) := by
  intro pins s σ H x y v u Q I rx ry h
  obtain ⟨W, st, a, b, rp, ra, rb, q⟩ := h
  unfold ipMul at q
  split at q
  · cases relD_int ra
    cases relD_int rb
    split at q
    · rename_i i j hz
      refine iop_mul pins s σ H _ _ v u Q I rx ry ⟨_, _, rfl, rfl, ?_, q.same rp rel_int⟩
      rcases Bool.or_eq_true_iff.mp hz with z | z
      · exact .inl (big_iff.mp z)
      · exact .inr (big_iff.mp z)
    · exact q.elim
  · exact q.elim
theorem ip_none {op : Operator} : OpR X (inplaceOp op) (r2 p fun _ _ _ => none) := fun pins s σ H x y v u Q I rx ry ⟨W, st, a, b, rp, ra, rb, q⟩ => q.elim
theorem op_none {f : Value → Value → Sem Value} : OpR X f (r2 p fun _ _ _ => none) := fun pins s σ H x y v u Q I rx ry ⟨W, st, a, b, rp, ra, rb, q⟩ => q.elim
theorem ip_R (hK : p.K = X.K) (op : Operator) : OpR X (inplaceOp op) (r2 p (ipOp op)) := by
  cases op <;> first
    | exact ip_addR hK
    | exact ip_subR
    | exact ip_mulR
    | exact ip_fdivR
    | exact ip_modR
    | exact ip_none
theorem bin_R (hK : p.K = X.K) (m : Bool) (op : Operator) : OpR X (binaryOp op) (r2 p (opBin m op)) := by
  cases op <;> first
    | exact op_addR hK m
    | exact op_subR
    | exact op_mulR hK m
    | exact op_fdivR
    | exact op_modR
    | exact op_powR
    | exact op_none
theorem cmp_R (hK : p.K = X.K) (hu : X.A.units + 65 < cLine) (op : CmpOp) : OpR X (compareOp op) (r2 p (opC op)) := by
  cases op with
  | Eq => exact op_eqR hK (by omega)
  | NotEq => exact op_neR hK (by omega)
  | Lt => exact op_cmpI op_lt
  | LtE => exact op_cmpI op_le
  | Gt => exact op_cmpI op_gt
  | GtE => exact op_cmpI op_ge
  | Is => exact op_isR
  | IsNot => exact op_isNotR
  | In => exact op_inS false hK hu
  | NotIn => exact op_inS true hK hu
theorem r_aug {i : Nat} {x : Str} {m : ME} {e : Expr} {op : Operator} {pos pos' : Pos} (hK : p.K = X.K) (hN : X.N.Nodup) (hi : X.N[i]? = some x) (hx : Loc X.env.scope x) (he : PE X e (tE p WX m)) (hf : X.fn x = true ∨ X.env.scope.names.lookup x = some .local) :
    PS X (.AugAssign (.Name x pos') op e pos) (tS p WX (sAug i (ipOp op) m)) :=
  PS.imp (ps_aug hN hi hx he (ip_R hK op) hf) fun D σ H ⟨W, e, s, re, rp, q⟩ => by
    unfold sAug at q
    unfold mVar at q
    split at q
    · rename_i d hd
      obtain ⟨v, h1, h2⟩ := re.at_ i d hd
      refine ⟨v, h1, W, e, s, re, rp, PostS.eval re (f := fun y s1 => (R.of (ipOp op d y s1)).out e fun z s2 => .nx (e.set i (some z)) s2) q fun W1 H1 d2 v2 s1 l fr rp1 rv1 q1 => ?_⟩
      refine ⟨W1, s1, d, d2, rp1, h2.mono l, rv1, Post.of (EX := exW p WX σ) (PostS.eval (re.mono l) q1 fun W2 H2 d3 v3 s2 l2 fr2 rp2 rv2 q2 => ?_)⟩
      exact PostS.nx q2 rp2 (((re.mono l).mono l2).set i rv2)
    · exact q.elim
theorem r_par2 {i j : Nat} {x y : Str} {a b : Expr} {as : MA} {px py pt pos : Pos} {kt k2 : Nat} {pt2 : Pos} (hc : X.calm = true) (hN : X.N.Nodup) (hi : X.N[i]? = some x) (hj : X.N[j]? = some y) (hij : i ≠ j)
    (hx : X.env.scope.names.lookup x = some .local) (hy : X.env.scope.names.lookup y = some .local) (ha : PA X [a, b] (tA p WX as))
    (hw : swappedStores [.Tuple [.Name x px, .Name y py] kt pt] (.Tuple [a, b] k2 pt2) X.env = pure (some [x, y]))
    (hs : swapsWithSole [.Tuple [.Name x px, .Name y py] kt pt] (.Tuple [a, b] k2 pt2) pos.line X.env = pure false) :
    PS X (.Assign [.Tuple [.Name x px, .Name y py] kt pt] (.Tuple [a, b] k2 pt2) pos) (tS p WX (sPar [i, j] as)) :=
  PS.imp (ps_par hc hN hi hj hij hx hy ha hw hs) fun D σ H ⟨W, e, s, re, rp, q⟩ => ⟨W, e, s, re, rp, q.eval re fun W1 H1 ds vs s1 l fr rp1 rv q1 => by
    match ds, q1, rv with
    | [], q1, rv => exact q1.elim
    | [_], q1, rv => exact q1.elim
    | [d, d'], q1, rv =>
      unfold RelDs at rv
      obtain ⟨v, r, rfl, h1, rv⟩ := rv
      unfold RelDs at rv
      obtain ⟨w, r, rfl, h2, rv⟩ := rv
      unfold RelDs at rv
      subst rv
      exact ⟨v, w, rfl, PostS.nx q1 rp1 (((re.mono l).set i h1).set j h2)⟩
    | _ :: _ :: _ :: _, q1, rv => exact q1.elim⟩
theorem r_par3 {i j k : Nat} {x y z : Str} {a b c : Expr} {as : MA} {px py pz pt pos : Pos} {kt k2 : Nat} {pt2 : Pos} (hc : X.calm = true) (hN : X.N.Nodup) (hi : X.N[i]? = some x) (hj : X.N[j]? = some y) (hk : X.N[k]? = some z) (hij : i ≠ j) (hik : i ≠ k) (hjk : j ≠ k)
    (hx : X.env.scope.names.lookup x = some .local) (hy : X.env.scope.names.lookup y = some .local) (hz : X.env.scope.names.lookup z = some .local) (ha : PA X [a, b, c] (tA p WX as))
    (hw : swappedStores [.Tuple [.Name x px, .Name y py, .Name z pz] kt pt] (.Tuple [a, b, c] k2 pt2) X.env = pure (some [x, y, z]))
    (hs : swapsWithSole [.Tuple [.Name x px, .Name y py, .Name z pz] kt pt] (.Tuple [a, b, c] k2 pt2) pos.line X.env = pure false) :
    PS X (.Assign [.Tuple [.Name x px, .Name y py, .Name z pz] kt pt] (.Tuple [a, b, c] k2 pt2) pos) (tS p WX (sPar [i, j, k] as)) :=
  PS.imp (ps_par3 hc hN hi hj hk hij hik hjk hx hy hz ha hw hs) fun D σ H ⟨W, e, s, re, rp, q⟩ => ⟨W, e, s, re, rp, q.eval re fun W1 H1 ds vs s1 l fr rp1 rv q1 => by
    match ds, q1, rv with
    | [], q1, rv => exact q1.elim
    | [_], q1, rv => exact q1.elim
    | [_, _], q1, rv => exact q1.elim
    | [d, d', d''], q1, rv =>
      unfold RelDs at rv
      obtain ⟨v, r, rfl, h1, rv⟩ := rv
      unfold RelDs at rv
      obtain ⟨w, r, rfl, h2, rv⟩ := rv
      unfold RelDs at rv
      obtain ⟨u, r, rfl, h3, rv⟩ := rv
      unfold RelDs at rv
      subst rv
      exact ⟨v, w, u, rfl, PostS.nx q1 rp1 ((((re.mono l).set i h1).set j h2).set k h3)⟩
    | _ :: _ :: _ :: _ :: _, q1, rv => exact q1.elim⟩
end
end Z

set_option Elab.async false
set_option linter.all false
set_option maxRecDepth 100000
set_option maxHeartbeats 1000000
/-! Y8b: exceptions of two kinds: with no context (told by none), with any (told by some 0). -/
namespace Z
open PySem PySem.Spec PyProof.Rows L2
def CXM (P : Program) (w : World) : CXT := fun outer H s E u s' => L2N.CX P w outer H s (fun cls d H' => d = none ∧ E cls none H') u s' ∨ L2.CX P w outer H s (fun cls d H' => d = none ∧ E cls (some 0) H') u s'
structure TakesM (X : Cx) (W : L2.WX) : Prop where
  n : L2N.Takes X (fun cls d σ H => d = none ∧ W cls none σ H)
  a : L2.Takes X (fun cls d σ H => d = none ∧ W cls (some 0) σ H)
section
variable {X : Cx} {W : L2.WX}
theorem sky_imp {B h : Heap} {l : List PySem.Env} {a L : Addr} {Z Z' : Obj → Prop} (z : ∀ o, Z o → Z' o) (x : Sky B l a Z L h) : Sky B l a Z' L h := by
  rcases x with ⟨h1, h2, h3, oe, vs, he, hz, hd, h4⟩ | x | ⟨h1, h2, h3, h4⟩
  · exact .inl ⟨h1, h2, h3, oe, vs, he, z _ hz, hd, h4⟩
  · exact .inr (.inl (L2H.flyingZ_imp z x))
  · refine .inr (.inr ⟨h1, h2, h3, ?_⟩)
    obtain ⟨oe, vs, T, oT, ts, he, hz, r⟩ := h4
    exact ⟨oe, vs, T, oT, ts, he, z _ hz, r⟩
theorem xe_weak {u : Value} {s' : Shared} (x : L2N.XE X W u s') : L2.XE X W u s' := by
  obtain ⟨a, B, sI, pins, σ, H, cls, d, e, I, nb, up, sky, na, os, ag, w⟩ := x
  exact ⟨a, B, sI, pins, σ, H, cls, d, e, I, nb, up, sky_imp (fun o z => z.zc) sky, na, os, ag, w⟩
/-- where all is taken alike -/
theorem takesM_any (tk : L2.Takes X W) : TakesM X (fun cls _ σ H => W cls none σ H) :=
  ⟨fun u s' x => tk u s' (by
    obtain ⟨a, B, sI, pins, σ, H, cls, d, e, I, nb, up, sky, na, os, ag, hd, w⟩ := xe_weak x
    subst hd
    exact ⟨a, B, sI, pins, σ, H, cls, none, e, I, nb, up, sky, na, os, ag, w⟩),
   tk.imp fun c d σ H ⟨hd, w⟩ => by subst hd; exact w⟩
theorem takesM0 {X : Cx} : TakesM X (fun _ _ _ _ => False) :=
  ⟨fun _ _ x => by
    obtain ⟨_, _, _, _, _, _, _, _, _, _, _, _, _, _, _, _, _, z⟩ := x
    exact z.elim, fun _ _ x => by
    obtain ⟨_, _, _, _, _, _, _, _, _, _, _, _, _, _, _, _, _, z⟩ := x
    exact z.elim⟩
theorem passAtM (tk : TakesM X W) (σ : L2.St) : PassesAt (CXM X.prog X.w) X σ (WE W σ) := fun _ _ _ e s' I c => by
  rcases c with c | c
  · exact tk.n e s' (L2N.XE.of_call I (fun _ _ _ h => h) c)
  · exact tk.a e s' (L2.XE.of_call I (fun _ _ _ h => h) c)
theorem takesM_of {E : XK} (hs : X.stack = X.env :: X.outer) (hf : X.env.frame = some X.env.locals) (hex : X.ex = []) {E₁ : Value → Shared → Prop}
    (hx : X.xe = fun e s' => wpAny (model X.prog X.w) X.A (leaving X.env e) (fun _ s'' => CXM X.prog X.w X.outer X.H_0 X.s_0 E e s'') E₁ s') : TakesM X (fun cls d _ H => E cls d H) := by
  refine ⟨fun u s' x => ?_, fun u s' x => ?_⟩
  · rw [hx]
    exact wpAny_mono (L2N.XE.leave (W := fun cls d _ H => d = none ∧ E cls none H) (E := fun cls d H => d = none ∧ E cls none H) (E₁ := E₁) hs hf hex (fun _ _ _ _ h => h) x) (fun _ _ h => .inl h) fun _ _ h => h
  · rw [hx]
    exact wpAny_mono (L2.XE.leave (W := fun cls d _ H => d = none ∧ E cls (some 0) H) (E := fun cls d H => d = none ∧ E cls (some 0) H) (E₁ := E₁) hs hf hex (fun _ _ _ _ h => h) x) (fun _ _ h => .inr h) fun _ _ h => h
/-- X('m'), its fields -/
theorem pmk_own5 {C : Addr} {bmB : List Value} {B newId initId : String} {x m : Str} {j : Nat} {p p2 pos : Pos} (F : ExcBaseFacts B newId initId bmB) (q : PySem.W.excIn X.K C bmB newId = true) (gC : X.mg x = some (.ref C)) (kC : PySem.W.keepIn X.K (.ref C) = true)
    (r : Raises X (.ref C)) (hg : Gl X x) (hdb : (x == ("__debug__" : Str)) = false) : L2H.PMk5 X (.Call (.Name x p) [.Constant (.str m) j p2] [] pos) (fun _ H Q => Q (.ref C) none H) := by
  intro pins s σ H Q I h
  refine wpAny_Call_Name_kw (ld_glob I hg gC ?_ hdb)
  refine PySem.W.callWith_K (h₀ := X.base) I.ok.mod.kin kC (thn ((pa_cons (pe_str (x := m)) pa_nil : PA X [.Constant (.str m) j p2] _).run pos pins s σ H (fun vs H1 => vs = [V.str m] ∧ H = H1) I ⟨rfl, rfl⟩) fun us s1 ⟨vs, H1, I1, r1, ev, eH⟩ => ?_)
  subst ev
  rw [← eH] at I1
  refine ⟨I1.kIn, ?_⟩
  cases r1 with
  | cons ru rn =>
    rename_i u us'
    cases rn
    obtain ⟨bm, N, nm, qn, bs, hdct, sn, sub, ab, col, dd, k0, k1, k2, k3, k5, mN, hC, hN, hni, T⟩ := exc_obj I1.kIn q
    exact wpAny_call_exc_subT F T hC hN hni (fun h' e hm => L2H.mk_of5 I1 hm r h (I1.hok.gone hm.new)) (by show 1 ≤ sizeLine; rw [sizeLine_eq]; omega)
end
end Z

set_option Elab.async false
set_option linter.all false
set_option maxRecDepth 100000
/-! Z9: defs, calls, exceptions. -/
namespace Z
open PySem PySem.Spec PyProof.Rows L2
/-- what a def computes -/
abbrev FM := List D → Sto → R D
/-- a def's promise, by what it computes -/
def spOf (p : Pl) (n : Nat) (dp : Bool) (f : FM) : Sp := fun vs H Q E => vs.length = n ∧ ∃ W ds s, (dp = true → W.lf = none) ∧ Rep p W s H ∧ RelDs p.K W ds vs ∧ Post p (RelD p.K) W H (fun c H' => E (.ref (p.xa (c / 2))) (tgX c) H') Q (f ds s)
def mCall (n : Nat) (f : FM) (as : MA) : ME := fun e s => (as e s).bind fun ds s1 => if ds.length = n then f ds s1 else .bad
def startE (N : List Str) (ds : List D) : Env := ds.map some ++ List.replicate (N.length - ds.length) none
def runBody (N : List Str) (m : MS) : FM := fun ds s => match m (startE N ds) s with
  | .nx _ s1 => .ok .non s1
  | .rt d s1 => .ok d s1
  | .ex c _ s1 => .exc c s1
  | _ => .bad
/-- run alone: it knows nothing of the store -/
def alone (f : FM) : FM := fun ds s => if ds.all (pure? 12) then (match f ds [] with
  | .ok d _ => if pure? 12 d then .ok d s else .bad
  | .exc c _ => .exc c s
  | .bad => .bad) else .bad
def sRaise (c : Nat) : MS := fun e s => .ex c e s
def sTry (catch_ : Nat → Option Bool) (b h : MS) : MS := fun e s => match b e s with
  | .ex c e1 s1 => (match catch_ (c / 2) with
    | some true => h e1 s1
    | some false => .ex (2 * (c / 2) + 1) e1 s1
    | none => .bad)
  | o => o
/-! ### run alone -/
mutual
theorem relD_pure {K : PySem.W.Frag} {W W' : Wd} (hz : ∀ a o, W.fz a = some o → W'.fz a = some o) : ∀ (k : Nat) {d : D} {v : V}, pure? k d = true → RelD K W d v → RelD K W' d v
  | 0, d, v, h, r => by unfold pure? at h; cases h
  | k + 1, d, v, h, r => by
    cases d with
    | non => exact r
    | bl b => exact r
    | int i => exact r
    | str x => exact r
    | ref n => cases h
    | lam n => cases h
    | dic ks ds =>
      unfold RelD at r ⊢
      obtain ⟨a, o, kws, e, s, k1, r⟩ := r
      exact ⟨a, o, kws, e, hz _ _ s, k1, relDs_pure hz k (by simpa [pure?] using h) r⟩
    | tup ds =>
      unfold RelD at r ⊢
      obtain ⟨a, vs, e, s, r⟩ := r
      exact ⟨a, vs, e, seqT_mono hz s, relDs_pure hz k (by simpa [pure?] using h) r⟩
    | lst ds =>
      unfold RelD at r ⊢
      obtain ⟨a, vs, e, s, r⟩ := r
      exact ⟨a, vs, e, hz _ _ s, relDs_pure hz k (by simpa [pure?] using h) r⟩
    | scr ds =>
      unfold RelD at r ⊢
      obtain ⟨a, vs, e, s, r⟩ := r
      exact ⟨a, vs, e, seqL_mono hz s, relDs_pure hz k (by simpa [pure?] using h) r⟩
theorem relDs_pure {K : PySem.W.Frag} {W W' : Wd} (hz : ∀ a o, W.fz a = some o → W'.fz a = some o) : ∀ (k : Nat) {ds : List D} {vs : List V}, (∀ d ∈ ds, pure? k d = true) → RelDs K W ds vs → RelDs K W' ds vs
  | k, [], vs, h, r => by
    unfold RelDs at r ⊢
    exact r
  | k, d :: ds, vs, h, r => by
    unfold RelDs at r ⊢
    obtain ⟨v, vr, e, h1, h2⟩ := r
    exact ⟨v, vr, e, relD_pure hz k (h d (List.mem_cons_self ..)) h1, relDs_pure hz k (fun x hx => h x (List.mem_cons_of_mem _ hx)) h2⟩
end
/-! ### whose lambdas are held -/
abbrev Wd.at_ (W : Wd) (l : Option (List (Str × Addr))) : Wd := ⟨W.fz, W.io, l⟩
mutual
theorem relD_relf {K : PySem.W.Frag} {W : Wd} {l : Option (List (Str × Addr))} : ∀ (k : Nat) {d : D} {v : V}, nolam k d = true → RelD K W d v → RelD K (W.at_ l) d v
  | 0, d, v, h, r => by unfold nolam at h; cases h
  | k + 1, d, v, h, r => by
    cases d with
    | non => exact r
    | bl b => exact r
    | int i => exact r
    | str x => exact r
    | ref n => unfold RelD at r ⊢; exact r
    | lam n => cases h
    | dic ks ds =>
      unfold RelD at r ⊢
      obtain ⟨a, o, kws, e, s, k1, r⟩ := r
      exact ⟨a, o, kws, e, s, k1, relDs_relf k (by simpa [nolam] using h) r⟩
    | tup ds =>
      unfold RelD at r ⊢
      obtain ⟨a, vs, e, s, r⟩ := r
      exact ⟨a, vs, e, s, relDs_relf k (by simpa [nolam] using h) r⟩
    | lst ds =>
      unfold RelD at r ⊢
      obtain ⟨a, vs, e, s, r⟩ := r
      exact ⟨a, vs, e, s, relDs_relf k (by simpa [nolam] using h) r⟩
    | scr ds =>
      unfold RelD at r ⊢
      obtain ⟨a, vs, e, s, r⟩ := r
      exact ⟨a, vs, e, s, relDs_relf k (by simpa [nolam] using h) r⟩
theorem relDs_relf {K : PySem.W.Frag} {W : Wd} {l : Option (List (Str × Addr))} : ∀ (k : Nat) {ds : List D} {vs : List V}, (∀ d ∈ ds, nolam k d = true) → RelDs K W ds vs → RelDs K (W.at_ l) ds vs
  | k, [], vs, h, r => by
    unfold RelDs at r ⊢
    exact r
  | k, d :: ds, vs, h, r => by
    unfold RelDs at r ⊢
    obtain ⟨v, vr, e, h1, h2⟩ := r
    exact ⟨v, vr, e, relD_relf k (h d (List.mem_cons_self ..)) h1, relDs_relf k (fun x hx => h x (List.mem_cons_of_mem _ hx)) h2⟩
end
mutual
theorem RelD.unlf {K : PySem.W.Frag} {W : Wd} : ∀ {d : D} {v : V}, RelD K W d v → RelD K (W.at_ none) d v
  | .non, _, h => h
  | .bl _, _, h => h
  | .int _, _, h => h
  | .str _, _, h => h
  | .ref n, v, h => by unfold RelD at h ⊢; exact h
  | .tup ds, v, h => by
    unfold RelD at h ⊢
    obtain ⟨a, vs, e, s, r⟩ := h
    exact ⟨a, vs, e, s, r.unlf⟩
  | .lst ds, v, h => by
    unfold RelD at h ⊢
    obtain ⟨a, vs, e, s, r⟩ := h
    exact ⟨a, vs, e, s, r.unlf⟩
  | .scr ds, v, h => by
    unfold RelD at h ⊢
    obtain ⟨a, vs, e, s, r⟩ := h
    exact ⟨a, vs, e, s, r.unlf⟩
  | .dic ks ds, v, h => by
    unfold RelD at h ⊢
    obtain ⟨a, o, kws, e, s, k, r⟩ := h
    exact ⟨a, o, kws, e, s, k, r.unlf⟩
  | .lam li, v, h => by
    unfold RelD at h ⊢
    obtain ⟨f, cl, c', pm, ctv, e, a, b, c⟩ := h
    exact ⟨f, cl, c', pm, ctv, e, a, b, fun cells q => by cases q⟩
theorem RelDs.unlf {K : PySem.W.Frag} {W : Wd} : ∀ {ds : List D} {vs : List V}, RelDs K W ds vs → RelDs K (W.at_ none) ds vs
  | [], _, h => h
  | d :: ds, vs, h => by
    unfold RelDs at h ⊢
    obtain ⟨v, r, e, h1, h2⟩ := h
    exact ⟨v, r, e, h1.unlf, h2.unlf⟩
end
theorem paired_memL {α β : Type} {F G : α → β → Prop} : ∀ {l₁ : List α} {l₂ : List β}, Paired F l₁ l₂ → (∀ a b, a ∈ l₁ → F a b → G a b) → Paired G l₁ l₂
  | _, _, .nil, _ => .nil
  | _, _, .cons r t, f => .cons (f _ _ (List.mem_cons_self ..) r) (paired_memL t fun a b h => f a b (List.mem_cons_of_mem _ h))
theorem Rep.relf {p : Pl} {W : Wd} {s : Sto} {H : Hp} {l : Option (List (Str × Addr))} (rp : Rep p W s H) (h : s.all nolamO = true) : Rep p (W.at_ l) s H := by
  refine ⟨rp.tab, rp.fz, rp.nt, rp.len, rp.nd, rp.tr, fun n ob a e1 e2 => ?_⟩
  have hn := List.all_eq_true.mp h ob (List.mem_of_getElem? e1)
  have q := rp.obs n ob a e1 e2
  cases ob with
  | dead => trivial
  | lst ds =>
    obtain ⟨z, vs, h1, h2⟩ := q
    exact ⟨z, vs, h1, relDs_relf 12 (by simpa [nolamO] using hn) h2⟩
  | dct kvs =>
    obtain ⟨z, vs, h1, h2⟩ := q
    have hn' : ∀ q ∈ kvs, nolam 12 q.2 = true := List.all_eq_true.mp hn
    exact ⟨z, vs, h1, paired_memL h2 fun a b hm hab => ⟨hab.1, relD_relf 12 (hn' a hm) hab.2⟩⟩
  | lck kvs =>
    obtain ⟨z, o, vs, h1, h2⟩ := q
    have hn' : ∀ q ∈ kvs, nolam 12 q.2 = true := List.all_eq_true.mp hn
    exact ⟨z, o, vs, h1, paired_memL h2 fun a b hm hab => ⟨hab.1, relD_relf 12 (hn' a hm) hab.2⟩⟩
  | ins c fs =>
    obtain ⟨z, dx, vs, h1, h2⟩ := q
    have hn' : ∀ q ∈ fs, nolam 12 q.2 = true := List.all_eq_true.mp hn
    exact ⟨z, dx, vs, h1, paired_memL h2 fun a b hm hab => ⟨hab.1, relD_relf 12 (hn' a hm) hab.2⟩⟩
theorem Rep.unlf {p : Pl} {W : Wd} {s : Sto} {H : Hp} (rp : Rep p W s H) : Rep p (W.at_ none) s H := by
  refine ⟨rp.tab, rp.fz, rp.nt, rp.len, rp.nd, rp.tr, fun n ob a e1 e2 => ?_⟩
  have q := rp.obs n ob a e1 e2
  cases ob with
  | dead => trivial
  | lst ds =>
    obtain ⟨z, vs, h1, h2⟩ := q
    exact ⟨z, vs, h1, h2.unlf⟩
  | dct kvs =>
    obtain ⟨z, vs, h1, h2⟩ := q
    exact ⟨z, vs, h1, Paired.mapP h2 fun a b hab => ⟨hab.1, hab.2.unlf⟩⟩
  | lck kvs =>
    obtain ⟨z, o, vs, h1, h2⟩ := q
    exact ⟨z, o, vs, h1, Paired.mapP h2 fun a b hab => ⟨hab.1, hab.2.unlf⟩⟩
  | ins c fs =>
    obtain ⟨z, dx, vs, h1, h2⟩ := q
    exact ⟨z, dx, vs, h1, Paired.mapP h2 fun a b hab => ⟨hab.1, hab.2.unlf⟩⟩
theorem Fr.at_ {W W' : Wd} {H H' : Hp} {l l' : Option (List (Str × Addr))} (f : Fr W W' H H') : Fr (W.at_ l) (W'.at_ l') H H' := ⟨f.keep, f.sm, f.new, f.io⟩
/-- run with lambdas of its own -/
def lamly (f : FM) : FM := fun ds s => if ds.all (nolam 12) && s.all nolamO then f ds s else .bad
/-- the wish of such a run -/
theorem post_lamly {p : Pl} {W : Wd} {H : Hp} {EX : Nat → Hp → Prop} {Q : V → Hp → Prop} {r : R D} {l : Option (List (Str × Addr))} (h0 : W.lf = none) (q : Post p (RelD p.K) W H EX Q r) : Post p (RelD p.K) (W.at_ l) H EX Q r := by
  have le : ∀ {W'}, (W.at_ l).le W' → W.le (W'.at_ none) := fun l1 => ⟨l1.fz, l1.io, h0.symm⟩
  cases r with
  | ok d s => exact fun W' H' v l1 fr rp rv => q (W'.at_ none) H' v (le l1) ⟨fr.keep, fr.sm, fr.new, fr.io⟩ rp.unlf rv.unlf
  | exc c s => exact fun W' H' l1 fr rp => q (W'.at_ none) H' (le l1) ⟨fr.keep, fr.sm, fr.new, fr.io⟩ rp.unlf
  | bad => exact q
theorem rep_alone {p : Pl} {W : Wd} {s : Sto} {H : Hp} (rp : Rep p W s H) : Rep p ⟨W.fz, [], W.lf⟩ [] H := ⟨rp.tab, rp.fz, rp.nt, rfl, List.nodup_nil, fun b hb => (by cases hb), fun n ob a e => (by simp at e)⟩
theorem rep_back {p : Pl} {W W' : Wd} {s s' : Sto} {H H' : Hp} (rp : Rep p W s H) (l : (⟨W.fz, [], W.lf⟩ : Wd).le W') (fr : Fr ⟨W.fz, [], W.lf⟩ W' H H') (rp' : Rep p W' s' H') : W.le ⟨W'.fz, W.io, W.lf⟩ ∧ Fr W ⟨W'.fz, W.io, W.lf⟩ H H' ∧ Rep p ⟨W'.fz, W.io, W.lf⟩ s H' := by
  have le : W.le ⟨W'.fz, W.io, W.lf⟩ := ⟨l.fz, ⟨[], by simp⟩, rfl⟩
  refine ⟨le, ⟨fun b o e _ ht => fr.keep b o e (by simp) ht, fr.sm, fun a ha => ?_, fun a ha => .inl ha⟩, ⟨rp'.tab, rp'.fz, rp'.nt, rp.len, rp.nd, fun b hb => fr.sm b (rp.tr b hb), fun n ob a e1 e2 => ?_⟩⟩
  · rcases fr.new a ha with z | z | z | z
    · exact .inl z
    · exact .inr (.inl z)
    · cases z
    · exact .inr (.inr (.inr z))
  · have q := rp.obs n ob a e1 e2
    have key : ∀ o : HO, H a = some o → isSt o = true → H' a = H a := fun o ho hs => by
      rw [ho]
      exact fr.keep a o ho (by simp) (by rintro ps rfl; cases hs)
    have keyz : ∀ o : HO, H a = some o → isSt o = true → W.fz a = none → W'.fz a = none := fun o ho hs hz => by
      cases e : W'.fz a with
      | none => rfl
      | some o =>
        rcases fr.new a (by rw [e]; simp) with z | z | z | ⟨o2, z, z2⟩
        · exact absurd hz z
        · rw [ho] at z; cases z
        · cases z
        · rw [ho] at z
          cases z
          rw [hs] at z2
          cases z2
    cases ob with
    | dead => trivial
    | lst ds =>
      obtain ⟨_, vs, h1, _⟩ := id q
      exact q.keep le (key _ h1 rfl) (keyz _ h1 rfl)
    | dct kvs =>
      obtain ⟨_, vs, h1, _⟩ := id q
      exact q.keep le (key _ h1 rfl) (keyz _ h1 rfl)
    | lck kvs =>
      obtain ⟨_, dx, vs, h1, _⟩ := id q
      exact q.keep le (key _ h1 rfl) (keyz _ h1 rfl)
    | ins c fs =>
      obtain ⟨_, dx, vs, h1, _⟩ := id q
      exact q.keep le (key _ h1 rfl) (keyz _ h1 rfl)
theorem spOf_alone {p : Pl} {n : Nat} {dp : Bool} {f : FM} {vs : List V} {H : Hp} {Q : VK} {E : XK} (h : spOf p n dp (alone f) vs H Q E) : spOf p n dp f vs H Q E := by
  obtain ⟨hl, W, ds, s, hdp, rp, rv, q⟩ := h
  unfold alone at q
  split at q
  · rename_i ha
    refine ⟨hl, ⟨W.fz, [], W.lf⟩, ds, [], hdp, rep_alone rp, relDs_pure (W := W) (W' := ⟨W.fz, [], W.lf⟩) (fun _ _ e => e) 12 (by simpa using ha) rv, ?_⟩
    cases e : f ds [] with
    | ok d s' =>
      rw [e] at q
      have q' : Post p (RelD p.K) W H (fun c H' => E (.ref (p.xa (c / 2))) (tgX c) H') Q (if pure? 12 d then .ok d s else .bad) := q
      split at q'
      · rename_i hp
        intro W' H' v l fr rp' rv'
        obtain ⟨l2, f2, r2⟩ := rep_back rp l fr rp'
        exact q' _ H' v l2 f2 r2 (relD_pure (W := W') (W' := ⟨W'.fz, W.io, W.lf⟩) (fun _ _ e => e) 12 hp rv')
      · exact q'.elim
    | exc c s' =>
      rw [e] at q
      intro W' H' l fr rp'
      obtain ⟨l2, f2, r2⟩ := rep_back rp l fr rp'
      exact q _ H' l2 f2 r2
    | bad => rw [e] at q; exact q
  · exact q.elim
section
variable {X : Cx} {p : Pl} {WX : L2.WX}
/-! ### calls -/
theorem t_call {n : Nat} {dp : Bool} {f : FM} {as : MA} {σ : L2.St} {H : Hp} {Q : VK} (hdp : dp = true → ∀ o, p.lfc o → o = none) (h : tE p WX (mCall n f as) σ H Q) : tCallS (spOf p n dp f) (WE WX) (tA p WX as) σ H Q := by
  obtain ⟨W, e, s, re, rp, q⟩ := h
  refine ⟨W, e, s, re, rp, q.bind fun W1 H1 ds vs s1 l fr rp1 rv q1 => ?_⟩
  split at q1
  · rename_i hl
    exact ⟨by rw [← rv.length, hl], W1, ds, s1, fun z => hdp z _ (re.mono l).lf, rp1, rv, q1⟩
  · exact q1.elim
theorem r_call {n k : Nat} {dp : Bool} {f : FM} {as : MA} {fa : Addr} {fd : FuncData} {ps : List Str} {x : Str} {pp pos : Pos} {e : Expr} {es : List Expr} (F : FnOk X.prog X.w X.K X.mg X.base (CXM X.prog X.w) k fa fd ps (spOf p n dp f)) (hdp : dp = true → ∀ o, p.lfc o → o = none) (hr : Room k X.A) (hg : Gl X x) (hm : X.mg x = some (.ref fa)) (hk : PySem.W.keepIn X.K (.ref fa) = true)
    (hb : Binds X.K fd ps []) (tk : TakesM X WX) (ha : PA X (e :: es) (tA p WX as)) (hdb : (x == ("__debug__" : Str)) = false) (he : starEach (e :: es) X.env = (false, eval e X.env) :: starEach es X.env) (hpl : (backTo pos (starEach es X.env)).any (·.1) = false) :
    PE X (.Call (.Name x pp) (e :: es) [] pos) (tE p WX (mCall n f as)) := PE.imp (pe_callS F hr hg hm hk hb (fun σ => passAtM tk σ) ha hdb he hpl) fun _ _ _ h => t_call hdp h
theorem pe_call0S {k : Nat} {fa : Addr} {fd : FuncData} {ps : List Str} {x : Str} {pp pos : Pos} {sp : Sp} {E : L2.St → XK} (F : FnOk X.prog X.w X.K X.mg X.base (CXM X.prog X.w) k fa fd ps sp) (hr : Room k X.A) (hg : Gl X x) (hm : X.mg x = some (.ref fa)) (hk : PySem.W.keepIn X.K (.ref fa) = true)
    (hb : Binds X.K fd ps []) (hx : ∀ σ, PassesAt (CXM X.prog X.w) X σ (E σ)) (hdb : (x == ("__debug__" : Str)) = false) : PE X (.Call (.Name x pp) [] [] pos) (tCallS sp E tNil) := by
  refine ⟨fun pins s σ H Q I h => ?_⟩
  refine wpAny_Call_Name_kw (ld_glob I hg hm ?_ hdb)
  exact PySem.W.callWith_K0 I.kIn hk (run_fnS (us := []) F hr hb (hx σ) I .nil h)
theorem r_call0 {n k : Nat} {dp : Bool} {f : FM} {fa : Addr} {fd : FuncData} {ps : List Str} {x : Str} {pp pos : Pos} (F : FnOk X.prog X.w X.K X.mg X.base (CXM X.prog X.w) k fa fd ps (spOf p n dp f)) (hdp : dp = true → ∀ o, p.lfc o → o = none) (hr : Room k X.A) (hg : Gl X x) (hm : X.mg x = some (.ref fa)) (hk : PySem.W.keepIn X.K (.ref fa) = true)
    (hb : Binds X.K fd ps []) (tk : TakesM X WX) (hdb : (x == ("__debug__" : Str)) = false) : PE X (.Call (.Name x pp) [] [] pos) (tE p WX (mCall n f aNil)) := by
  refine PE.imp (pe_call0S F hr hg hm hk hb (fun σ => passAtM tk σ) hdb) fun σ H Q h => ?_
  obtain ⟨W, e, s, re, rp, q⟩ := h
  unfold mCall aNil at q
  have q' : Post p (RelD p.K) W H (exW p WX σ) Q (if ([] : List D).length = n then f [] s else .bad) := q
  split at q'
  · rename_i hl
    exact ⟨hl, W, [], s, fun z => hdp z _ re.lf, rp, relDs_nil, q'⟩
  · exact q'.elim
/-! ### exceptions -/
theorem tgX0 (c : Nat) : tgX (2 * c) = none := by
  unfold tgX
  rw [if_pos (by omega)]
theorem tgX1 (c : Nat) : tgX (2 * c + 1) = some 0 := by
  unfold tgX
  rw [if_neg (by omega)]
theorem r_raise {c : Nat} {x m : Str} {j : Nat} {B newId initId : String} {bmB : List Value} {p1 p2 p3 pos : Pos} (hc : X.calm = true) (tk : TakesM X WX) (F : PySem.ExcBaseFacts B newId initId bmB) (q : PySem.W.excIn X.K (p.xa c) bmB newId = true) (gC : X.mg x = some (.ref (p.xa c))) (kC : PySem.W.keepIn X.K (.ref (p.xa c)) = true)
    (r : Raises X (.ref (p.xa c))) (hg : Gl X x) (hdb : (x == ("__debug__" : Str)) = false) : PS X (.Raise (some (.Call (.Name x p1) [.Constant (.str m) j p2] [] p3)) none pos) (tS p WX (sRaise (2 * c))) :=
  PS.imp (L2N.ps_raise hc tk.n (L2N.pmk_own F q gC kC r hg hdb)) fun D σ H ⟨W, e, s, re, rp, q⟩ => ⟨rfl, by
    have h := q W H σ (Wd.le.refl W) (Fr.refl W H) rp re
    rw [tgX0, Nat.mul_div_cancel_left c (by decide)] at h
    exact h⟩
/-- the wish of a body whose exceptions are taken alike -/
abbrev WM (W : L2.WX) : L2.WX := fun cls _ σ H => W cls none σ H
theorem r_try {mb ms : MS} {catch_ : Nat → Option Bool} {x : Str} {c : Value} {body suite : List Stmt} {b₀ : Stmt} {np pos pos' : Pos} (hs : X.stack = X.env :: X.outer) (hf : X.env.frame = some X.env.locals) (hc : Names X x c) (tk : TakesM X WX)
    (hx : ∀ i b, catch_ i = some b → PySem.W.exmOne X.K (.ref (p.xa i)) c = some b)
    (hb : ∀ (W : L2.WX) (pn : List (Addr × Obj)) (xe : Value → Shared → Prop), TakesM (X.tr pn xe) W → PassesOwn (model X.prog X.w) X.A X.env xe → PSs (X.tr pn xe) body (tS p W mb))
    (hsu : ∀ (a : Addr) (pn : List (Addr × Obj)), PSs (X.suite a pn) (b₀ :: suite) (tS p (fun _ _ _ _ => False) ms))
    (hne : ∀ e s c e' s', ms e s ≠ .ex c e' s') :
    PS X (.Try body [.ExceptHandler (some (.Name x np)) none (b₀ :: suite) pos'] [] [] pos) (tS p WX (sTry catch_ mb ms)) :=
  PS.imp (ps_try_only (tb := fun W => tS p (WM W) mb) (ts := fun _ _ _ => tS p (fun _ _ _ _ => False) ms) hs hf hc tk.a (fun W pn xe tk' po => hb (WM W) pn xe (takesM_any tk') po) fun a oe cls d pn _ _ => hsu a _) fun D σ H ⟨W, e, s, re, rp, q⟩ => by
    refine ⟨W, e, s, re, rp, ?_⟩
    unfold sTry at q
    cases h : mb e s with
    | nx e1 s1 => rw [h] at q; exact q
    | rt d s1 => rw [h] at q; exact q
    | bk e1 s1 => rw [h] at q; exact q
    | ct e1 s1 => rw [h] at q; exact q
    | bad => rw [h] at q; exact q
    | ex i e1 s1 =>
      rw [h] at q
      intro W1 H1 σ1 l1 f1 rp1 re1
      have q' : PostS p W H WX D (match catch_ (i / 2) with | some true => ms e1 s1 | some false => .ex (2 * (i / 2) + 1) e1 s1 | none => .bad) := q
      cases hci : catch_ (i / 2) with
      | none => rw [hci] at q'; exact q'.elim
      | some b =>
        refine ⟨b, hx (i / 2) b hci, fun hb => ?_, fun hb => ?_⟩
        · subst hb
          rw [hci] at q'
          intro a ha
          refine ⟨W1, e1, s1, re1, rp1, ?_⟩
          have q2 : PostS p W1 H1 WX D (ms e1 s1) := PostS.re l1 f1 q'
          cases hm : ms e1 s1 with
          | nx e2 s2 => rw [hm] at q2; exact q2
          | rt d s2 => rw [hm] at q2; exact q2
          | bk e2 s2 => rw [hm] at q2; exact q2
          | ct e2 s2 => rw [hm] at q2; exact q2
          | bad => rw [hm] at q2; exact q2
          | ex c2 e2 s2 => exact absurd hm (hne _ _ _ _ _)
        · subst hb
          rw [hci] at q'
          have h2 := q' W1 H1 σ1 l1 f1 rp1 re1
          rw [tgX1, show (2 * (i / 2) + 1) / 2 = i / 2 by omega] at h2
          exact ⟨rfl, h2⟩
/-- try: .. except x: raise y('..') from None -/
def sTryX (catch_ : Nat → Option Bool) (y : Nat) (b : MS) : MS := fun e s => match b e s with
  | .ex c e1 s1 => if c % 2 = 0 then (match catch_ (c / 2) with
      | some true => .ex (2 * y + 1) e1 s1
      | some false => .ex (2 * (c / 2) + 1) e1 s1
      | none => .bad)
    else (match catch_ (c / 2) with
      | some false => .ex (2 * (c / 2) + 1) e1 s1
      | _ => .bad)
  | o => o
theorem r_tryX {mb : MS} {catch_ : Nat → Option Bool} {x y m : Str} {c : Value} {yi j j2 : Nat} {B newId initId : String} {bmB : List Value} {body : List Stmt} {np p1 p2 p3 p4 p5 pos pos' : Pos} (hs : X.stack = X.env :: X.outer) (hf : X.env.frame = some X.env.locals) (hc : Names X x c) (tk : TakesM X WX)
    (hpa : ∀ hd : Option Value, PassesOwnAt (model X.prog X.w) (X.A.mark hd) X.A X.env X.xe)
    (hx : ∀ i b, catch_ i = some b → PySem.W.exmOne X.K (.ref (p.xa i)) c = some b)
    (hb : ∀ (W : L2.WX) (pn : List (Addr × Obj)) (xe : Value → Shared → Prop), TakesM (X.tr pn xe) W → PassesOwn (model X.prog X.w) X.A X.env xe → PSs (X.tr pn xe) body (tS p W mb))
    (F : PySem.ExcBaseFacts B newId initId bmB) (qy : PySem.W.excIn X.K (p.xa yi) bmB newId = true) (gC : X.mg y = some (.ref (p.xa yi))) (kC : PySem.W.keepIn X.K (.ref (p.xa yi)) = true) (r : Raises X (.ref (p.xa yi))) (hg : Gl X y) (hdb : (y == ("__debug__" : Str)) = false) :
    PS X (.Try body [.ExceptHandler (some (.Name x np)) none [.Raise (some (.Call (.Name y p1) [.Constant (.str m) j p2] [] p3)) (some (.Constant .none j2 p4)) p5] pos'] [] [] pos) (tS p WX (sTryX catch_ yi mb)) := by
  let Wo : L2.WX := fun cls d σ H => d = none ∧ WX cls (some 0) σ H
  let tsu : Addr → Value → Option Addr → TS := fun _ _ _ _ σ H => Wo (.ref (p.xa yi)) none σ H
  refine PS.imp (L2H.ps_try_onlyX (tb := fun W => tS p (fun cls d σ H => match d with | none => W cls none σ H | some _ => PySem.W.exmOne X.K cls c = some false ∧ WX cls (some 0) σ H) mb) (ts := tsu) (Wout := Wo) hs hf hc hpa tk.a
    (fun W pn xe tn ta po => hb _ pn xe ⟨tn.imp fun cls d σ H ⟨hd, w⟩ => by subst hd; exact w, ta.imp fun cls d σ H ⟨hd, h1, h2⟩ => ⟨h1, hd, h2⟩⟩ po)
    (fun a oe cls d pn _ _ ts hot => pss_one (PS.imp (L2H.ps_raiseHN (X := L2H.suiteX X a ((a, oe) :: pn)) hot ts (pmk_own5 F qy gC kC r hg hdb)) fun D σ H h => h))) fun D σ H ⟨W, e, s, re, rp, q⟩ => ?_
  refine ⟨W, e, s, re, rp, ?_⟩
  unfold sTryX at q
  cases h : mb e s with
  | nx e1 s1 => rw [h] at q; exact q
  | rt d s1 => rw [h] at q; exact q
  | bk e1 s1 => rw [h] at q; exact q
  | ct e1 s1 => rw [h] at q; exact q
  | bad => rw [h] at q; exact q
  | ex i e1 s1 =>
    rw [h] at q
    intro W1 H1 σ1 l1 f1 rp1 re1
    have q' : PostS p W H WX D (if i % 2 = 0 then (match catch_ (i / 2) with
        | some true => .ex (2 * yi + 1) e1 s1
        | some false => .ex (2 * (i / 2) + 1) e1 s1
        | none => .bad)
      else (match catch_ (i / 2) with
        | some false => .ex (2 * (i / 2) + 1) e1 s1
        | _ => .bad)) := q
    have out : PostS p W H WX D (.ex (2 * (i / 2) + 1) e1 s1) → WX (.ref (p.xa (i / 2))) (some 0) σ1 H1 := fun z => by
      have h2 := z W1 H1 σ1 l1 f1 rp1 re1
      rw [tgX1, show (2 * (i / 2) + 1) / 2 = i / 2 by omega] at h2
      exact h2
    by_cases hi : i % 2 = 0
    · rw [if_pos hi] at q'
      rw [show tgX i = none by unfold tgX; rw [if_pos hi]]
      cases hci : catch_ (i / 2) with
      | none => rw [hci] at q'; exact q'.elim
      | some b =>
        refine ⟨b, hx (i / 2) b hci, fun hb => ?_, fun hb => ?_⟩
        · subst hb
          rw [hci] at q'
          have h2 := q' W1 H1 σ1 l1 f1 rp1 re1
          rw [tgX1, show (2 * yi + 1) / 2 = yi by omega] at h2
          exact fun a ha => ⟨rfl, h2⟩
        · subst hb
          rw [hci] at q'
          exact ⟨rfl, out q'⟩
    · rw [if_neg hi] at q'
      rw [show tgX i = some 0 by unfold tgX; rw [if_neg hi]]
      cases hci : catch_ (i / 2) with
      | none => rw [hci] at q'; exact q'.elim
      | some b =>
        rw [hci] at q'
        cases b with
        | true => exact q'.elim
        | false => exact ⟨hx (i / 2) false hci, out q'⟩
end
end Z

set_option Elab.async false
set_option linter.all false
set_option maxRecDepth 100000
/-! Z10: built-in functions. -/
namespace Z
open PySem PySem.Spec PyProof.Rows L2
abbrev FB := List D → Sto → O1
def intsOf : List D → Option (List Int)
  | [] => some []
  | .int i :: r => (match intsOf r with | some l => some (i :: l) | none => none)
  | _ => none
def bLen : FB := fun ds s => match ds with
  | [.str x] => if x.length ≤ line then some (.int x.length, s) else none
  | [d] => (match seqOf d s with | some xs => some (.int xs.length, s) | none => none)
  | _ => none
def bInt : FB := fun ds s => match ds with
  | [.int i] => some (.int i, s)
  | [.bl b] => some (.int (if b then 1 else 0), s)
  | _ => none
def bAbs : FB := fun ds s => match ds with
  | [.int i] => some (.int (if i < 0 then -i else i), s)
  | _ => none
def bList (m : Bool) : FB := fun ds s => match ds with
  | [d] => (match seqOf d s with | some xs => mkL m xs s | none => none)
  | _ => none
def bTup : FB := fun ds s => match ds with
  | [.tup xs] => some (.tup xs, s)
  | [d] => (match seqOf d s with | some xs => mkT xs s | none => none)
  | _ => none
def bSum : FB := fun ds s => match ds with
  | [d] => (match seqOf d s with | some xs => (match intsOf xs with | some ns => some (.int ns.sum, s) | none => none) | none => none)
  | _ => none
def bMax : FB := fun ds s => match ds with
  | [.int i, .int j] => some (.int (if j > i then j else i), s)
  | _ => none
def bMin : FB := fun ds s => match ds with
  | [.int i, .int j] => some (.int (if j < i then j else i), s)
  | _ => none
def bStr : FB := fun ds s => match ds with
  | [.int i] => if i.natAbs.log2 < 1920 then some (.str (toString i), s) else none
  | _ => none
def mB1 (f : FB) (as : MA) : ME := fun e s => (as e s).bind fun ds s1 => R.of (f ds s1)
def rB (p : Pl) (f : FB) : List V → Hp → VK → Prop := fun vs H Q => ∃ W s ds, Rep p W s H ∧ RelDs p.K W ds vs ∧ PostO p (RelD p.K) W H Q (f ds s)
section
variable {X : Cx} {p : Pl} {WX : L2.WX} {W W' : Wd} {H H' : Hp} {s : Sto}
theorem relDs_1 {d : Z.D} {vs : List V} (h : RelDs p.K W [d] vs) : ∃ v, vs = [v] ∧ RelD p.K W d v := by
  unfold RelDs at h
  obtain ⟨v, r, rfl, h1, h2⟩ := h
  unfold RelDs at h2
  exact ⟨v, by rw [h2], h1⟩
theorem relDs_2 {d d' : Z.D} {vs : List V} (h : RelDs p.K W [d, d'] vs) : ∃ v w, vs = [v, w] ∧ RelD p.K W d v ∧ RelD p.K W d' w := by
  unfold RelDs at h
  obtain ⟨v, r, rfl, h1, h2⟩ := h
  obtain ⟨w, rfl, h3⟩ := relDs_1 h2
  exact ⟨v, w, rfl, h1, h3⟩
theorem CallR.imp {f : Value} {r r' : List V → Hp → VK → Prop} (h : CallR X f r) (i : ∀ vs H Q, r' vs H Q → r vs H Q) : CallR X f r' := fun pins s σ H xs us Q I rs q => h pins s σ H xs us Q I rs (i xs H Q q)
theorem t_B {f : FB} {as : MA} {σ : L2.St} {H : Hp} {Q : VK} (h : tE p WX (mB1 f as) σ H Q) : tCB (rB p f) (tA p WX as) σ H Q := by
  obtain ⟨W, e, s, re, rp, q⟩ := h
  exact ⟨W, e, s, re, rp, q.bind fun W1 H1 ds vs s1 l fr rp1 rv q1 => ⟨W1, s1, ds, rp1, rv, q1.of⟩⟩
theorem r_B {f : FB} {as : MA} {id : String} {x : Str} {pp pos : Pos} {e : Expr} {es : List Expr} (hc : CallR X (.builtin id) (rB p f)) (hg : Gl X x) (hm : X.mg x = none) (hv : bootBuiltins x = some (.builtin id)) (ha : PA X (e :: es) (tA p WX as)) (hn : x ≠ "__name__") (hdb : (x == ("__debug__" : Str)) = false)
    (he : starEach (e :: es) X.env = (false, eval e X.env) :: starEach es X.env) (hpl : (backTo pos (starEach es X.env)).any (·.1) = false) : PE X (.Call (.Name x pp) (e :: es) [] pos) (tE p WX (mB1 f as)) :=
  PE.imp (pe_callB hc hg hm hv ha hn hdb he hpl) fun _ _ _ h => t_B h
theorem r_Ty {f : FB} {as : MA} {T : String} {x : Str} {pp pos : Pos} {e : Expr} {es : List Expr} (hc : CallR X (.type T) (rB p f)) (hg : Gl X x) (hm : X.mg x = none) (hv : bootBuiltins x = some (.type T)) (ha : PA X (e :: es) (tA p WX as)) (hn : x ≠ "__name__") (hdb : (x == ("__debug__" : Str)) = false)
    (he : starEach (e :: es) X.env = (false, eval e X.env) :: starEach es X.env) (hpl : (backTo pos (starEach es X.env)).any (·.1) = false) : PE X (.Call (.Name x pp) (e :: es) [] pos) (tE p WX (mB1 f as)) :=
  PE.imp (pe_callTy hc hg hm hv ha hn hdb he hpl) fun _ _ _ h => t_B h
theorem b_len (hK : p.K = X.K) : CallR X (.builtin "len") (rB p bLen) := CallR.imp (CallR.or call_len_seq call_len_str) fun vs H Q ⟨W, s, ds, rp, rv, q⟩ => by
  unfold bLen at q
  split at q
  · obtain ⟨v, rfl, h1⟩ := relDs_1 rv
    cases relD_str h1
    split at q
    · rename_i hz
      exact .inr ⟨_, rfl, by rw [sizeLine_eq]; exact hz, q.same rp rel_int⟩
    · exact q.elim
  · obtain ⟨v, rfl, h1⟩ := relDs_1 rv
    split at q
    · rename_i xs hx
      obtain ⟨a, ys, rfl, hs, r⟩ := seq_rd rp hx h1
      exact .inl ⟨a, ys, rfl, hK ▸ hs, by rw [← r.length]; exact q.same rp rel_int⟩
    · exact q.elim
  · exact q.elim
theorem b_int : CallR X (.type "int") (rB p bInt) := CallR.imp call_int1 fun vs H Q ⟨W, s, ds, rp, rv, q⟩ => by
  unfold bInt at q
  split at q
  · obtain ⟨v, rfl, h1⟩ := relDs_1 rv
    cases relD_int h1
    exact .inl ⟨_, rfl, q.same rp rel_int⟩
  · obtain ⟨v, rfl, h1⟩ := relDs_1 rv
    cases relD_bl h1
    exact .inr ⟨_, rfl, q.same rp rel_int⟩
  · exact q.elim
theorem b_abs : CallR X (.builtin "abs") (rB p bAbs) := CallR.imp call_abs fun vs H Q ⟨W, s, ds, rp, rv, q⟩ => by
  unfold bAbs at q
  split at q
  · obtain ⟨v, rfl, h1⟩ := relDs_1 rv
    cases relD_int h1
    exact ⟨_, rfl, q.same rp rel_int⟩
  · exact q.elim
theorem b_max (hc : X.calm = true) : CallR X (.builtin "max") (rB p bMax) := CallR.imp (call_max2 hc) fun vs H Q ⟨W, s, ds, rp, rv, q⟩ => by
  unfold bMax at q
  split at q
  · obtain ⟨v, w, rfl, h1, h2⟩ := relDs_2 rv
    cases relD_int h1
    cases relD_int h2
    exact ⟨_, _, rfl, q.same rp rel_int⟩
  · exact q.elim
theorem b_min (hc : X.calm = true) : CallR X (.builtin "min") (rB p bMin) := CallR.imp (call_min2 hc) fun vs H Q ⟨W, s, ds, rp, rv, q⟩ => by
  unfold bMin at q
  split at q
  · obtain ⟨v, w, rfl, h1, h2⟩ := relDs_2 rv
    cases relD_int h1
    cases relD_int h2
    exact ⟨_, _, rfl, q.same rp rel_int⟩
  · exact q.elim
theorem b_str : CallR X (.type "str") (rB p bStr) := CallR.imp call_str_int fun vs H Q ⟨W, s, ds, rp, rv, q⟩ => by
  unfold bStr at q
  split at q
  · obtain ⟨v, rfl, h1⟩ := relDs_1 rv
    cases relD_int h1
    split at q
    · rename_i hz
      exact ⟨_, rfl, hz, q.same rp rel_str⟩
    · exact q.elim
  · exact q.elim
theorem b_list (hK : p.K = X.K) (m : Bool) : CallR X (.type "list") (rB p (bList m)) := CallR.imp call_list_of fun vs H Q ⟨W, s, ds, rp, rv, q⟩ => by
  unfold bList at q
  split at q
  · obtain ⟨v, rfl, h1⟩ := relDs_1 rv
    split at q
    · rename_i xs hx
      obtain ⟨a, ys, rfl, hs, r⟩ := seq_rd rp hx h1
      exact ⟨a, ys, rfl, hK ▸ hs, fun l n => mkL_ok rp q r n⟩
    · exact q.elim
  · exact q.elim
theorem b_tup (hK : p.K = X.K) : CallR X (.type "tuple") (rB p bTup) := CallR.imp call_tuple_of fun vs H Q ⟨W, s, ds, rp, rv, q⟩ => by
  have key : ∀ {d : Z.D} {v : V} {xs : List Z.D}, lstOf d s = some xs ∨ d = .scr xs → RelD p.K W d v → PostO p (RelD p.K) W H Q (mkT xs s) → ∃ p_1 ys, [v] = [V.ref p_1] ∧ ((SqL X.K H p_1 ys ∧ ∀ l, H l = none → Q (.ref l) (upd H l (.tup ys))) ∨ (SqT X.K H p_1 ys ∧ Q (.ref p_1) H)) := fun {d v xs} hx h1 q => by
    rcases hx with hx | rfl
    · obtain ⟨a, ys, rfl, hs, r⟩ := lst_rd rp hx h1
      exact ⟨a, ys, rfl, .inl ⟨SqL.of hs, fun l n => mkT_ok rp q r n⟩⟩
    · obtain ⟨a, ys, rfl, hs, r⟩ := relD_scr h1
      exact ⟨a, ys, rfl, .inl ⟨hK ▸ seqL_mono rp.fz hs, fun l n => mkT_ok rp q r n⟩⟩
  unfold bTup at q
  split at q
  · obtain ⟨v, rfl, h1⟩ := relDs_1 rv
    obtain ⟨a, ys, rfl, hs, r⟩ := tup_rd rp h1
    exact ⟨a, ys, rfl, .inr ⟨hK ▸ hs, q.same rp h1⟩⟩
  · rename_i d hne
    obtain ⟨v, rfl, h1⟩ := relDs_1 rv
    split at q
    · rename_i xs hx
      cases d with
      | tup ys => exact absurd rfl (hne ys)
      | lst ys => exact key (d := .lst ys) (xs := xs) (.inl hx) h1 q
      | ref n => exact key (d := .ref n) (xs := xs) (.inl hx) h1 q
      | scr ys => cases hx; exact key (.inr rfl) h1 q
      | _ => cases hx
    · exact q.elim
  · exact q.elim
theorem intsOf_rel : ∀ {xs : List Z.D} {ns : List Int} {vs : List V}, intsOf xs = some ns → RelDs p.K W xs vs → vs = ns.map V.int
  | [], ns, vs, h, r => by
    unfold RelDs at r
    cases h
    exact r
  | d :: xs, ns, vs, h, r => by
    unfold RelDs at r
    obtain ⟨v, vr, rfl, h1, h2⟩ := r
    cases d with
    | int i =>
      unfold intsOf at h
      split at h
      · rename_i l hl
        cases h
        rw [intsOf_rel hl h2, relD_int h1]
        rfl
      · cases h
    | _ => cases h
theorem sum_tup (hc : X.calm = true) : CallR X (.builtin "sum") (fun vs H Q => ∃ (a : Addr) (ns : List Int), vs = [V.ref a] ∧ SqT X.K H a (ns.map V.int) ∧ Q (.int ns.sum) H) := by
  intro pins s σ H vs us Q I r h
  obtain ⟨a, ns, rfl, hs, q⟩ := h
  obtain ⟨its, rv, hl, _⟩ := I.tuple hs
  rw [Vals.ref1 r]
  have hi := rv.ints
  obtain ⟨xs, e⟩ := hi.allInts.items
  have hn : numsOf (intItems xs).toList = ns := by rw [← e]; exact hi.numsOf
  rw [nums_intItems] at hn
  have hl' : s.heap.IsTuple a its.toArray := hl
  rw [e] at hl'
  refine PySem.W.ktm_sumG (I.ok.hd hc) hl' fun h' tk t' hk => ?_
  rw [preSum_eq, List.take_of_length_le (by simp), hn]
  exact ⟨.int _, H, I.kept hk, ⟨_, rfl⟩, q⟩
theorem b_sum (hK : p.K = X.K) (hc : X.calm = true) : CallR X (.builtin "sum") (rB p bSum) := CallR.imp (CallR.or (cr_sum hc) (sum_tup hc)) fun vs H Q ⟨W, s, ds, rp, rv, q⟩ => by
  unfold bSum at q
  split at q
  · obtain ⟨v, rfl, h1⟩ := relDs_1 rv
    split at q
    · rename_i xs hx
      split at q
      · rename_i ns hn
        obtain ⟨a, ys, rfl, hs, r⟩ := seq_rd rp hx h1
        have e := intsOf_rel hn r
        subst e
        rcases hs with hs | hs
        · exact .inl ⟨a, ns, rfl, hK ▸ hs, q.same rp rel_int⟩
        · exact .inr ⟨a, ns, rfl, hK ▸ hs, q.same rp rel_int⟩
      · exact q.elim
    · exact q.elim
  · exact q.elim
/-! ### methods of texts and lists -/
/-- what a method makes: by the thing and the arguments -/
abbrev FMt := D → List D → Sto → O1
inductive TyK where | str | list | dict
def TyK.nm : TyK → String
  | .str => "str"
  | .list => "list"
  | .dict => "dict"
def isStr : D → Bool
  | .str _ => true
  | _ => false
def isDct (d : D) (s : Sto) : Bool := match d with
  | .ref n => (match s[n]? with | some (.dct _) => true | _ => false)
  | _ => false
def isTy (T : TyK) (d : D) (s : Sto) : Bool := match T with
  | .str => isStr d
  | .list => (lstOf d s).isSome
  | .dict => isDct d s
def mMt (T : TyK) (f : FMt) (a : ME) (as : MA) : ME := fun e s => (a e s).bind fun d s1 => if isTy T d s1 then (as e s1).bind fun ds s2 => R.of (f d ds s2) else .bad
def rMt (p : Pl) (f : FMt) : V → List V → Hp → VK → Prop := fun x vs H Q => ∃ W s d ds, Rep p W s H ∧ RelD p.K W d x ∧ RelDs p.K W ds vs ∧ PostO p (RelD p.K) W H Q (f d ds s)
theorem isTy_ok {T : TyK} {d : Z.D} {st : Sto} {H : Hp} {v : V} (hK : p.K = X.K) (h : isTy T d st = true) (rp : Rep p W st H) (rv : RelD p.K W d v) : tyV X.K T.nm v H := by
  cases T with
  | str =>
    cases d with
    | str x => cases relD_str rv; rfl
    | _ => cases h
  | list =>
    cases e : lstOf d st with
    | none =>
      have h' : (lstOf d st).isSome = true := h
      rw [e] at h'
      cases h'
    | some xs =>
      obtain ⟨a, vs, rfl, h1, r⟩ := lst_rd rp e rv
      exact .inl ⟨rfl, vs, SqL.of h1⟩
  | dict =>
    cases d with
    | ref n =>
      have h' : (match st[n]? with | some (.dct _) => true | _ => false) = true := h
      split at h'
      · rename_i kvs e
        obtain ⟨a, rfl, hio⟩ := relD_ref rv
        obtain ⟨z, kws, h1, r⟩ := rp.obs n _ a e hio
        exact .inr (.inr (.inl ⟨rfl, .inl ⟨kws, h1⟩⟩))
      · cases h'
    | _ => cases h
theorem t_Mt {T : TyK} {f : FMt} {a : ME} {as : MA} {σ : L2.St} {H : Hp} {Q : VK} (hK : p.K = X.K) (h : tE p WX (mMt T f a as) σ H Q) : tBM X.K T.nm (rMt p f) (tE p WX a) (tA p WX as) σ H Q := by
  obtain ⟨W, e, s, re, rp, q⟩ := h
  refine ⟨W, e, s, re, rp, q.bind fun W1 H1 d v s1 l fr rp1 rv q1 => ?_⟩
  split at q1
  · rename_i ht
    exact ⟨isTy_ok hK ht rp1 rv, W1, e, s1, re.mono l, rp1, q1.bind fun W2 H2 ds vs s2 l2 fr2 rp2 rv2 q2 => ⟨W2, s2, d, ds, rp2, rv.mono l2, rv2, q2.of⟩⟩
  · exact q1.elim
theorem t_Mt0 {T : TyK} {f : FMt} {a : ME} {σ : L2.St} {H : Hp} {Q : VK} (hK : p.K = X.K) (h : tE p WX (mMt T f a aNil) σ H Q) : tBM0 X.K T.nm (rMt p f) (tE p WX a) σ H Q := by
  obtain ⟨W, e, s, re, rp, q⟩ := h
  refine ⟨W, e, s, re, rp, q.bind fun W1 H1 d v s1 l fr rp1 rv q1 => ?_⟩
  split at q1
  · rename_i ht
    exact ⟨isTy_ok hK ht rp1 rv, W1, s1, d, [], rp1, rv, relDs_nil, Post.of (EX := exW p WX σ) q1⟩
  · exact q1.elim
theorem MtR.imp {id : String} {r r' : V → List V → Hp → VK → Prop} (h : MtR X id r) (i : ∀ x vs H Q, r' x vs H Q → r x vs H Q) : MtR X id r' := fun pins s σ H x xs v us Q I rx rs q => h pins s σ H x xs v us Q I rx rs (i x xs H Q q)
theorem r_Mt {T : TyK} {id : String} {name : Str} {f : FMt} {a : ME} {as : MA} {ea e : Expr} {es : List Expr} {apos cpos : Pos} (hK : p.K = X.K) (pa : PlainAttrs T.nm) (slot : Slot T.nm name id) (hty : typeOf (.builtin id) = pure (.type "method_descriptor")) (hm : MtR X id (rMt p f)) (ha : PE X ea (tE p WX a)) (has : PA X (e :: es) (tA p WX as))
    (hbase : attributeBase ea name X.env (eval ea X.env) = eval ea X.env)
    (hfew : ((backTo cpos (starEach (e :: es) X.env)).all (fun x => !x.1) && (backToKw cpos (keywordEach [] X.env)).all (fun x => x.1.isSome) && decide ((e :: es).length + ([] : List Keyword).length + (if ([] : List Keyword).isEmpty then 0 else 1) < 30)) = true)
    (hline : (apos.endLine == cpos.line) = true) (hs : starEach (e :: es) X.env = (false, eval e X.env) :: starEach es X.env) (hplain : (backTo cpos (starEach es X.env)).any (·.1) = false) :
    PE X (.Call (.Attribute ea name apos) (e :: es) [] cpos) (tE p WX (mMt T f a as)) := PE.imp (pe_bm pa slot hty hm ha has hbase hfew hline hs hplain) fun _ _ _ h => t_Mt hK h
theorem r_Mt0 {T : TyK} {id : String} {name : Str} {f : FMt} {a : ME} {ea : Expr} {apos cpos : Pos} (hK : p.K = X.K) (pa : PlainAttrs T.nm) (slot : Slot T.nm name id) (hty : typeOf (.builtin id) = pure (.type "method_descriptor")) (hm : MtR X id (rMt p f)) (ha : PE X ea (tE p WX a))
    (hbase : attributeBase ea name X.env (eval ea X.env) = eval ea X.env) (hline : (apos.endLine == cpos.line) = true) :
    PE X (.Call (.Attribute ea name apos) [] [] cpos) (tE p WX (mMt T f a aNil)) := PE.imp (pe_bm0 pa slot hty hm ha hbase hline) fun _ _ _ h => t_Mt0 hK h
/-- s.index(t), when it is there -/
def mtIndex : FMt := fun x ys s => match x, ys with
  | .str a, [.str b] => (match Txt.index0 a b with | some k => some (.int (k : Nat), s) | none => none)
  | _, _ => none
theorem mt_indexS (hc : X.calm = true) : MtR X "str.index" (rMt p mtIndex) := fun pins s σ H x xs v us Q I rx rs ⟨W, st, d, ds, rp, rd, rds, q⟩ => by
  refine mt_indexX hc (LamX.takes0 (X := X)) pins s σ H x xs v us Q I rx rs ?_
  unfold mtIndex at q
  split at q
  · cases relD_str rd
    obtain ⟨w, rfl, h1⟩ := relDs_1 rds
    cases relD_str h1
    split at q
    · rename_i k hk
      refine ⟨_, _, rfl, rfl, fun k' hk' => ?_, fun hn => ?_⟩
      · rw [hk] at hk'
        cases hk'
        exact q.same rp rel_int
      · rw [hk] at hn
        cases hn
    · exact q.elim
  · exact q.elim
end
end Z

set_option Elab.async false
set_option linter.all false
set_option maxRecDepth 100000
/-! Z11: list comprehensions. -/
namespace Z
open PySem PySem.Spec PyProof.Rows L2
/-- no exception leaves -/
def R.nx {α : Type} : R α → R α
  | .ok a s => .ok a s
  | .exc _ _ => .bad
  | .bad => .bad
def wipeE (e : Env) : List Nat → Env
  | [] => e
  | v :: vs => (wipeE e vs).set v none
/-- a turn: k goes on behind it, with what the turn gave -/
def lcT (t : Tg) (c : MB) (el : ME) (d : D) (e : Env) (s : Sto) (k : Sto → R (List D)) : R (List D) := match t d e s with
  | some (e1, s1) => (c e1 s1).nx.bind fun b s2 => if b then (el e1 s2).nx.bind fun v s3 => (k s3).bind fun r s4 => .ok (v :: r) s4 else k s2
  | none => .bad
def lcF (t : Tg) (c : MB) (el : ME) : List D → Env → Sto → R (List D)
  | [], _, s => .ok [] s
  | d :: ds, e, s => lcT t c el d e s (lcF t c el ds e)
def lcI (src : Src) (t : Tg) (c : MB) (el : ME) : Nat → Nat → Env → Sto → R (List D)
  | 0, _, _, _ => .bad
  | n + 1, i, e, s => match src.at i s with
    | some none => .ok [] s
    | some (some d) => lcT t c el d e s (lcI src t c el n (i + 1) e)
    | none => .bad
def lcS (t : Tg) (c : MB) (el : ME) (src : Src) (e : Env) (s : Sto) : R (List D) := match src with
  | .fix xs => if xs.length ≤ line then lcF t c el xs e s else .bad
  | src => lcI src t c el line 0 e s
def bYes : MB := fun _ s => .ok true s
def mLc (m : Bool) (vs : List Nat) (t : Tg) (w : MW) (c : MB) (el : ME) : ME := fun e s => (w e s).bind fun src s1 => (lcS t c el src (wipeE e vs) s1).bind fun r s2 => R.of (mkL m r s2)
section
variable {X : Cx} {p : Pl} {WX : L2.WX} {W W' : Wd} {H H' : Hp} {s : Sto}
theorem wipeE_len (e : Env) : ∀ vs, (wipeE e vs).length = e.length
  | [] => rfl
  | v :: vs => by unfold wipeE; rw [List.length_set, wipeE_len e vs]
theorem relE_wipe {e : Env} {σ : L2.St} (h : RelE p W e σ) : ∀ vs, RelE p W (wipeE e vs) (wipe σ vs)
  | [] => h
  | v :: vs => by
    have q := relE_wipe h vs
    unfold wipeE wipe
    refine ⟨by rw [List.length_set, List.length_set, q.len], fun i d hd => ?_, q.lf⟩
    by_cases hv : i = v
    · subst hv
      rw [List.getElem?_set] at hd
      simp only [if_true] at hd
      split at hd <;> cases hd
    · rw [List.getElem?_set_ne (Ne.symm hv)] at hd ⊢
      exact q.at_ i d hd
theorem wipe_set {σ : L2.St} {i : Nat} {v : Option V} : ∀ {vs : List Nat}, i ∈ vs → wipe (σ.set i v) vs = wipe σ vs
  | [], h => by cases h
  | u :: vs, h => by
    unfold wipe
    by_cases hi : i ∈ vs
    · rw [wipe_set hi]
    · rcases List.mem_cons.mp h with e | e
      · subst e
        have key : ∀ (l : List Nat), i ∉ l → wipe (σ.set i v) l = (wipe σ l).set i v := fun l => by
          induction l with
          | nil => intro _; rfl
          | cons a l ih =>
            intro hn
            unfold wipe
            rw [ih (fun z => hn (List.mem_cons_of_mem _ z)), List.set_comm]
            intro z
            exact hn (by rw [z]; exact List.mem_cons_self ..)
        rw [key vs hi, List.set_set]
      · exact absurd e hi
theorem wipe_get {σ : L2.St} {i : Nat} : ∀ {vs : List Nat}, i ∈ vs → (wipe σ vs)[i]? = none ∨ (wipe σ vs)[i]? = some none
  | [], h => by cases h
  | u :: vs, h => by
    unfold wipe
    by_cases hu : u = i
    · subst hu
      rw [List.getElem?_set]
      simp only [if_true]
      split
      · exact .inr rfl
      · exact .inl rfl
    · rw [List.getElem?_set_ne hu]
      rcases List.mem_cons.mp h with e | e
      · exact absurd e.symm hu
      · exact wipe_get e
theorem wipe_wipe {σ : L2.St} (vs : List Nat) : wipe (wipe σ vs) vs = wipe σ vs := by
  have key : ∀ l : List Nat, (∀ i ∈ l, i ∈ vs) → wipe (wipe σ vs) l = wipe σ vs := fun l => by
    induction l with
    | nil => intro _; rfl
    | cons a l ih =>
      intro h
      show (wipe (wipe σ vs) l).set a none = wipe σ vs
      rw [ih fun i hi => h i (List.mem_cons_of_mem _ hi)]
      refine List.ext_getElem? fun j => ?_
      by_cases hj : a = j
      · subst hj
        rw [List.getElem?_set]
        simp only [if_true]
        rcases wipe_get (σ := σ) (h a (List.mem_cons_self ..)) with z | z
        · rw [z]
          rw [List.getElem?_eq_none_iff] at z
          rw [if_neg (by omega)]
        · rw [z]
          rw [if_pos (List.getElem?_eq_some_iff.mp z).1]
      · rw [List.getElem?_set_ne hj]
  exact key vs fun _ h => h
/-! ### targets that stay within the block's own names -/
def gTw (p : Pl) (vs : List Nat) (t : Tg) : TG := fun v σ H Q => ∃ W e s d, RelE p W e σ ∧ Rep p W s H ∧ RelD p.K W d v ∧ PostT p W H (fun σ' H' => wipe σ' vs = wipe σ vs → Q σ' H') (t d e s)
def gTws (p : Pl) (vs : List Nat) (ts : List Tg) : TGs := fun us σ H Q => ∃ W e s ds, RelE p W e σ ∧ Rep p W s H ∧ RelDs p.K W ds us ∧ PostT p W H (fun σ' H' => wipe σ' vs = wipe σ vs → Q σ' H') (tAll ts ds e s)
theorem r_wName {vs : List Nat} {i : Nat} {x : Str} {pos : Pos} (hN : X.N.Nodup) (hi : X.N[i]? = some x) (hx : Loc X.env.scope x) (hf : X.fn x = true ∨ X.env.scope.names.lookup x = some .local) (hv : i ∈ vs) : PG X (.Name x pos) (gTw p vs (tName i)) :=
  PG.imp (pg_name hN hi hx hf) fun v σ H Q ⟨W, e, s, d, re, rp, rv, q⟩ => q.nx rp (re.set i rv) (wipe_set hv)
theorem r_wNil {vs : List Nat} : PGs X [] (gTws p vs []) := PGs.imp pgs_nil fun us σ H Q ⟨W, e, s, ds, re, rp, rv, q⟩ => by
  cases ds with
  | nil => unfold RelDs at rv; exact ⟨rv, PostT.nx q rp re rfl⟩
  | cons d r => exact q.elim
theorem PostT.impQ {Q Q' : L2.St → Hp → Prop} {o : Option (Env × Sto)} (q : PostT p W H Q o) (h : ∀ σ H, Q σ H → Q' σ H) : PostT p W H Q' o := by
  cases o with
  | none => exact q
  | some x => obtain ⟨e, s⟩ := x; exact fun W2 H2 v l2 f2 r2 re2 => h _ _ (q W2 H2 v l2 f2 r2 re2)
theorem r_wCons {vs : List Nat} {t : Tg} {ts : List Tg} {ex : Expr} {es : List Expr} (h1 : PG X ex (gTw p vs t)) (h2 : PGs X es (gTws p vs ts)) (hs : (assignEach (ex :: es) X.env).map (·.2) = assign ex X.env :: (assignEach es X.env).map (·.2)) : PGs X (ex :: es) (gTws p vs (t :: ts)) :=
  PGs.imp (pgs_cons h1 h2 hs) fun us σ H Q ⟨W, e, s, ds, re, rp, rv, q⟩ => by
    cases ds with
    | nil => exact q.elim
    | cons d r =>
      unfold RelDs at rv
      obtain ⟨v, vr, rfl, a, b⟩ := rv
      refine ⟨v, vr, rfl, W, e, s, d, re, rp, a, ?_⟩
      have q2 : PostT p W H (fun σ' H' => wipe σ' vs = wipe σ vs → Q σ' H') (match t d e s with | some (e1, s1) => tAll ts r e1 s1 | none => none) := q
      cases h : t d e s with
      | none => rw [h] at q2; exact q2
      | some x =>
        obtain ⟨e1, s1⟩ := x
        rw [h] at q2
        exact fun W' H' σ' l f rp' re' hw => ⟨W', e1, s1, r, re', rp', b.mono l, PostT.impQ (PostT.re l f q2) fun σ2 H2 hq hw2 => hq (hw2.trans hw)⟩
theorem r_wTup {vs : List Nat} {ts : List Tg} {es : List Expr} {k : Nat} {pos : Pos} (hK : p.K = X.K) (hc : X.calm = true) (h : PGs X es (gTws p vs ts)) (hn : (assignEach es X.env).length = ts.length) (hst : (assignEach es X.env).findIdx? (·.1) = none) : PG X (.Tuple es k pos) (gTw p vs (tTup ts)) :=
  PG.imp (pg_tup hc h hn hst) fun v σ H Q ⟨W, e, s, d, re, rp, rv, q⟩ => by
    cases d with
    | tup xs =>
      obtain ⟨a, us, rfl, h1, q1⟩ := tup_rd rp rv
      have q2 : PostT p W H (fun σ' H' => wipe σ' vs = wipe σ vs → Q σ' H') (tAll ts xs e s) := q
      have hl : xs.length = ts.length := by
        cases hh : tAll ts xs e s with
        | none => rw [hh] at q2; exact q2.elim
        | some x => exact tAll_len hh
      exact ⟨a, us, rfl, hK ▸ h1, by rw [← q1.length, hl], W, e, s, xs, re, rp, q1, q2⟩
    | _ => exact q.elim
/-! ### a list of the heap that is not yet known -/
/-- D is neither the store's nor known -/
structure Un0 (W : Wd) (D : Addr) : Prop where
  io : D ∉ W.io
  fz : W.fz D = none
theorem Un0.keep {D : Addr} {o : HO} (u : Un0 W D) (h : H D = some o) (hs : isSt o = true) (f : Fr W W' H H') : Un0 W' D ∧ H' D = some o := by
  refine ⟨⟨fun z => ?_, ?_⟩, f.keep D o h u.io (by rintro ps rfl; cases hs)⟩
  · rcases f.io D z with e | e
    · exact u.io e
    · rw [h] at e; cases e
  · cases e : W'.fz D with
    | none => rfl
    | some o' =>
      rcases f.new D (by rw [e]; simp) with z | z | z | ⟨o2, z, z2⟩
      · exact absurd u.fz z
      · rw [h] at z; cases z
      · exact absurd z u.io
      · rw [h] at z
        cases z
        rw [hs] at z2
        cases z2
theorem Un0.fresh {D : Addr} (rp : Rep p W s H) (h : H D = none) : Un0 W D := by
  refine ⟨fun z => rp.tr D z h, ?_⟩
  cases e : W.fz D with
  | none => rfl
  | some o => rw [rp.fz D o e] at h; cases h
theorem Rep.other {D : Addr} {o u : HO} (rp : Rep p W s H) (n : Un0 W D) (h : H D = some u) (hs : isSt u = true) : Rep p W s (upd H D o) := by
  refine ⟨rp.tab.put h hs, fun b x e => ?_, rp.nt, rp.len, rp.nd, fun b hb => ?_, fun k ob b e1 e2 => ?_⟩
  · have hb : b ≠ D := fun z => by rw [z, n.fz] at e; cases e
    rw [upd_ne hb]; exact rp.fz b x e
  · have hb2 : b ≠ D := fun z => n.io (z ▸ hb)
    rw [upd_ne hb2]; exact rp.tr b hb
  · have hb : b ≠ D := fun z => n.io (z ▸ List.mem_of_getElem? e2)
    exact (rp.obs k ob b e1 e2).keep (Wd.le.refl W) (upd_ne hb) (fun z => z)
theorem Rep.new0 {D : Addr} {o : HO} (rp : Rep p W s H) (n : H D = none) : Rep p W s (upd H D o) := by
  have ne : ∀ b x, H b = some x → b ≠ D := fun b x e => ne_of_none e n
  refine ⟨rp.tab.ext fun b x e => by rw [upd_ne (ne b x e)]; exact e, fun b x e => by rw [upd_ne (ne b x (rp.fz b x e))]; exact rp.fz b x e, rp.nt, rp.len, rp.nd, fun b hb => ?_, fun k ob b e1 e2 => ?_⟩
  · have hb2 : b ≠ D := fun z => rp.tr b hb (z ▸ n)
    rw [upd_ne hb2]; exact rp.tr b hb
  · have hb : b ≠ D := fun z => rp.tr b (List.mem_of_getElem? e2) (z ▸ n)
    exact (rp.obs k ob b e1 e2).keep (Wd.le.refl W) (upd_ne hb) (fun z => z)
theorem Fr.other {D : Addr} {o : HO} (f : Fr W W' H H') (n : H D = none) : Fr W W' H (upd H' D o) := by
  refine ⟨fun b x e hb ht => ?_, fun b hb => ?_, f.new, f.io⟩
  · rw [upd_ne (ne_of_none e n)]; exact f.keep b x e hb ht
  · by_cases z : b = D
    · rw [z, upd_same]; simp
    · rw [upd_ne z]; exact f.sm b hb
/-- the list at D becomes known -/
theorem adopt {m : Bool} {ds : List Z.D} {acc : List V} {D : Addr} {H0 : Hp} {W0 : Wd} {Q : VK} {EX : Nat → Hp → Prop} (rp : Rep p W s H) (n : Un0 W D) (h : H D = some (.lst acc)) (rv : RelDs p.K W ds acc) (l : W0.le W) (f : Fr W0 W H0 H) (n0 : H0 D = none)
    (q : Post p (RelD p.K) W0 H0 EX Q (R.of (mkL m ds s))) : Q (.ref D) H := by
  unfold mkL at q
  split at q
  · cases m with
    | false =>
      have le : W.le ⟨upd W.fz D (.lst acc), W.io, W.lf⟩ := ⟨fun b x e => by
        show upd W.fz D (.lst acc) b = some x
        rw [upd_ne (ne_of_none e n.fz)]; exact e, ⟨[], by simp⟩, rfl⟩
      refine q ⟨upd W.fz D (.lst acc), W.io, W.lf⟩ H (.ref D) (l.trans le) ⟨f.keep, f.sm, fun a ha => ?_, f.io⟩ ⟨rp.tab, fun b x e => ?_, fun b ps e => ?_, rp.len, rp.nd, rp.tr, fun k ob b e1 e2 => ?_⟩ (rel_lst upd_same (rv.mono le))
      · by_cases z : a = D
        · rw [z]; exact .inr (.inl n0)
        · have ha' : upd W.fz D (.lst acc) a ≠ none := ha
          rw [upd_ne z] at ha'
          exact f.new a ha'
      · have e' : upd W.fz D (.lst acc) b = some x := e
        by_cases z : b = D
        · rw [z, upd_same] at e'
          cases e'
          rw [z]; exact h
        · rw [upd_ne z] at e'; exact rp.fz b x e'
      · have e' : upd W.fz D (.lst acc) b = some (.tbl ps) := e
        by_cases z : b = D
        · rw [z, upd_same] at e'; cases e'
        · rw [upd_ne z] at e'; exact rp.nt b ps e'
      · have hb : b ≠ D := fun z => n.io (z ▸ List.mem_of_getElem? e2)
        exact (rp.obs k ob b e1 e2).keep le rfl (fun hz => by
          show upd W.fz D (.lst acc) b = none
          rw [upd_ne hb]; exact hz)
    | true =>
      have le : W.le ⟨W.fz, W.io ++ [D], W.lf⟩ := ⟨fun _ _ e => e, ⟨[D], rfl⟩, rfl⟩
      have hat : (W.io ++ [D])[s.length]? = some D := by rw [List.getElem?_append_right (by rw [rp.len]; exact Nat.le_refl _), rp.len, Nat.sub_self]; rfl
      refine q ⟨W.fz, W.io ++ [D], W.lf⟩ H (.ref D) (l.trans le) ⟨f.keep, f.sm, f.new, fun a ha => ?_⟩ ⟨rp.tab, rp.fz, rp.nt, ?_, ?_, fun b hb => ?_, fun k ob b e1 e2 => ?_⟩ (rel_ref hat)
      · rcases List.mem_append.mp ha with z | z
        · exact f.io a z
        · rw [List.mem_singleton.mp z]; exact .inr n0
      · show (W.io ++ [D]).length = (s ++ [Ob.lst ds]).length
        rw [List.length_append, List.length_append, rp.len]; rfl
      · show (W.io ++ [D]).Nodup
        exact List.nodup_append.mpr ⟨rp.nd, by simp, fun x hx y hy => by rw [List.mem_singleton.mp hy]; rintro rfl; exact n.io hx⟩
      · rcases List.mem_append.mp hb with z | z
        · exact rp.tr b z
        · rw [List.mem_singleton.mp z, h]; simp
      · have e2' : (W.io ++ [D])[k]? = some b := e2
        by_cases hk : k < s.length
        · rw [List.getElem?_append_left hk] at e1
          rw [List.getElem?_append_left (by rw [rp.len]; exact hk)] at e2'
          exact (rp.obs k ob b e1 e2').keep le rfl (fun z => z)
        · have hk2 : k = s.length := by
            have h1 := (List.getElem?_eq_some_iff.mp e1).1
            rw [List.length_append] at h1
            simp only [List.length_singleton] at h1
            omega
          subst hk2
          rw [List.getElem?_append_right (Nat.le_refl _), Nat.sub_self] at e1
          rw [hat] at e2'
          simp only [List.getElem?_cons_zero, Option.some.injEq] at e1 e2'
          subst e1
          subst e2'
          exact ⟨n.fz, acc, h, rv.mono le⟩
  · exact q.elim
end
end Z

set_option Elab.async false
set_option linter.all false
set_option maxRecDepth 100000
/-! Z11b: the rule of list comprehensions. -/
namespace Z
open PySem PySem.Spec PyProof.Rows L2
abbrev W0x : L2.WX := fun _ _ _ _ => False
section
variable {X : Cx} {p : Pl} {WX : L2.WX} {W W' : Wd} {H H' : Hp} {s : Sto}
theorem Post.unx {α β : Type} {Rl : Wd → α → β → Prop} {EX EX' : Nat → Hp → Prop} {Q : β → Hp → Prop} {r : R α} (h : Post p Rl W H EX Q (R.nx r)) : Post p Rl W H EX' Q r := by
  cases r with
  | ok a s => exact h
  | exc c s => exact h.elim
  | bad => exact h.elim
/-- behind an evaluation, from a later state -/
theorem Post.re {α β : Type} {Rl : Wd → α → β → Prop} {EX : Nat → Hp → Prop} {Q : β → Hp → Prop} {x : R α} (l : W.le W') (fr : Fr W W' H H') (q : Post p Rl W H EX Q x) : Post p Rl W' H' EX Q x := by
  cases x with
  | ok d s => exact fun W2 H2 v l2 f2 r2 rv => q W2 H2 v (l.trans l2) (fr.trans f2) r2 rv
  | exc c s => exact fun W2 H2 l2 f2 r2 => q W2 H2 (l.trans l2) (fr.trans f2) r2
  | bad => exact q
/-- the turns of a comprehension, from (W0, H0): K tells what is wanted of all that came -/
structure LcAt (p : Pl) (W0 : Wd) (H0 : Hp) (D : Addr) (WX : Nat → Hp → Prop) (Q : VK) (m : Bool) (σ : L2.St) (e : Env) (rest : Sto → R (List Z.D)) (H : Hp) : Prop where
  ex : ∃ W s acc ds, W0.le W ∧ Fr W0 W H0 H ∧ RelE p W e σ ∧ Rep p W s H ∧ Un0 W D ∧ H D = some (.lst acc) ∧ RelDs p.K W ds acc ∧ Post p (RelD p.K) W0 H0 WX Q ((rest s).bind fun r s2 => R.of (mkL m (ds ++ r) s2))
theorem lcT_ok {vs : List Nat} {t : Tg} {c : MB} {el : ME} {d : Z.D} {v : V} {m : Bool} {D : Addr} {e : Env} {σ : L2.St} {k : Sto → R (List Z.D)} {W0 : Wd} {H0 H1 : Hp} {W1 : Wd} {EX : Nat → Hp → Prop} {Q : VK} {acc : List V} {ds : List Z.D} {st : Sto} {Nx : Hp → Prop}
    (n0 : H0 D = none) (l : W0.le W) (f : Fr W0 W H0 H) (re : RelE p W e (wipe σ vs)) (rp : Rep p W st H) (un : Un0 W D) (hD : H D = some (.lst acc)) (rds : RelDs p.K W ds acc) (rv : RelD p.K W d v) (hz : acc.length < line)
    (q : Post p (RelD p.K) W0 H0 EX Q ((lcT t c el d e st k).bind fun r s2 => R.of (mkL m (ds ++ r) s2)))
    (hNx : ∀ H' ds', ds'.length ≤ ds.length + 1 → (∃ W s acc, W0.le W ∧ Fr W0 W H0 H' ∧ RelE p W e (wipe σ vs) ∧ Rep p W s H' ∧ Un0 W D ∧ H' D = some (.lst acc) ∧ RelDs p.K W ds' acc ∧ Post p (RelD p.K) W0 H0 EX Q ((k s).bind fun r s2 => R.of (mkL m (ds' ++ r) s2))) → Nx H') :
    gTw p vs t v (wipe σ vs) H fun σ2 H2 => wipe σ2 vs = wipe σ vs ∧ tB p W0x c σ2 H2 fun b H3 => if b = true then tE p W0x el σ2 H3 fun y H4 => ∃ acc, H4 D = some (.lst acc) ∧ acc.length < sizeLine ∧ Nx (upd H4 D (.lst (acc ++ [y]))) else Nx H3 := by
  refine ⟨W, e, st, d, re, rp, rv, ?_⟩
  unfold lcT at q
  cases h : t d e st with
  | none => rw [h] at q; exact q.elim
  | some x =>
    obtain ⟨e1, s1⟩ := x
    rw [h] at q
    intro W1 H1 σ1 l1 f1 rp1 re1 hw
    refine ⟨hw.trans (wipe_wipe vs), W1, e1, s1, re1, rp1, ?_⟩
    obtain ⟨un1, hD1⟩ := un.keep hD rfl f1
    have q1 : Post p (RelD p.K) W0 H0 EX Q (((c e1 s1).nx.bind fun b s2 => if b then (el e1 s2).nx.bind fun v s3 => (k s3).bind fun r s4 => .ok (v :: r) s4 else k s2).bind fun r s2 => R.of (mkL m (ds ++ r) s2)) := q
    cases hc : c e1 s1 with
    | bad => rw [hc] at q1; exact q1.elim
    | exc i s2 => rw [hc] at q1; exact q1.elim
    | ok b s2 =>
      rw [hc] at q1
      intro W2 H2 v2 l2 f2 rp2 rv2
      subst rv2
      obtain ⟨un2, hD2⟩ := un1.keep hD1 rfl f2
      cases v2 with
      | false =>
        rw [if_neg Bool.false_ne_true]
        exact hNx H2 ds (by omega) ⟨W2, s2, acc, (l.trans l1).trans l2, (f.trans f1).trans f2, (re.mono l1).mono l2, rp2, un2, hD2, (rds.mono l1).mono l2, q1⟩
      | true =>
        rw [if_pos rfl]
        refine ⟨W2, e1, s2, re1.mono l2, rp2, ?_⟩
        have q2 : Post p (RelD p.K) W0 H0 EX Q (((el e1 s2).nx.bind fun v s3 => (k s3).bind fun r s4 => .ok (v :: r) s4).bind fun r s2 => R.of (mkL m (ds ++ r) s2)) := q1
        cases he : el e1 s2 with
        | bad => rw [he] at q2; exact q2.elim
        | exc i s3 => rw [he] at q2; exact q2.elim
        | ok y s3 =>
          rw [he] at q2
          intro W3 H3 v3 l3 f3 rp3 rv3
          obtain ⟨un3, hD3⟩ := un2.keep hD2 rfl f3
          have ll := ((l.trans l1).trans l2).trans l3
          refine ⟨acc, hD3, by rw [sizeLine_eq]; exact hz, hNx _ (ds ++ [y]) (by rw [List.length_append]; simp) ⟨W3, s3, acc ++ [v3], ll, (((f.trans f1).trans f2).trans f3).other n0, (((re.mono l1).mono l2).mono l3), rp3.other un3 hD3 rfl, un3, upd_same, (((rds.mono l1).mono l2).mono l3).append (relDs_cons rv3 relDs_nil), ?_⟩⟩
          have q3 : Post p (RelD p.K) W0 H0 EX Q (((k s3).bind fun r s4 => (.ok (y :: r) s4 : R (List Z.D))).bind fun r s2 => R.of (mkL m (ds ++ r) s2)) := q2
          cases hk : k s3 with
          | bad => rw [hk] at q3; exact q3
          | exc i s4 => rw [hk] at q3; exact q3
          | ok r s4 =>
            rw [hk] at q3
            have q4 : Post p (RelD p.K) W0 H0 EX Q (R.of (mkL m (ds ++ (y :: r)) s4)) := q3
            show Post p (RelD p.K) W0 H0 EX Q (R.of (mkL m ((ds ++ [y]) ++ r) s4))
            rw [List.append_assoc]
            exact q4
theorem t_lc {m : Bool} {vs : List Nat} {t : Tg} {w : MW} {c : MB} {el : ME} {tt : TT} (htt : ∀ σ H Q, tB p W0x c σ H Q → tt σ H Q) {σ : L2.St} {H : Hp} {Q : VK} (h : tE p WX (mLc m vs t w c el) σ H Q) : tLc (tI p WX w) (gTw p vs t) tt (tE p W0x el) vs σ H Q := by
  obtain ⟨W, e, s, re, rp, q⟩ := h
  refine ⟨W, e, s, re, rp, q.bind fun W1 H1 src J s1 l fr rp1 so q1 => fun D hD => ?_⟩
  have re1 := relE_wipe (re.mono l) vs
  have start : ∀ {rest : Sto → R (List Z.D)}, Post p (RelD p.K) W1 H1 (exW p WX σ) Q ((rest s1).bind fun r s2 => R.of (mkL m r s2)) →
      ∃ W' s' acc, W1.le W' ∧ Fr W1 W' H1 (upd H1 D (.lst [])) ∧ RelE p W' (wipeE e vs) (wipe σ vs) ∧ Rep p W' s' (upd H1 D (.lst [])) ∧ Un0 W' D ∧ upd H1 D (.lst []) D = some (.lst acc) ∧ RelDs p.K W' [] acc ∧ Post p (RelD p.K) W1 H1 (exW p WX σ) Q ((rest s').bind fun r s2 => R.of (mkL m ([] ++ r) s2)) := fun {rest} q =>
    ⟨W1, s1, [], Wd.le.refl W1, (Fr.refl W1 H1).other hD, re1, rp1.new0 hD, Un0.fresh rp1 hD, upd_same, relDs_nil, q⟩
  have any : ∀ (n : Nat), n ≤ line → Post p (RelD p.K) W1 H1 (exW p WX σ) Q ((lcI src t c el n 0 (wipeE e vs) s1).bind fun r s2 => R.of (mkL m r s2)) → ∃ Wt : Nat → Nat → Hp → Prop, (∃ m, Wt 0 m (upd H1 D (.lst []))) ∧ ∀ i m H, Wt i m H →
      (J.stop i H ∧ Q (.ref D) H) ∨ (J.go i H ∧ ∃ Nx : Hp → Prop, (∀ H', Nx H' → ∃ m', m' < m ∧ Wt (i + 1) m' H') ∧ ∀ x H', J.yld i H x H' → gTw p vs t x (wipe σ vs) H' fun σ2 H2 => wipe σ2 vs = wipe σ vs ∧ tt σ2 H2 fun b H3 =>
        if b = true then tE p W0x el σ2 H3 fun y H4 => ∃ acc, H4 D = some (.lst acc) ∧ acc.length < sizeLine ∧ Nx (upd H4 D (.lst (acc ++ [y]))) else Nx H3) := fun n hn q2 => by
    refine ⟨fun i mm H => mm + i ≤ line ∧ ∃ ds, ds.length ≤ i ∧ ∃ W' s' acc, W1.le W' ∧ Fr W1 W' H1 H ∧ RelE p W' (wipeE e vs) (wipe σ vs) ∧ Rep p W' s' H ∧ Un0 W' D ∧ H D = some (.lst acc) ∧ RelDs p.K W' ds acc ∧ Post p (RelD p.K) W1 H1 (exW p WX σ) Q ((lcI src t c el mm i (wipeE e vs) s').bind fun r s2 => R.of (mkL m (ds ++ r) s2)),
      ⟨n, hn, [], Nat.le_refl _, start (rest := lcI src t c el n 0 (wipeE e vs)) q2⟩, ?_⟩
    rintro i mm H ⟨hm, ds, hds, W', s', acc, l', fr', re', rp', un, hH, rds, q3⟩
    cases mm with
    | zero => exact q3.elim
    | succ mm =>
      unfold lcI at q3
      have so' := so i W' s' H l' rp'
      cases ha : src.at i s' with
      | none => rw [ha] at q3; exact q3.elim
      | some o =>
        rw [ha] at q3 so'
        cases o with
        | none =>
          refine .inl ⟨so', adopt (EX := exW p WX σ) rp' un hH rds l' fr' hD (m := m) ?_⟩
          have q4 : Post p (RelD p.K) W1 H1 (exW p WX σ) Q (R.of (mkL m (ds ++ []) s')) := q3
          rw [List.append_nil] at q4
          exact q4
        | some d =>
          obtain ⟨go, yl⟩ := so'
          refine .inr ⟨go, fun H => ∃ ds, ds.length ≤ i + 1 ∧ ∃ W' s' acc, W1.le W' ∧ Fr W1 W' H1 H ∧ RelE p W' (wipeE e vs) (wipe σ vs) ∧ Rep p W' s' H ∧ Un0 W' D ∧ H D = some (.lst acc) ∧ RelDs p.K W' ds acc ∧ Post p (RelD p.K) W1 H1 (exW p WX σ) Q ((lcI src t c el mm (i + 1) (wipeE e vs) s').bind fun r s2 => R.of (mkL m (ds ++ r) s2)),
            fun H' h' => ⟨mm, Nat.lt_succ_self mm, by omega, h'⟩, fun x H2 y => ?_⟩
          obtain ⟨W2, l2, f2, rp2, rv2⟩ := yl x H2 y
          obtain ⟨un2, hH2⟩ := un.keep hH rfl f2
          have g := lcT_ok (W0 := W1) (H0 := H1) (σ := σ) (Nx := fun H => ∃ ds, ds.length ≤ i + 1 ∧ ∃ W' s' acc, W1.le W' ∧ Fr W1 W' H1 H ∧ RelE p W' (wipeE e vs) (wipe σ vs) ∧ Rep p W' s' H ∧ Un0 W' D ∧ H D = some (.lst acc) ∧ RelDs p.K W' ds acc ∧ Post p (RelD p.K) W1 H1 (exW p WX σ) Q ((lcI src t c el mm (i + 1) (wipeE e vs) s').bind fun r s2 => R.of (mkL m (ds ++ r) s2)))
            (W1 := W1) (H1 := H1) hD (l'.trans l2) (fr'.trans f2) (re'.mono l2) rp2 un2 hH2 (rds.mono l2) rv2 (by rw [← rds.length]; omega) q3 fun H' ds' hl h => ⟨ds', by omega, h⟩
          obtain ⟨Wa, ea, sa, da, g1, g2, g3, g4⟩ := g
          exact ⟨Wa, ea, sa, da, g1, g2, g3, PostT.impQ g4 fun σ2 H2 h hw => ⟨(h hw).1, htt _ _ _ (h hw).2⟩⟩
  have q2 : Post p (RelD p.K) W1 H1 (exW p WX σ) Q ((lcS t c el src (wipeE e vs) s1).bind fun r s2 => R.of (mkL m r s2)) := q1
  cases src with
  | liv n => exact any line (Nat.le_refl _) q2
  | enu a => exact any line (Nat.le_refl _) q2
  | zip a b => exact any line (Nat.le_refl _) q2
  | fix xs =>
    unfold lcS at q2
    have q3 : Post p (RelD p.K) W1 H1 (exW p WX σ) Q ((if xs.length ≤ line then lcF t c el xs (wipeE e vs) s1 else .bad).bind fun r s2 => R.of (mkL m r s2)) := q2
    by_cases hz : xs.length ≤ line
    · rw [if_pos hz] at q3
      refine ⟨fun i mm H => mm = xs.length - i ∧ i ≤ xs.length ∧ ∃ ds, ds.length ≤ i ∧ ∃ W' s' acc, W1.le W' ∧ Fr W1 W' H1 H ∧ RelE p W' (wipeE e vs) (wipe σ vs) ∧ Rep p W' s' H ∧ Un0 W' D ∧ H D = some (.lst acc) ∧ RelDs p.K W' ds acc ∧ Post p (RelD p.K) W1 H1 (exW p WX σ) Q ((lcF t c el (xs.drop i) (wipeE e vs) s').bind fun r s2 => R.of (mkL m (ds ++ r) s2)),
        ⟨_, rfl, Nat.zero_le _, [], Nat.le_refl _, start (rest := lcF t c el xs (wipeE e vs)) q3⟩, ?_⟩
      rintro i mm H ⟨hm, hi2, ds, hds, W', s', acc, l', fr', re', rp', un, hH, rds, q4⟩
      have so' := so i W' s' H l' rp'
      by_cases hl : i < xs.length
      · have e1 : (Src.fix xs).at i s' = some (some xs[i]) := by
          show some xs[i]? = _
          rw [List.getElem?_eq_getElem hl]
        rw [e1] at so'
        obtain ⟨go, yl⟩ := so'
        rw [List.drop_eq_getElem_cons hl] at q4
        refine .inr ⟨go, fun H => ∃ ds, ds.length ≤ i + 1 ∧ ∃ W' s' acc, W1.le W' ∧ Fr W1 W' H1 H ∧ RelE p W' (wipeE e vs) (wipe σ vs) ∧ Rep p W' s' H ∧ Un0 W' D ∧ H D = some (.lst acc) ∧ RelDs p.K W' ds acc ∧ Post p (RelD p.K) W1 H1 (exW p WX σ) Q ((lcF t c el (xs.drop (i + 1)) (wipeE e vs) s').bind fun r s2 => R.of (mkL m (ds ++ r) s2)),
          fun H' h' => ⟨xs.length - (i + 1), by omega, rfl, by omega, h'⟩, fun x H2 y => ?_⟩
        obtain ⟨W2, l2, f2, rp2, rv2⟩ := yl x H2 y
        obtain ⟨un2, hH2⟩ := un.keep hH rfl f2
        have g := lcT_ok (W0 := W1) (H0 := H1) (σ := σ) (Nx := fun H => ∃ ds, ds.length ≤ i + 1 ∧ ∃ W' s' acc, W1.le W' ∧ Fr W1 W' H1 H ∧ RelE p W' (wipeE e vs) (wipe σ vs) ∧ Rep p W' s' H ∧ Un0 W' D ∧ H D = some (.lst acc) ∧ RelDs p.K W' ds acc ∧ Post p (RelD p.K) W1 H1 (exW p WX σ) Q ((lcF t c el (xs.drop (i + 1)) (wipeE e vs) s').bind fun r s2 => R.of (mkL m (ds ++ r) s2)))
          (W1 := W1) (H1 := H1) hD (l'.trans l2) (fr'.trans f2) (re'.mono l2) rp2 un2 hH2 (rds.mono l2) rv2 (by rw [← rds.length]; omega) q4 fun H' ds' hl h => ⟨ds', by omega, h⟩
        obtain ⟨Wa, ea, sa, da, g1, g2, g3, g4⟩ := g
        exact ⟨Wa, ea, sa, da, g1, g2, g3, PostT.impQ g4 fun σ2 H2 h hw => ⟨(h hw).1, htt _ _ _ (h hw).2⟩⟩
      · have e1 : (Src.fix xs).at i s' = some none := by
          show some xs[i]? = _
          rw [List.getElem?_eq_none (by omega)]
        rw [e1] at so'
        rw [List.drop_eq_nil_of_le (by omega)] at q4
        refine .inl ⟨so', adopt (EX := exW p WX σ) rp' un hH rds l' fr' hD (m := m) ?_⟩
        have q5 : Post p (RelD p.K) W1 H1 (exW p WX σ) Q (R.of (mkL m (ds ++ []) s')) := q4
        rw [List.append_nil] at q5
        exact q5
    · rw [if_neg hz] at q3
      exact q3.elim
theorem r_lc {m : Bool} {t : Tg} {w : MW} {c : MB} {el : ME} {elt tg iter : Expr} {ifs : List Expr} {scope : Scope} {own : List (Str × Nat)} {pos : Pos} {tt : TT} (hc : X.calm = true) (hN : X.N.Nodup) (hi : PI X tg iter (tI p WX w)) (ok : BlkOk X.N X.env.scope scope own)
    (hg : ∀ (s : Shared) (H : Hp) (C : Addr) (cl : List (Str × Addr)) (fp : List Addr), PG (X.blk s H scope (compEnvC scope cl C X.env) fp) tg (gTw p (own.map (·.2)) t))
    (ht : ∀ (s : Shared) (H : Hp) (C : Addr) (cl : List (Str × Addr)) (fp : List Addr), PTs (X.blk s H scope (compEnvC scope cl C X.env) fp) ifs tt)
    (htt : ∀ σ H Q, tB p W0x c σ H Q → tt σ H Q)
    (he : ∀ (s : Shared) (H : Hp) (C : Addr) (cl : List (Str × Addr)) (fp : List Addr), PE (X.blk s H scope (compEnvC scope cl C X.env) fp) elt (tE p W0x el)) (hs : ∀ x, foldedSetIterable iter X.env x = pure x) :
    PE X (.ListComp elt [⟨tg, iter, ifs, 0⟩] scope pos) (tE p WX (mLc m (own.map (·.2)) t w c el)) := PE.imp (pe_lc hc hN hi ok hg ht he hs) fun _ _ _ h => t_lc htt h
/-- name = [..] on one line -/
theorem r_setLc {m : Bool} {t : Tg} {w : MW} {c : MB} {el : ME} {i : Nat} {y : Str} {py spos : Pos} {elt tg iter : Expr} {ifs : List Expr} {scope : Scope} {own : List (Str × Nat)} {pos : Pos} {tt : TT} (hc : X.calm = true) (hN : X.N.Nodup) (hy : X.N[i]? = some y) (hyl : X.env.scope.names.lookup y = some .local)
    (hsw : swapsWith (.ListComp elt [⟨tg, iter, ifs, 0⟩] scope pos) (some (.Name y py)) spos.line X.env = pure true) (hi : PI X tg iter (tI p WX w)) (ok : BlkOk X.N X.env.scope scope own)
    (hg : ∀ (s : Shared) (H : Hp) (C : Addr) (cl : List (Str × Addr)) (fp : List Addr), PG (X.blk s H scope (compEnvC scope cl C X.env) fp) tg (gTw p (own.map (·.2)) t))
    (ht : ∀ (s : Shared) (H : Hp) (C : Addr) (cl : List (Str × Addr)) (fp : List Addr), PTs (X.blk s H scope (compEnvC scope cl C X.env) fp) ifs tt)
    (htt : ∀ σ H Q, tB p W0x c σ H Q → tt σ H Q)
    (he : ∀ (s : Shared) (H : Hp) (C : Addr) (cl : List (Str × Addr)) (fp : List Addr), PE (X.blk s H scope (compEnvC scope cl C X.env) fp) elt (tE p W0x el)) (hs : ∀ x, foldedSetIterable iter X.env x = pure x) :
    PS X (.Assign [.Name y py] (.ListComp elt [⟨tg, iter, ifs, 0⟩] scope pos) spos) (tS p WX (sAsg (tName i) (mLc m (own.map (·.2)) t w c el))) :=
  PS.imp (ps_setLc hc hN hy hyl hsw hi ok hg ht he hs) fun D σ H ⟨W, e, s, re, rp, q⟩ => t_lc htt ⟨W, e, s, re, rp, q.eval re fun W1 H1 d v s1 l fr rp1 rv q1 => PostT.nx (goOn_post q1) rp1 ((re.mono l).set i rv)⟩
end
end Z

set_option Elab.async false
set_option linter.all false
set_option maxRecDepth 100000
set_option maxHeartbeats 1000000
/-! Z12: generator expressions: the frame of one. -/
namespace Z
open PySem PySem.Spec PyProof.Rows L2
structure GxOk (N : List Str) (sc scope : Scope) (own : List (Str × Nat)) : Prop where
  blk : BlkOk N sc scope own
  co : scope.isCoroutine = false
  dot : scope.names.lookup (".0" : Str) = some .local
def gxOkB (N : List Str) (sc scope : Scope) (own : List (Str × Nat)) : Bool := blkC N sc scope own && !scope.isCoroutine && decide (scope.names.lookup (".0" : Str) = some .local)
theorem gxOk_by {N : List Str} {sc scope : Scope} {own : List (Str × Nat)} (h : gxOkB N sc scope own = true) : GxOk N sc scope own := by
  unfold gxOkB at h
  simp only [Bool.and_eq_true, Bool.not_eq_true', decide_eq_true_eq] at h
  exact ⟨blkOk_by h.1.1, h.1.2, h.2⟩
abbrev gxCells (X : Cx) (scope : Scope) (n : Nat) : List (Str × Addr) := cellsFrom (n + 1) scope.names (cloFrom X.env.cells scope.names [])
abbrev gxEnv (X : Cx) (scope : Scope) (L : Addr) (code : Value) : PySem.Env := newEnv scope L X.env.globals (gxCells X scope L) (X.env.qual ++ "<genexpr>.") none code none builtinsNs
abbrev gxCx (X : Cx) (A : Around) (s : Shared) (H : Hp) (cenv : PySem.Env) (fp : List Addr) : Cx :=
  { X with A := A.deeper cenv, s_0 := s, H_0 := H, env := cenv, outer := X.stack, stack := cenv :: X.stack, ex := fp, fn := fun x => cenv.scope.names.lookup x == some .cell, pn := [], xe := fun _ _ => False }
section
variable {X : Cx} {pins : List (Addr × Obj)} {σ : L2.St} {H : Hp} {s : Shared}
theorem gx_start {scope : Scope} {own : List (Str × Nat)} {fp : List Addr} {A : Around} {s2 : Shared} {code : Value} {m : Str → Option Value} (I : Inv X pins σ H s) (ok : GxOk X.N X.env.scope scope own) (hN : X.N.Nodup) (hfp : ∀ b ∈ fp, FpOk X pins H b ∧ b < s.heap.objs.size)
    (hA : A.handled = none) (hfr : A.frames = some X.stack) (hos : s2.os = s.os) (hb : AllBare s2.gens) (kp : ∀ b o, s.heap.get? b = some o → s2.heap.get? b = some o) (hns : s2.heap.Ns s.heap.objs.size m)
    (hcs : ∀ c, s.heap.objs.size + 1 ≤ c → CellAt (pushCells (s.heap.push { cls := .type "frame", data := .dict #[] }) scope.names) c none → ∃ v, s2.heap.IsCell c v) :
    Inv (gxCx X A s H (gxEnv X scope s.heap.objs.size code) fp) [] (wipe σ (own.map (·.2))) H s2 := by
  have hz : (s.heap.push { cls := .type "frame", data := .dict #[] }).objs.size = s.heap.objs.size + 1 := Heap.size_push ..
  have hfree : ∀ y ∈ scope.names, y.2 = .free → ∃ c, X.env.cells.lookup y.1 = some c := fun y hy e => (ok.blk.free y hy e).elim (fun k => I.ok.has _ (.inl k)) (fun k => I.ok.has _ (.inr k))
  have cm : ∀ {y c}, (y, c) ∈ cloFrom X.env.cells scope.names [] → X.env.cells.lookup y = some c ∧ c < s.heap.objs.size := fun {y c} hm => by
    rcases cloFrom_mem hm with hm | ⟨h1, e⟩
    · cases hm
    · obtain ⟨c1, hc⟩ := hfree _ h1 rfl
      have hc : X.env.cells.lookup y = some c1 := hc
      rw [hc] at e
      have e : c = c1 := e
      subst e
      obtain ⟨w, z⟩ := I.cell _ _ hc
      exact ⟨hc, z.lt⟩
  have hcells : gxCells X scope s.heap.objs.size = cellsFrom (s.heap.push { cls := .type "frame", data := .dict #[] }).objs.size scope.names (cloFrom X.env.cells scope.names []) := by rw [hz]
  have mem : ∀ {y c}, (gxCells X scope s.heap.objs.size).lookup y = some c → (X.env.cells.lookup y = some c ∧ c < s.heap.objs.size) ∨ (s.heap.objs.size + 1 ≤ c ∧ ∃ v, s2.heap.IsCell c v) := fun {y c} e => by
    rw [hcells] at e
    rcases cells_mem (PySem.mem_of_lookup e) with hm | ⟨_, h2, h3⟩
    · exact .inl (cm hm)
    · rw [hz] at h2
      exact .inr ⟨h2, hcs c h2 h3⟩
  have look : ∀ {y}, scope.names.lookup y = some .free → ∃ c, (gxCells X scope s.heap.objs.size).lookup y = some c ∧ X.env.cells.lookup y = some c := fun {y} hl => by
    have hy : (y, NameKind.free) ∈ scope.names := PySem.mem_of_lookup hl
    obtain ⟨c', e'⟩ := mem_lookup (cells_acc (names := scope.names) (n := (s.heap.push { cls := .type "frame", data := .dict #[] }).objs.size) (cloFrom_has (cells := X.env.cells) (acc := []) hy))
    refine ⟨c', by rw [hcells]; exact e', ?_⟩
    rcases cells_mem (PySem.mem_of_lookup e') with hm | ⟨h1, _, _⟩
    · exact (cm hm).1
    · have q := ok.blk.uniq _ h1
      rw [hl] at q; cases q
  have keepC : ∀ {c : Addr} {v : Option Value}, s.heap.IsCell c v → s2.heap.IsCell c v := fun {c v} z => z.keeps kp
  have noex : ∀ b ∈ frs X.stack, b = X.env.locals ∨ b ∈ X.fs := fun b hb => List.mem_cons.mp (I.stkSub b hb)
  refine ⟨⟨I.ok.mod, ok.blk.kind, I.ok.glob, rfl, Nat.le_refl _, fun y z c e1 e2 => ?_, fun y hy => ?_, fun y c z e => ?_, fun _ => hA, Around.frames_deeper hfr, .inr ⟨rfl, rfl⟩, fun b hb => ⟨Nat.ne_of_lt (hfp b hb).2, fun y c e z => ?_⟩, I.bs, Nat.le_trans I.ok.bsz I.sz,
      fun b o e hb => ?_, fun b hb z => ?_, I.stack, I.stkFree⟩,
    hos, hb, Un.kept kp, ⟨m, hns, fun i y av e1 e2 e3 => ?_⟩, fun y c e => ?_, I.hok.fresh (Nat.le_refl _), fun y c e => ?_, fun p hp => absurd (show p ∈ ([] : List (Addr × Obj)) ++ [] from hp) (by simp), I.hok.kept kp, by rw [wipe_length]; exact I.len⟩
  · have e1 : (gxCells X scope s.heap.objs.size).lookup y = some c := e1
    have e2 : (gxCells X scope s.heap.objs.size).lookup z = some c := e2
    rw [hcells] at e1 e2
    refine cells_inj (fun p hp => ?_) (fun y z c a b => I.ok.inj y z c (cm a).1 (cm b).1) (PySem.mem_of_lookup e1) (PySem.mem_of_lookup e2)
    rw [hz]
    exact Nat.lt_succ_of_lt (cm (y := p.1) (c := p.2) hp).2
  · have hy : scope.names.lookup y = some .cell ∨ scope.names.lookup y = some .free := hy
    rcases hy with hy | hy
    · obtain ⟨c, hm⟩ := cells_has (n := (s.heap.push { cls := .type "frame", data := .dict #[] }).objs.size) (acc := cloFrom X.env.cells scope.names []) (PySem.mem_of_lookup hy)
      obtain ⟨c', e'⟩ := mem_lookup hm
      exact ⟨c', by show (gxCells X scope s.heap.objs.size).lookup y = _; rw [hcells]; exact e'⟩
    · obtain ⟨c, h1, _⟩ := look hy
      exact ⟨c, h1⟩
  · have z : (scope.names.lookup y == some NameKind.cell) = true := z
    have z : scope.names.lookup y = some .cell := by simpa using z
    have e : (gxCells X scope s.heap.objs.size).lookup y = some c := e
    rw [hcells] at e
    rcases cells_mem (PySem.mem_of_lookup e) with hm | ⟨_, h2, _⟩
    · rcases cloFrom_mem hm with hm | ⟨h1, _⟩
      · cases hm
      · have q := ok.blk.uniq _ h1
        rw [z] at q; cases q
    · rw [hz] at h2
      exact Nat.le_of_succ_le h2
  · rcases mem (y := y) (c := c) e with ⟨h1, _⟩ | ⟨h1, _⟩
    · exact (hfp b hb).1.2.2.2.2.1 y c h1 z
    · rw [z] at h1
      exact absurd (Nat.lt_of_lt_of_le (hfp b hb).2 (Nat.le_of_succ_le h1)) (Nat.lt_irrefl _)
  · rcases (hfp b hb).1.2.2.2.1 with z | z
    · exact I.ok.noex b o e z
    · exact absurd (Nat.lt_of_lt_of_le (Heap.lt_size e) (Nat.le_trans I.ok.bsz z)) (Nat.lt_irrefl _)
  · rcases noex b z with z | z
    · exact (hfp b hb).1.2.1 z
    · exact (hfp b hb).1.2.2.1 z
  · obtain ⟨e2, hne⟩ := wipe_some e2
    have notOwn : ∀ k, scope.names.lookup y = some k → k = .local ∨ k = .cell → False := fun k hk hh => by
      rcases ok.blk.own _ (PySem.mem_of_lookup hk) hh with e' | e'
      · obtain ⟨q, hq, hqy⟩ := List.mem_map.mp e'
        have e4 := ok.blk.ix q hq
        have hqy : q.1 = y := hqy
        rw [hqy] at e4
        exact hne (List.mem_map.mpr ⟨q, hq, nodup_ix hN e4 e1⟩)
      · exact e' (List.mem_of_getElem? e1)
    have hfree2 : scope.names.lookup y = some .free := by
      have e3 : Vis scope y := e3
      rcases e3 with k | k | k
      · exact (notOwn _ k (.inl rfl)).elim
      · exact (notOwn _ k (.inr rfl)).elim
      · exact k
    obtain ⟨m0, hn0, hl0⟩ := I.loc
    have hv : X.env.scope.names.lookup y = some .cell ∨ X.env.scope.names.lookup y = some .free := ok.blk.free _ (PySem.mem_of_lookup hfree2) rfl
    obtain ⟨w, r, q⟩ := hl0 i y av e1 e2 (hv.elim (fun k => .inr (.inl k)) (fun k => .inr (.inr k)))
    obtain ⟨c, h1, h2⟩ := look hfree2
    refine ⟨w, r, .inr ⟨.inr hfree2, c, h1, ?_⟩⟩
    rcases q with ⟨k, _⟩ | ⟨_, c', e', z⟩
    · have k : X.env.scope.names.lookup y = some .local := k
      rcases hv with k' | k' <;> rw [k'] at k <;> cases k
    · rw [h2] at e'
      cases e'
      exact keepC z
  · rcases mem (y := y) (c := c) e with ⟨h1, _⟩ | ⟨_, z⟩
    · obtain ⟨w, z⟩ := I.cell y c h1
      exact ⟨w, keepC z⟩
    · exact z
  · rcases mem (y := y) (c := c) e with ⟨h1, _⟩ | ⟨h1, _⟩
    · exact I.freeC y c h1
    · exact I.hok.fresh (Nat.le_of_succ_le h1)
/-- back in the frame that made it -/
theorem gx_back {A : Around} {cenv : PySem.Env} {fp : List Addr} {s2 : Shared} {pins2 : List (Addr × Obj)} {σ2 : L2.St} {H2 : Hp} (I : Inv X pins σ H s) (hfp : ∀ b ∈ fp, FpOk X pins H b) (J : Inv (gxCx X A s H cenv fp) pins2 σ2 H2 s2) : Inv X pins σ H2 s2 :=
  I.call' (ch := fp) J.os J.base J.hok J.bare fun b hb => ⟨(hfp b hb).2.2.2.1, (hfp b hb).2.1, (hfp b hb).2.2.2.2.1, (hfp b hb).2.2.2.2.2⟩
/-- the frame of a generator expression is made -/
theorem newEnv_gx {M : Model} {A : Around} {E : Value → Shared → Prop} {scope : Scope} {globals : Addr} {closure : List (Str × Addr)} {qual : Str} {code it : Value} {builtins : Addr} {Q : PySem.Env → Shared → Prop} (hk : scope.kind = .function) (h0 : scope.names.lookup (".0" : Str) = some .local)
    (h : ∀ h' tk m, h'.Ns s.heap.objs.size m → Heap.SameBut s.heap.objs.size (pushCells (s.heap.push { cls := .type "frame", data := .dict #[] }) scope.names) h' → Q (newEnv scope s.heap.objs.size globals (cellsFrom (s.heap.objs.size + 1) scope.names closure) qual none code none builtins) { s with heap := h', toks := tk }) :
    wpAny M A (newFunctionEnv scope globals closure [((".0" : Str), it)] qual none code none builtins) Q E s := by
  simp only [newFunctionEnv, Option.isSome_none, Bool.false_eq_true, if_false]
  refine wpAny_bind (wpAny_alloc ?_)
  refine wpAny_bind (wpAny_layCells _ (fun name kind cells => by cases hkc : kind == NameKind.cell <;> simp [hkc]) scope.names closure _ _ ?_)
  rw [show ({ s with heap := s.heap.push { cls := .type "frame", data := .dict #[] } } : Shared).heap.objs.size = s.heap.objs.size + 1 from Heap.size_push ..]
  have hn : (pushCells (s.heap.push { cls := .type "frame", data := .dict #[] }) scope.names).Ns s.heap.objs.size fun _ => none := Heap.Ns.keeps (Heap.Ns.new ..) fun b o e => pushCells_keeps _ _ _ _ e
  rw [List.forIn_cons]
  refine wpAny_bind ?_
  refine wpAny_bind ?_
  refine wpAny_bind (wpAny_storeName_local (m := fun _ => none) h0 hn (fun h' hn' hs' => ?_) ?_)
  · refine wpAny_pure (wpAny_pure (wpAny_pure ?_))
    exact h h' _ _ hn' hs'
  · show (scope.kind == .class || (scope.kind == .module && _)) = false
    rw [hk]; rfl
end
end Z

set_option Elab.async false
set_option linter.all false
set_option maxRecDepth 100000
set_option maxHeartbeats 1000000
/-! Z13: generator expressions: their turns. -/
namespace Z
open PySem PySem.Spec PyProof.Rows L2
/-- who asks a generator for its items: his object, how it tells what came, what he wishes -/
structure Con where
  S : Addr
  SR : List V → Obj → Prop
  take : List V → V → Hp → Prop
  go : List V → V → Hp → Prop
  done : List V → Hp → Prop
/-- while the generator sleeps -/
structure Slp (C : Con) (ys : List V) (s s' : Shared) : Prop where
  os : s'.os = s.os
  bare : AllBare s'.gens
  keep : ∀ b o, b ≠ C.S → s.heap.get? b = some o → s'.heap.get? b = some o
  own : ∃ o, s'.heap.get? C.S = some o ∧ C.SR ys o
def gxEnd (Y : Cx) (C : Con) (gp : List (Addr × Obj)) : GenEnd := fun n s₀ r s1 => r = .ok .next ∧ ∃ ys o σ H, n + ys.length = line ∧ s₀.heap.get? C.S = some o ∧ C.SR ys o ∧ Inv Y ((C.S, o) :: gp) σ H s1 ∧ C.done ys H
def gxItem (Y : Cx) (C : Con) (gp : List (Addr × Obj)) : Protocol := fun n s₀ v s1 kap => ∃ ys o y σ H, n + 1 + ys.length = line ∧ RelV y v ∧ s₀.heap.get? C.S = some o ∧ C.SR ys o ∧ Inv Y ((C.S, o) :: gp) σ H s1 ∧ C.take ys y H ∧ (C.go ys y H → ∀ s', Slp C (ys ++ [y]) s1 s' → kap (.send .none) s')
theorem inv_wiped {X : Cx} {pins : List (Addr × Obj)} {σ : L2.St} {H : Hp} {s : Shared} (I : Inv X pins σ H s) (vs : List Nat) : Inv X pins (wipe σ vs) H s := by
  obtain ⟨m, hn, hl⟩ := I.loc
  exact ⟨I.ok, I.os, I.bare, I.base, ⟨m, hn, fun i x v e1 e2 e3 => hl i x v e1 (wipe_some e2).1 e3⟩, I.cell, I.free, I.freeC, I.pin, I.hok, by rw [wipe_length]; exact I.len⟩
/-- woken -/
theorem gx_woken {Y : Cx} {C : Con} {gp : List (Addr × Obj)} {σ : L2.St} {H : Hp} {s s' : Shared} {o : Obj} {ys : List V} (hgp : ∀ p ∈ gp, p.1 ≠ C.S) (hpn : Y.pn = []) (hS : Y.s_0.heap.objs.size ≤ C.S ∧ C.S ≠ Y.env.locals ∧ ∀ x c, Y.env.cells.lookup x = some c → c ≠ C.S) (hcl : ∀ ys o, C.SR ys o → ∀ v, o.data ≠ .cell v)
    (I : Inv Y ((C.S, o) :: gp) σ H s) (z : Slp C ys s s') : ∃ o', s'.heap.get? C.S = some o' ∧ C.SR ys o' ∧ Inv Y ((C.S, o') :: gp) σ H s' := by
  obtain ⟨e0, n0, nL, nF, _⟩ := I.pin (C.S, o) (List.mem_append_right _ List.mem_cons_self)
  have I0 : Inv Y gp σ H s := I.pins_of fun p hp => I.pin p (List.mem_append_right _ (List.mem_cons_of_mem _ hp))
  obtain ⟨z1, z2, z3, o', z4, z5⟩ := z
  obtain ⟨hh, g, d, t, os'⟩ := s'
  have ho : os' = s.os := z1
  subst ho
  have nc : ∀ b, b ∉ [C.S] → b ≠ C.S := fun b hb e => hb (by rw [e]; exact List.mem_singleton.mpr rfl)
  have nt : ∀ b u, H b = some u → b ≠ C.S := fun b u q hb => by rw [hb, n0] at q; cases q
  have J : Inv Y gp σ H { s with heap := hh, gens := g, drawn := d, toks := t } := by
    refine I0.step (g' := g) (t' := t) (d' := d) (ch := [C.S]) (fun b hb => ?_)
      (fun b ob _ _ hc q _ => z3 b ob (nc b hc) q) (fun b ob _ _ hc q _ => ⟨ob.slots, z3 b ob (nc b hc) q⟩) (fun _ _ _ _ n => n) (fun b ob hc q => ⟨ob, z3 b ob (nc b hc) q⟩)
      (fun _ _ q => q) (fun _ _ _ q => q) (fun b ps q => ⟨#[], by rw [q]; simp⟩) (fun m hm => ?_) (fun b u q => ?_) z2
    · rw [List.mem_singleton.mp hb]
      refine ⟨.inr hS.1, hS.2.1, hS.2.2, fun p hp => ?_⟩
      rw [hpn] at hp
      exact hgp p hp
    · obtain ⟨ob, es, ep, ho, r⟩ := hm
      exact ⟨ob, es, ep, z3 _ ob (Ne.symm nL) ho, r⟩
    · refine (I0.hok b u q).stay (fun c v hc y => z3 c v ?_ y) (fun _ y => y) fun _ _ y => y
      rcases hc with y | y
      · rw [y]; exact nt b u q
      · exact nt c _ y
  refine ⟨o', z4, z5, J.pins_of fun p hp => ?_⟩
  rcases List.mem_cons.mp hp with hp | hp
  · rw [hp]
    exact ⟨z4, n0, nL, nF, hcl ys o' z5⟩
  · exact J.pin p (List.mem_append_right _ hp)
/-- the turns' wish -/
def GxTurns (J : It) (g : TG) (tt : TT) (te : TE) (vs : List Nat) (σ : L2.St) (C : Con) (Wn : Nat → Nat → List V → Hp → Prop) : Prop := ∀ i m ys H, Wn i m ys H →
  (J.stop i H ∧ C.done ys H) ∨ (J.go i H ∧ ∃ Nx : List V → Hp → Prop, (∀ ys' H', Nx ys' H' → ∃ m', m' < m ∧ Wn (i + 1) m' ys' H') ∧ ∀ x H', J.yld i H x H' → g x (wipe σ vs) H' fun σ2 H2 => wipe σ2 vs = wipe σ vs ∧ tt σ2 H2 fun b H3 =>
    if b = true then te σ2 H3 fun y H4 => ys.length < line ∧ C.take ys y H4 ∧ (C.go ys y H4 → Nx (ys ++ [y]) H4) else Nx ys H3)
theorem seg_gx {Y : Cx} {C : Con} {gp : List (Addr × Obj)} {A : Around} {cenv : PySem.Env} {tg elt iter : Expr} {ifs : List Expr} {scope : Scope} {pos : Pos} {it : Addr} {fp : List Addr} {tn : Nat → Heap → Prop} {J : It} {g : TG} {tt : TT} {te : TE} {vs : List Nat} {σ : L2.St} {Wn : Nat → Nat → List V → Hp → Prop}
    (hA : Y.A = A.deeper cenv) (hE : Y.env = cenv) (hx : Y.xe = fun _ _ => False) (hc : Y.calm = true) (hpn : Y.pn = []) (hco : cenv.scope.isCoroutine = false) (T : Turn Y.prog Y.w Y.K tg J fp it tn) (hg : PG Y tg g) (ht : PTs Y ifs tt) (he : PE Y elt te)
    (hgp : ∀ p ∈ gp, p.1 ≠ C.S) (hS : Y.s_0.heap.objs.size ≤ C.S ∧ C.S ≠ Y.env.locals ∧ ∀ x c, Y.env.cells.lookup x = some c → c ≠ C.S) (hcl : ∀ ys o, C.SR ys o → ∀ v, o.data ≠ .cell v)
    (hfp : ∀ b ∈ fp, (b ∈ Y.ex ∨ Y.s_0.heap.objs.size ≤ b) ∧ b ≠ Y.env.locals ∧ b ∉ Y.fs ∧ (∀ x c, Y.env.cells.lookup x = some c → c ≠ b) ∧ b ≠ C.S ∧ ∀ p ∈ gp, p.1 ≠ b)
    (turn : GxTurns J g tt te vs σ C Wn) :
    ∀ (m n i : Nat) (ys : List V) (s₀ s : Shared) (H : Hp) (o : Obj), n + ys.length = line → s₀.heap.get? C.S = some o → Wn i m ys H → C.SR ys o → Inv Y ((C.S, o) :: gp) (wipe σ vs) H s → tn i s.heap → (∀ b ∈ fp, H b = none) →
      Seg (model Y.prog Y.w) A (gxEnd Y C gp) (gxItem Y C gp) n s₀ (.compLoop (.GeneratorExp elt [⟨tg, iter, ifs, 0⟩] scope pos) 0 (.ref it) .none cenv) ((model Y.prog Y.w).den (.compLoop (.GeneratorExp elt [⟨tg, iter, ifs, 0⟩] scope pos) 0 (.ref it) .none cenv)) [] s := by
  have hov : A.over (.compLoop (.GeneratorExp elt [⟨tg, iter, ifs, 0⟩] scope pos) 0 (.ref it) .none cenv) [] = Y.A := by rw [hA]; rfl
  have noE : ∀ {P : Prop} (x : Value) (s' : Shared), Y.xe x s' → P := fun x s' z => by rw [hx] at z; exact z.elim
  have stat : ∀ {o : Obj} {H : Hp}, (∀ b ∈ fp, H b = none) → ∀ b ∈ fp, FpOk Y ((C.S, o) :: gp) H b := fun {o H} fr b hb => by
    obtain ⟨h1, h2, h3, h4, h5, h6⟩ := hfp b hb
    refine ⟨fr b hb, h2, h3, h1, h4, fun p hp => ?_⟩
    rw [hpn] at hp
    rcases List.mem_cons.mp hp with e | e
    · rw [e]; exact Ne.symm h5
    · exact h6 p e
  intro m
  induction m using Nat.strongRecOn with
  | ind m ih =>
    intro n i ys s₀ s H o hn hs0 w hSR I st fr
    show Seg _ A _ _ _ s₀ _ ((compTurn (.GeneratorExp elt [⟨tg, iter, ifs, 0⟩] scope pos) 0 (.ref it) .none cenv).onRaise (leaving cenv)) [] s
    rw [compTurn_gen, Sem.onRaise_eq_wrap]
    refine seg_bind_wrap (wpAny_standAt ?_)
    rcases turn i m ys H w with ⟨stop, qd⟩ | ⟨go, Nx, hN, step⟩
    · refine seg_bind_wrap ?_
      rw [hov]
      refine wpAny_mono (T.done Y rfl rfl rfl hc i _ s _ H (fun _ _ => False) I (stat fr) st stop) (fun r s4 hr => ?_) fun _ _ z => z.elim
      obtain ⟨hr, I4⟩ := hr
      subst hr
      exact seg_end (.ok .next) ⟨rfl, ys, o, _, H, hn, hs0, hSR, I4, qd⟩
    · refine seg_bind_wrap ?_
      rw [hov]
      refine wpAny_mono (T.item Y rfl rfl rfl hc i _ s _ H (fun _ _ => False) I (stat fr) st go) (fun r s4 hr => ?_) fun _ _ z => z.elim
      obtain ⟨u, hr, h4⟩ := hr
      subst hr
      refine seg_bind_wrap ?_
      rw [hov]
      refine wpAny_mono h4 (fun _ s5 h5 => ?_) fun _ _ z => z.elim
      obtain ⟨x, H5, I5, r5, y5, st5, fr5⟩ := h5
      have I5' := I5.pinned (stat fr5) (T.obj _ _ st5)
      refine seg_bind_wrap ?_
      rw [hov, ← hE]
      refine wpAny_mono (hg.run _ s5 _ H5 x u _ I5' r5 (step x H5 y5)) (fun _ s6 h6 => ?_) fun x s z => noE x s z
      obtain ⟨σ6, H6, I6, hw, q6⟩ := h6
      refine seg_bind_wrap ?_
      rw [hE, hov, ← hE]
      refine wpAny_mono (ht.run _ s6 σ6 H6 _ I6 q6) (fun ok s7 h7 => ?_) fun x s z => noE x s z
      obtain ⟨H7, I7, q7⟩ := h7
      have fin : ∀ {s8 : Shared} {H8 : Hp}, Inv Y (((C.S, o) :: gp) ++ pinsAt fp s5.heap) σ6 H8 s8 → Inv Y ((C.S, o) :: gp) (wipe σ vs) H8 s8 ∧ tn (i + 1) s8.heap ∧ ∀ b ∈ fp, H8 b = none := fun {s8 H8} I8 => by
        refine ⟨hw ▸ inv_wiped I8.unpinned vs, T.keep _ _ _ st5 fun b hb o e => (I8.pin (b, o) (List.mem_append_right _ (List.mem_append_right _ (mem_pinsAt hb e)))).1, fun b hb => ?_⟩
        obtain ⟨o, e, d⟩ := T.obj _ _ st5 b hb
        exact (I8.pin (b, o) (List.mem_append_right _ (List.mem_append_right _ (mem_pinsAt hb e)))).2.1
      cases ok with
      | false =>
        rw [if_neg Bool.false_ne_true] at q7
        obtain ⟨m', hm, w'⟩ := hN _ _ q7
        obtain ⟨J7, t7, f7⟩ := fin I7
        simp only [Bool.false_eq_true, if_false]
        rw [hE]
        exact seg_again rfl (ih m' hm n (i + 1) ys s₀ s7 H7 o hn hs0 w' hSR J7 t7 f7)
      | true =>
        rw [if_pos rfl] at q7
        simp only [if_true]
        have hy : ∀ v, yieldOut Y.env v = yieldValue v := fun v => by rw [hE]; simp only [yieldOut, hco, Bool.false_eq_true, if_false]
        simp only [hy]
        rw [Sem.bind_eq_wrap', Sem.bind_eq_wrap', Sem.wrap_wrap, Sem.wrap_wrap]
        refine seg_wrap ?_
        rw [hE, hov, ← hE]
        refine wpAny_mono (he.run _ s7 σ6 H7 _ I7 q7) (fun v s8 h8 => ?_) fun x s z => noE x s z
        obtain ⟨y, H8, I8, rv, hl, htk, hgo⟩ := h8
        obtain ⟨J8, t8, f8⟩ := fin I8
        cases n with
        | zero => omega
        | succ n =>
          refine seg_at (seg_yield rfl rfl rfl ⟨ys, o, y, _, H8, by show n + 1 - 1 + 1 + ys.length = line; omega, rv, hs0, hSR, J8, htk, fun hgo' s' z => ?_⟩)
          obtain ⟨o', hs0', hSR', J9⟩ := gx_woken hgp hpn hS hcl J8 z
          obtain ⟨m', hm, w'⟩ := hN _ _ (hgo hgo')
          rw [hE]
          exact seg_again rfl (ih m' hm n (i + 1) (ys ++ [y]) s' s' H8 o' (by rw [List.length_append, List.length_singleton]; omega) hs0' w' hSR' J9 (T.keep _ _ _ t8 fun b hb o e => z.keep b o (hfp b hb).2.2.2.2.1 e) f8)
end Z

set_option Elab.async false
set_option linter.all false
set_option maxRecDepth 100000
set_option maxHeartbeats 2000000
/-! Z14: generator expressions: made, woken. -/
namespace Z
open PySem PySem.Spec PyProof.Rows L2
section
variable {M : Model} {A : Around} {E : Value → Shared → Prop} {s : Shared}
theorem gx_eval {env : PySem.Env} {elt target iter : Expr} {ifs : List Expr} {scope : Scope} {cl : List (Str × Addr)} {pos : Pos} {Q : Value → Shared → Prop}
    (hco : scope.isCoroutine = false) (hclos : closureFor scope env = pure cl) (h0 : scope.names.lookup (".0" : Str) = some NameKind.local) (hkind : scope.kind = .function) (hroom : A.depth < recursionLimit)
    (h : wpAny M A (eval iter env) (fun xv s₁ => wpAny M A (pyIter xv) (fun it s₂ => s₂.heap.NoLimit ∧
      wpAny M A (genexprCode env pos (env.qual ++ "<genexpr>") scope) (fun code s₃ => wpAny M A (builtinsFor env.globals env.builtins) (fun bi s₄ =>
        ∀ h' tk m (go : Obj) (nm qn : Value), h'.Ns s₄.heap.objs.size m → Heap.SameBut s₄.heap.objs.size (pushCells (s₄.heap.push { cls := .type "frame", data := .dict #[] }) scope.names) h' →
          go.cls = .type "generator" → go.data = .fields #[.int s₄.gens.size 0, nm, qn] → go.slots = #[] → (∀ h : Heap, (h.push go).get? h.objs.size = some go) →
          Q (.ref h'.objs.size) { s₄ with
            gens := s₄.gens.push (.fresh (.compStart (.GeneratorExp elt [⟨target, iter, ifs, 0⟩] scope pos) 0 it .none (newEnv scope s₄.heap.objs.size env.globals (cellsFrom (s₄.heap.objs.size + 1) scope.names cl) (env.qual ++ "<genexpr>.") none code none bi))),
            toks := tk, heap := h'.push go }) E s₃) E s₂) E s₁) E s)
    (hs : ∀ x, genFold iter env x = pure x) : wpAny M A (eval (.GeneratorExp elt [⟨target, iter, ifs, 0⟩] scope pos) env) Q E s := by
  rw [eval_GeneratorExp1 _ _ _ _ _ _ _ hco, hclos]
  refine wpAny_bind (wpAny_mono h (fun xv s₁ h₁ => ?_) fun _ _ e => e)
  refine wpAny_bind (wpAny_standAt ?_)
  refine wpAny_bind (wpAny_of_eq (hs xv) ?_)
  refine wpAny_bind (wpAny_holding (wpAny_mono h₁ (fun it s₂ h₂ => ?_) fun _ _ e => e))
  refine wpAny_bind (wpAny_enterFrame h₂.1 hroom ?_)
  refine wpAny_bind (wpAny_pure ?_)
  refine wpAny_bind (wpAny_mono h₂.2 (fun code s₃ h₃ => ?_) fun _ _ e => e)
  refine wpAny_bind (wpAny_mono h₃ (fun bi s₄ h₄ => ?_) fun _ _ e => e)
  refine wpAny_bind (newEnv_gx hkind h0 fun h' tk m hn hsb => ?_)
  simp only [newGenerator, newFields]
  refine wpAny_bind (wpAny_newGen (wpAny_bind (wpAny_mkText (wpAny_bind (wpAny_mkText (wpAny_newObj_type ?_ (by size_fits)))))))
  exact h₄ h' _ m _ _ _ hn hsb rfl rfl rfl fun h => Heap.get?_push_size _ rfl
end
def xEnd (X : Cx) (pins : List (Addr × Obj)) (σ : L2.St) (C : Con) (gp : List (Addr × Obj)) : GenEnd := fun n s₀ r s1 => r = .ok .next ∧ ∃ ys o H, n + ys.length = line ∧ s₀.heap.get? C.S = some o ∧ C.SR ys o ∧ s1.heap.get? C.S = some o ∧ H C.S = none ∧ Inv X pins σ H s1 ∧ (∀ p ∈ gp, s1.heap.get? p.1 = some p.2) ∧ C.done ys H
def xItem (X : Cx) (pins : List (Addr × Obj)) (σ : L2.St) (C : Con) (gp : List (Addr × Obj)) : Protocol := fun n s₀ v s1 kap => ∃ ys o y H, n + 1 + ys.length = line ∧ RelV y v ∧ s₀.heap.get? C.S = some o ∧ C.SR ys o ∧ s1.heap.get? C.S = some o ∧ H C.S = none ∧ Inv X pins σ H s1 ∧ (∀ p ∈ gp, s1.heap.get? p.1 = some p.2) ∧ C.take ys y H ∧
  (C.go ys y H → ∀ s', Slp C (ys ++ [y]) s1 s' → kap (.send .none) s')
/-- a generator that has not begun; ready: how it runs when it is asked by C -/
def GxMade (X : Cx) (pins : List (Addr × Obj)) (σ : L2.St) (k : Nat) (R : Hp → Con → Prop) (u : Value) (s' : Shared) : Prop :=
  ∃ (a : Addr) (g : Nat) (go : Obj) (c : Code) (H1 : Hp), u = .ref a ∧ s'.heap.get? a = some go ∧ (∀ h : Heap, h.get? a = some go → h.IsGen a g) ∧ (∀ v, go.data ≠ .cell v) ∧ s'.gens[g]? = some (.fresh c) ∧ Inv X pins σ H1 s' ∧ H1 a = none ∧ a < s'.heap.objs.size ∧
    ∀ (A : Around) (C : Con) (gp : List (Addr × Obj)) (s2 : Shared), Room k A → A.frames = some X.stack → (C.S = a ∧ gp = []) ∨ (s'.heap.objs.size ≤ C.S ∧ gp = [(a, go)]) → (∀ ys o, C.SR ys o → ∀ v, o.data ≠ .cell v) → (∀ b o, b ≠ C.S → s'.heap.get? b = some o → s2.heap.get? b = some o) →
      (∃ o, s2.heap.get? C.S = some o ∧ C.SR [] o) → s2.os = s'.os → AllBare s2.gens → R H1 C → Seg (model X.prog X.w) A (xEnd X pins σ C gp) (xItem X pins σ C gp) line s2 c ((model X.prog X.w).den c) [] s2
theorem gx_make {X : Cx} {pins : List (Addr × Obj)} {σ : L2.St} {H : Hp} {s : Shared} {c P : Addr} {tg elt iter : Expr} {ifs : List Expr} {scope : Scope} {own : List (Str × Nat)} {gpos : Pos} {wi : TI} {g : TG} {tt : TT} {te : TE} {k : Nat} {R : Hp → Con → Prop} {Q' : Value → Shared → Prop}
    (hd : X.A.depth < recursionLimit) (hc : X.calm = true) (hN : X.N.Nodup) (TB : GxR.TabB X.base X.mg c P) (hcode : X.env.code = .ref c) (ok : GxOk X.N X.env.scope scope own) (hi : PI X tg iter wi)
    (hg : ∀ (A : Around) (s : Shared) (H : Hp) (L : Addr) (cd : Value) (fp : List Addr), Room k (A.deeper (gxEnv X scope L cd)) → PG (gxCx X A s H (gxEnv X scope L cd) fp) tg g)
    (ht : ∀ (A : Around) (s : Shared) (H : Hp) (L : Addr) (cd : Value) (fp : List Addr), Room k (A.deeper (gxEnv X scope L cd)) → PTs (gxCx X A s H (gxEnv X scope L cd) fp) ifs tt)
    (he : ∀ (A : Around) (s : Shared) (H : Hp) (L : Addr) (cd : Value) (fp : List Addr), Room k (A.deeper (gxEnv X scope L cd)) → PE (gxCx X A s H (gxEnv X scope L cd) fp) elt te)
    (hs : ∀ v, genFold iter X.env v = pure v) (I : Inv X pins σ H s)
    (h : wi σ H fun J H1 => GxR.TabG H1 P ∧ ∀ H2 C, GxR.Tabbed P H1 H2 → R H2 C → ∃ Wn m, GxTurns J g tt te (own.map (·.2)) σ C Wn ∧ Wn 0 m [] H2)
    (hQ : ∀ u s', GxMade X pins σ (k + 1) R u s' → Q' u s') :
    wpAny (model X.prog X.w) X.A (eval (.GeneratorExp elt [⟨tg, iter, ifs, 0⟩] scope gpos) X.env) Q' X.xe s := by
  have hfree : ∀ y ∈ scope.names, y.2 = .free → ∃ c, X.env.cells.lookup y.1 = some c := fun y hy e => (ok.blk.free y hy e).elim (fun k => I.ok.has _ (.inl k)) (fun k => I.ok.has _ (.inr k))
  refine gx_eval ok.co (closure_ok hfree) ok.dot ok.blk.kind hd ?_ hs
  refine thn (hi.run pins s σ H _ I h) fun xv s1 h1 => thn h1 fun itv s2 h2 => ?_
  obtain ⟨it, fp, tn, J, H2, e, I2, T, st2, f2, ⟨ps, hP, htr⟩, hR⟩ := h2
  subst e
  refine ⟨I2.nolimit, ?_⟩
  have hPs : s2.heap.get? P = some { cls := .none, data := .fields ps } := I2.hok P _ hP
  have cd : PySem.W.CodeHd s2.heap c P := TB.code.keeps fun b u e => I2.bk b u e
  have fpP : ∀ b ∈ fp, b ≠ P := fun b hb z => by
    have q := (f2 b hb).1
    rw [z, hP] at q
    cases q
  -- behind the making of the code object
  have cont : ∀ (code : Value) (h3 : Heap) (tk : Nat) (more : Array Value), Heap.ExtBut P s2.heap h3 → h3.get? P = some { cls := .none, data := .fields (ps ++ more) } → TriplesOk (ps ++ more).toList →
      wpAny (model X.prog X.w) X.A (builtinsFor X.env.globals X.env.builtins) (fun bi s₄ =>
        ∀ h' tk m (go : Obj) (nm qn : Value), h'.Ns s₄.heap.objs.size m → Heap.SameBut s₄.heap.objs.size (pushCells (s₄.heap.push { cls := .type "frame", data := .dict #[] }) scope.names) h' →
          go.cls = .type "generator" → go.data = .fields #[.int s₄.gens.size 0, nm, qn] → go.slots = #[] → (∀ h : Heap, (h.push go).get? h.objs.size = some go) →
          Q' (.ref h'.objs.size) { s₄ with
            gens := s₄.gens.push (.fresh (.compStart (.GeneratorExp elt [⟨tg, iter, ifs, 0⟩] scope gpos) 0 (.ref it) .none (newEnv scope s₄.heap.objs.size X.env.globals (cellsFrom (s₄.heap.objs.size + 1) scope.names (cloFrom X.env.cells scope.names [])) (X.env.qual ++ "<genexpr>.") none code none bi))),
            toks := tk, heap := h'.push go }) X.xe { s2 with heap := h3, toks := tk } := by
    intro code h3 tk more hx hP3 ht3
    have I3 : Inv X pins σ (upd H2 P (.tbl (ps ++ more))) { s2 with heap := h3, gens := s2.gens, drawn := s2.drawn, toks := tk } := GxR.inv_tab I2 hP hx hP3 I2.bare
    have TG3 : GxR.Tabbed P H2 (upd H2 P (.tbl (ps ++ more))) := ⟨⟨_, upd_same, ht3⟩, fun b hb => upd_ne hb⟩
    have f3 : ∀ b ∈ fp, FpOk X pins (upd H2 P (.tbl (ps ++ more))) b := fun b hb => by
      obtain ⟨q1, q⟩ := f2 b hb
      exact ⟨by rw [upd_ne (fpP b hb)]; exact q1, q⟩
    have st3 : tn 0 h3 := T.keep _ _ _ st2 fun b hb o e => hx b o (fpP b hb) e
    obtain ⟨bm, ob, e1, e2, e3, e4, e5, e6, e7, e8⟩ := TB.bm
    refine wpAny_builtinsFor (m := X.mg) (by rw [I3.ok.glob]; exact I3.mod.glob.keeps I3.bk) e1 e2 (I3.bk _ _ e5) e6 e7 e8 ?_
    generalize hs3 : ({ s2 with heap := h3, toks := tk } : Shared) = s3 at *
    have st3 : tn 0 s3.heap := by rw [← hs3]; exact st3
    generalize hH3 : upd H2 P (.tbl (ps ++ more)) = H3 at *
    intro h' tk m go nm qn hns hsb hgc hgd hgs hgp
    have hsz5 : s3.heap.objs.size + 1 ≤ (pushCells (s3.heap.push { cls := .type "frame", data := .dict #[] }) scope.names).objs.size := by
      have q := pushCells_size scope.names (s3.heap.push { cls := .type "frame", data := .dict #[] })
      rw [Heap.size_push] at q
      exact q
    have hsz : s3.heap.objs.size < h'.objs.size := by rw [hsb.1]; exact hsz5
    have k5 : ∀ b o, b ≠ s3.heap.objs.size → (pushCells (s3.heap.push { cls := .type "frame", data := .dict #[] }) scope.names).get? b = some o → h'.get? b = some o := fun b o hb e => (hsb.2 b hb).trans e
    have kp : ∀ b o, s3.heap.get? b = some o → h'.get? b = some o := fun b o e => k5 b o (Nat.ne_of_lt (Heap.lt_size e)) (pushCells_keeps _ _ _ _ (Heap.get?_push_of_some _ e))
    have hgo : (h'.push go).get? h'.objs.size = some go := hgp h'
    have kp2 : ∀ b o, s3.heap.get? b = some o → (h'.push go).get? b = some o := fun b o e => Heap.get?_push_of_some _ (kp b o e)
    have hgcell : ∀ v, go.data ≠ .cell v := fun v q => by rw [hgd] at q; cases q
    have I6 : Inv X pins σ H3 { s3 with gens := s3.gens.push (.fresh (.compStart (.GeneratorExp elt [⟨tg, iter, ifs, 0⟩] scope gpos) 0 (.ref it) .none (newEnv scope s3.heap.objs.size X.env.globals (cellsFrom (s3.heap.objs.size + 1) scope.names (cloFrom X.env.cells scope.names [])) (X.env.qual ++ "<genexpr>.") none code none builtinsNs))), toks := tk, heap := h'.push go } :=
      I3.call' (ch := []) rfl (Un.kept kp2) (I3.hok.kept kp2) (AllBare.push I3.bare rfl) fun b z => by simp at z
    have hfp : ∀ b ∈ fp, FpOk X pins H3 b ∧ b < s3.heap.objs.size := fun b hb => by
      obtain ⟨o, e, _⟩ := T.obj _ _ st3 b hb
      exact ⟨f3 b hb, Heap.lt_size e⟩
    refine hQ _ _ ⟨h'.objs.size, s3.gens.size, go, _, H3, rfl, hgo, fun h e => ⟨go, nm, qn, e, hgc, hgd, hgs⟩, hgcell, Array.getElem?_push_size .., I6, I3.hok.fresh (Nat.le_of_lt hsz), by show _ < (h'.push go).objs.size; rw [Heap.size_push]; exact Nat.lt_succ_self _, ?_⟩
    intro A C gp s6 hr hfr hS hcl hk6 hSo hos hba hRC
    obtain ⟨Wn, m0, hturn, hW0⟩ := hR H3 C TG3 hRC
    obtain ⟨oS, eS, rS⟩ := hSo
    have hCS : h'.objs.size ≤ C.S := by
      rcases hS with ⟨e, _⟩ | ⟨e, _⟩
      · rw [e]; exact Nat.le_refl _
      · have e : (h'.push go).objs.size ≤ C.S := e
        rw [Heap.size_push] at e
        exact Nat.le_of_succ_le e
    have hne : ∀ b : Addr, b < h'.objs.size → b ≠ C.S := fun b hb => Nat.ne_of_lt (Nat.lt_of_lt_of_le hb hCS)
    have k6 : ∀ b o, h'.get? b = some o → s6.heap.get? b = some o := fun b o e => hk6 b o (hne b (Heap.lt_size e)) (Heap.get?_push_of_some _ e)
    have J0 : Inv (gxCx X A s3 H3 (gxEnv X scope s3.heap.objs.size code) fp) [] (wipe σ (own.map (·.2))) H3 s6 := by
      refine gx_start (m := m) I3 ok hN hfp hr.hd hfr hos hba (fun b o e => k6 b o (kp b o e)) (hns.keeps k6) fun c hc hcc => ?_
      obtain ⟨o, ho, hd⟩ := hcc
      exact ⟨_, o, k6 _ _ (k5 _ _ (Nat.ne_of_gt hc) ho), hd⟩
    have hgp' : ∀ p ∈ gp, p = (h'.objs.size, go) ∧ p.1 ≠ C.S := fun p hp => by
      rcases hS with ⟨_, e⟩ | ⟨e1, e⟩
      · rw [e] at hp; cases hp
      · rw [e] at hp
        have e2 := List.mem_singleton.mp hp
        refine ⟨e2, ?_⟩
        rw [e2]
        have e1 : (h'.push go).objs.size ≤ C.S := e1
        rw [Heap.size_push] at e1
        exact Nat.ne_of_lt e1
    have young : ∀ b, h'.objs.size ≤ b → H3 b = none ∧ b ≠ s3.heap.objs.size ∧ b ∉ frs X.stack := fun b hb => ⟨I3.hok.fresh (Nat.le_trans (Nat.le_of_lt hsz) hb), Nat.ne_of_gt (Nat.lt_of_lt_of_le hsz hb), fun z => by
      rcases List.mem_cons.mp (I3.stkSub b z) with q | q
      · have h1 := I3.lt
        rw [← q] at h1
        exact absurd (Nat.lt_of_lt_of_le (Nat.lt_of_lt_of_le h1 (Nat.le_of_lt hsz)) hb) (Nat.lt_irrefl _)
      · exact I3.nofs (Nat.le_trans (Nat.le_of_lt hsz) hb) q⟩
    have J : Inv (gxCx X A s3 H3 (gxEnv X scope s3.heap.objs.size code) fp) ((C.S, oS) :: gp) (wipe σ (own.map (·.2))) H3 s6 := by
      refine J0.pins_of fun p hp => ?_
      rcases List.mem_cons.mp hp with e | e
      · subst e
        obtain ⟨y1, y2, y3⟩ := young C.S hCS
        exact ⟨eS, y1, y2, y3, hcl _ _ rS⟩
      · obtain ⟨e1, e2⟩ := hgp' p e
        rw [e1] at e2 ⊢
        obtain ⟨y1, y2, y3⟩ := young h'.objs.size (Nat.le_refl _)
        exact ⟨hk6 _ _ e2 hgo, y1, y2, y3, hgcell⟩
    have hS3 : s3.heap.objs.size ≤ C.S ∧ C.S ≠ s3.heap.objs.size ∧ ∀ x c, (gxCells X scope s3.heap.objs.size).lookup x = some c → c ≠ C.S := by
      refine ⟨Nat.le_trans (Nat.le_of_lt hsz) hCS, Nat.ne_of_gt (Nat.lt_of_lt_of_le hsz hCS), fun x c e z => ?_⟩
      obtain ⟨v, o, ho, hd⟩ := J0.cell x c e
      rw [z, eS] at ho
      cases ho
      exact hcl _ _ rS _ hd
    have loop := seg_gx (Y := gxCx X A s3 H3 (gxEnv X scope s3.heap.objs.size code) fp) (C := C) (gp := gp) (A := A) (cenv := gxEnv X scope s3.heap.objs.size code) (elt := elt) (iter := iter) (ifs := ifs) (scope := scope) (pos := gpos) (it := it) (σ := σ) (vs := own.map (·.2)) (Wn := Wn) rfl rfl rfl hc rfl ok.co T
      (hg A s3 H3 _ code fp (hr.deeper _)) (ht A s3 H3 _ code fp (hr.deeper _)) (he A s3 H3 _ code fp (hr.deeper _)) (fun p hp => (hgp' p hp).2) hS3 hcl
      (fun b hb => ⟨.inl hb, (J0.ok.exf b hb).1, J0.ok.exfs b hb, (J0.ok.exf b hb).2, hne b (Nat.lt_trans (hfp b hb).2 hsz), fun p hp => by
        rw [(hgp' p hp).1]
        exact Nat.ne_of_gt (Nat.lt_trans (hfp b hb).2 hsz)⟩) hturn m0 line 0 [] s6 s6 H3 oS (Nat.add_zero _) eS hW0 rS J (T.keep _ _ _ st3 fun b hb o e => k6 b o (kp b o e)) (fun b hb => (hfp b hb).1.1)
    refine seg_imp (R := gxEnd (gxCx X A s3 H3 (gxEnv X scope s3.heap.objs.size code) fp) C gp) (Y := gxItem (gxCx X A s3 H3 (gxEnv X scope s3.heap.objs.size code) fp) C gp) (fun n s₀ r s1' hE => ?_) (fun n s₀ v s1' kap kap' hkk hY => ?_) line ?_
    · obtain ⟨hr1, ys, o, σ', H', hn, hs0, hSR, J', hd⟩ := hE
      obtain ⟨q1, q2, _⟩ := J'.pin (C.S, o) (List.mem_append_right _ List.mem_cons_self)
      refine ⟨hr1, ys, o, H', hn, hs0, hSR, q1, q2, (gx_back I3 (fun b hb => (hfp b hb).1) J').call' (ch := []) rfl (Un.kept fun _ _ e => e) J'.hok J'.bare (fun b z => by simp at z), fun p hp => (J'.pin p (List.mem_append_right _ (List.mem_cons_of_mem _ hp))).1, hd⟩
    · obtain ⟨ys, o, y, σ', H', hn, rv, hs0, hSR, J', htk, hgo'⟩ := hY
      obtain ⟨q1, q2, _⟩ := J'.pin (C.S, o) (List.mem_append_right _ List.mem_cons_self)
      exact ⟨ys, o, y, H', hn, rv, hs0, hSR, q1, q2, gx_back I3 (fun b hb => (hfp b hb).1) J', fun p hp => (J'.pin p (List.mem_append_right _ (List.mem_cons_of_mem _ hp))).1, htk, fun hg s' z => hkk _ _ (hgo' hg s' z)⟩
    · have hov : A.over (.compStart (.GeneratorExp elt [⟨tg, iter, ifs, 0⟩] scope gpos) 0 (.ref it) .none (gxEnv X scope s3.heap.objs.size code)) [] = A.deeper (gxEnv X scope s3.heap.objs.size code) := rfl
      show Seg _ A _ _ _ s6 _ ((compStart (.GeneratorExp elt [⟨tg, iter, ifs, 0⟩] scope gpos) 0 (.ref it) .none (gxEnv X scope s3.heap.objs.size code)).onRaise (leaving (gxEnv X scope s3.heap.objs.size code))) [] s6
      unfold compStart
      rw [Sem.onRaise_eq_wrap]
      show Seg _ A _ _ _ s6 _ ((ask >>= _).wrap _ _ _ _) [] s6
      refine seg_bind_wrap (wpAny_askSetting ?_)
      have st6 : tn 0 s6.heap := T.keep _ _ _ st3 fun b hb o e => k6 b o (kp b o e)
      split
      · exact seg_again rfl loop
      · first
          | exact seg_bind_wrap (wpAny_rule (seg_bind_wrap (wpAny_standAt (seg_bind_wrap (T.self _ 0 s6 _ _ st6 (seg_again rfl loop))))))
          | (refine seg_bind_wrap (wpAny_rule ?_); show Seg _ A _ _ _ s6 _ ((standAt iter.pos >>= _).wrap _ _ _ _) [] s6; exact seg_bind_wrap (wpAny_standAt (seg_bind_wrap (T.self _ 0 s6 _ _ st6 (seg_again rfl loop)))))
  cases hf : codeAmong gpos ps.toList with
  | none =>
    refine wpAny_genexprCodeX hcode (cd.code hPs htr) (cd.tab hPs) hf fun c' h3 tk hx hge hlt hco' _ htab' _ => ?_
    obtain ⟨o1, vs, f1, tf, fl, tg', inF, tx, tt', op, _, _, _, _, _, _, _, _, _, htr', _⟩ := hco'
    exact cont _ h3 tk _ hx htab'.2 htr'
  | some cv =>
    refine wpAny_genexprCode_hit hcode (cd.code hPs htr) hf ?_
    exact cont cv s2.heap s2.toks #[] (Heap.ExtBut.refl _ _) (by rw [Array.append_empty]; exact hPs) (by rw [Array.append_empty]; exact htr)
end Z

set_option Elab.async false
set_option linter.all false
set_option maxRecDepth 100000
set_option maxHeartbeats 2000000
/-! Z15: who asks generator expressions. -/
namespace Z
open PySem PySem.Spec PyProof.Rows L2 GenW
def xF (X : Cx) (pins : List (Addr × Obj)) (σ : L2.St) (C : Con) (gp : List (Addr × Obj)) : Nat → Shared → Shared → Prop := fun n s₀ s1 => ∃ ys o H, n + ys.length = line ∧ s₀.heap.get? C.S = some o ∧ C.SR ys o ∧ s1.heap.get? C.S = some o ∧ H C.S = none ∧ Inv X pins σ H s1 ∧ (∀ p ∈ gp, s1.heap.get? p.1 = some p.2) ∧ C.done ys H
abbrev xR (X : Cx) (pins : List (Addr × Obj)) (σ : L2.St) (C : Con) (gp : List (Addr × Obj)) : GenEnd := fun n s₀ r s₁ => ((r = .ok (.ret .none) ∨ r = .ok .next) ∧ xF X pins σ C gp n s₀ s₁) ∨ ∃ e, r = .error e ∧ (fun (_ : Value) (_ : Shared) => False) e s₁
section
variable {X : Cx} {pins : List (Addr × Obj)} {σ : L2.St} {C : Con} {gp : List (Addr × Obj)} {A : Around} {E : Value → Shared → Prop} {s : Shared}
theorem gx_next {a : Addr} {g n : Nat} {gs : GenState} {Q : Option Value → Shared → Prop} (hh : A.handled = none) (hl : s.heap.NoLimit) (hroom : A.depth < recursionLimit) (hg : s.heap.IsGen a g) (hgs : s.gens[g]? = some gs)
    (hgo : gs.Goes (model X.prog X.w) A.in1 (xR X pins σ C gp) (xItem X pins σ C gp) n (.send .none) (s.setGen g .running))
    (hY : ∀ v s₁ gs' ys o y H, gs'.bare = true → n - 1 + 1 + ys.length = line → RelV y v → s.heap.get? C.S = some o → C.SR ys o → s₁.heap.get? C.S = some o → H C.S = none → Inv X pins σ H s₁ → (∀ p ∈ gp, s₁.heap.get? p.1 = some p.2) → C.take ys y H →
      (C.go ys y H → ∀ s', Slp C (ys ++ [y]) s₁ s' → ∃ m, n = m + 1 ∧ gs'.Goes (model X.prog X.w) A.in1 (xR X pins σ C gp) (xItem X pins σ C gp) m (.send .none) s') → Q (some v) (s₁.setGen g gs'))
    (hP : ∀ s₁ ys o H, n + ys.length = line → s.heap.get? C.S = some o → C.SR ys o → s₁.heap.get? C.S = some o → H C.S = none → Inv X pins σ H s₁ → (∀ p ∈ gp, s₁.heap.get? p.1 = some p.2) → C.done ys H → ∀ h', (∀ b o, s₁.heap.get? b = some o → h'.get? b = some o) → Q none { s₁.setGen g .finished with heap := h' }) :
    wpAny (model X.prog X.w) A (pyNext (.ref a)) Q E s := by
  refine next_genG hh hl hroom hg hgs hgo (fun v s₁ gs' hb hv => ?_) (fun s₁ hp h' hk => ?_) fun e s₁ he => he.elim
  · obtain ⟨ys, o, y, H, hn, rv, h0, h1, h2, h3, h4, h5, h6, h7⟩ := hv
    refine hY v s₁ gs' ys o y H hb hn rv h0 h1 h2 h3 h4 h5 h6 fun hgo s' z => ?_
    have q := h7 hgo s' z
    cases n with
    | zero => exact q.elim
    | succ m => exact ⟨m, rfl, q⟩
  · obtain ⟨ys, o, H, hn, h0, h1, h2, h3, h4, h5, h6⟩ := hp
    exact hP s₁ ys o H hn h0 h1 h2 h3 h4 h5 h6 h' hk
theorem goes_fresh {c : Code} {n : Nat} {s : Shared} (h : Seg (model X.prog X.w) A (xEnd X pins σ C gp) (xItem X pins σ C gp) n s c ((model X.prog X.w).den c) [] s) : GenState.Goes (model X.prog X.w) A (xR X pins σ C gp) (xItem X pins σ C gp) n (.fresh c) (.send .none) s :=
  ⟨rfl, seg_imp (fun n s₀ r s1 hR => .inl ⟨.inr hR.1, hR.2⟩) (fun n s₀ v s1 kap kap' hk hY => by
    obtain ⟨ys, o, y, H, hn, rv, h0, h1, h2, h3, h4, h5, h6, h7⟩ := hY
    exact ⟨ys, o, y, H, hn, rv, h0, h1, h2, h3, h4, h5, h6, fun hg s' z => hk _ _ (h7 hg s' z)⟩) n h⟩
/-- a list that takes all -/
def lstCon (S : Addr) (done : List V → Hp → Prop) : Con := ⟨S, fun ys o => ∃ acc c, o = lstObj acc c ∧ Vals ys acc.toList, fun _ _ _ => True, fun _ _ _ => True, done⟩
theorem gx_drain {R : Result → Shared → Prop} {S a : Addr} {g : Nat} {go : Obj} {res : Value} {done : List V → Hp → Prop} (hh : A.handled = none) (hd : A.depth < recursionLimit) (hSa : a ≠ S) (hgen : ∀ h : Heap, h.get? a = some go → h.IsGen a g)
    (hend : ∀ s' acc c H' ys, s'.heap.get? S = some (lstObj acc c) → Vals ys acc.toList → ys.length ≤ line → H' S = none → Inv X pins σ H' s' → done ys H' → R (.ok (.ret res)) s') :
    ∀ (m : Nat) (s : Shared), s.heap.get? a = some go → s.heap.NoLimit →
      (∃ gs, s.gens[g]? = some gs ∧ gs.Goes (model X.prog X.w) A.in1.in1 (xR X pins σ (lstCon S done) [(a, go)]) (xItem X pins σ (lstCon S done) [(a, go)]) m (.send .none) (s.setGen g .running)) →
      codeAny (model X.prog X.w) A (.builtin "list.extend.loop" ⟨[.ref S, .ref a, res], []⟩) R s := by
  intro m
  induction m with
  | zero =>
    intro s hg hl ⟨gs, hgs, hgo⟩
    refine codeAny_builtin F.entry_extend_loop ?_
    rw [Around.under_plainId F.plain_extend_loop _]
    show wpAny _ A.in1 (pyNext (.ref a) >>= _) _ _ s
    refine wpAny_bind (gx_next (A := A.in1) hh hl hd (hgen _ hg) hgs hgo (fun v s₁ gs' ys o y H hb hn rv _ hSR hS hSn I hgp _ hk => ?_) fun s₁ ys o H hn _ hSR hS hSn I hgp hdn h' hk => ?_)
    · have hsl : Slp (lstCon S done) (ys ++ [y]) s₁ { s₁ with heap := s₁.heap.update S (Obj.mapSeq (·.push v)) } := by
        obtain ⟨acc, c, rfl, r⟩ := hSR
        exact ⟨rfl, I.bare, fun b o hb e => (Heap.get?_update_other _ _ (Ne.symm hb)).trans e, _, Heap.get?_update_self _ hS rfl, acc.push v, _, rfl, by rw [Array.toList_push]; exact r.append (.cons rv .nil)⟩
      obtain ⟨m, hm, _⟩ := hk trivial _ hsl
      exact absurd hm (Nat.succ_ne_zero m).symm
    · obtain ⟨acc, c, rfl, r⟩ := hSR
      exact wpAny_pure (hend _ acc c H ys (hk _ _ hS) r (by omega) hSn (I.call' (ch := []) rfl (Un.kept hk) (I.hok.kept hk) (allBare_setGen I.bare rfl) fun b z => by simp at z) hdn)
  | succ m ih =>
    intro s hg hl ⟨gs, hgs, hgo⟩
    have hgl : g < s.gens.size := (Array.getElem?_eq_some_iff.mp hgs).1
    refine codeAny_builtin F.entry_extend_loop ?_
    rw [Around.under_plainId F.plain_extend_loop _]
    show wpAny _ A.in1 (pyNext (.ref a) >>= _) _ _ s
    refine wpAny_bind (wpAny_gsz (n := g + 1) hgl (gx_next (A := A.in1) hh hl hd (hgen _ hg) hgs hgo (fun v s₁ gs' ys o y H hb hn rv _ hSR hS hSn I hgp _ hk => ?_) fun s₁ ys o H hn _ hSR hS hSn I hgp hdn h' hk => ?_))
    · intro hsz
      obtain ⟨acc, c, rfl, r⟩ := hSR
      have hlen : acc.toList.length = ys.length := r.length.symm
      have hasz : acc.size < sizeLine := by
        rw [sizeLine_eq]
        show acc.size < line
        have e : acc.toList.length = acc.size := Array.length_toList
        have e2 : acc.size = ys.length := e.symm.trans hlen
        rw [e2]
        generalize ys.length = q at hn
        omega
      show wpAny _ A.in1 (updateSeq S (·.push v) >>= _) _ _ _
      refine wpAny_bind ?_
      refine wpAny_updateSeq hS rfl (wpAny_pure ⟨plainId_quiet F.plain_extend_loop _, ?_⟩) (Nat.le_of_lt hasz) (by show (acc.push v).size ≤ sizeLine + 1; rw [Array.size_push]; omega)
      have keep3 : ∀ b o, b ≠ S → s₁.heap.get? b = some o → (s₁.heap.update S (Obj.mapSeq (·.push v))).get? b = some o := fun b o hbS e => (Heap.get?_update_other _ _ (Ne.symm hbS)).trans e
      have hsz1 : g < s₁.gens.size := by
        have q : (s₁.setGen g gs').gens.size = s₁.gens.size := setGen_size _ _ _
        have hsz' : g + 1 ≤ (s₁.setGen g gs').gens.size := hsz
        omega
      have hsl : Slp (lstCon S done) (ys ++ [y]) s₁ ({ s₁.setGen g gs' with heap := s₁.heap.update S (Obj.mapSeq (·.push v)) }.setGen g .running) :=
        ⟨rfl, allBare_setGen (s := s₁.setGen g gs') (allBare_setGen I.bare hb) rfl, keep3, _, Heap.get?_update_self _ hS rfl, acc.push v, _, rfl, by rw [Array.toList_push]; exact r.append (.cons rv .nil)⟩
      obtain ⟨m', hm, hgo'⟩ := hk trivial _ hsl
      cases hm
      have hcs : S ≠ cStatics := fun z => by
        obtain ⟨mc, hns, _⟩ := I.nolimit
        obtain ⟨o, es, ep, ho, hd, _⟩ := hns
        rw [← z] at ho
        have hS' : s₁.heap.get? S = some (lstObj acc c) := hS
        rw [hS'] at ho
        cases ho
        cases hd
      refine ih { s₁.setGen g gs' with heap := s₁.heap.update S (Obj.mapSeq (·.push v)) } (keep3 a go hSa (hgp (a, go) (List.mem_singleton.mpr rfl))) ?_ ⟨gs', setGen_at hsz1, hgo'⟩
      obtain ⟨mc, hns, hnn⟩ := I.nolimit
      exact ⟨mc, hns.at' fun o e => keep3 _ o (Ne.symm hcs) e, hnn⟩
    · intro hsz
      obtain ⟨acc, c, rfl, r⟩ := hSR
      exact wpAny_pure (hend _ acc c H ys (hk _ _ hS) r (by omega) hSn (I.call' (ch := []) rfl (Un.kept hk) (I.hok.kept hk) (allBare_setGen I.bare rfl) fun b z => by simp at z) hdn)
end
end Z

set_option Elab.async false
set_option linter.all false
set_option maxRecDepth 100000
set_option maxHeartbeats 2000000
/-! Z16: tuple, list of a generator expression. -/
namespace Z
open PySem PySem.Spec PyProof.Rows L2 GenW
section
variable {X : Cx} {pins : List (Addr × Obj)} {σ : L2.St} {A : Around} {E : Value → Shared → Prop} {s : Shared} {k : Nat}
/-- all of it in a list -/
theorem collect_gx {R : Hp → Con → Prop} {done : List V → Hp → Prop} {u : Value} {Q : List Value → Shared → Prop} (h : GxMade X pins σ k R u s) (hr : Room (k + 1) A) (hfr : A.frames = some X.stack) (hR : ∀ H1 S, H1 S = none → R H1 (lstCon S done))
    (hQ : ∀ s' ys vals H', Vals ys vals → ys.length ≤ line → Inv X pins σ H' s' → done ys H' → Q vals s') : wpAny (model X.prog X.w) A (collect u) Q E s := by
  obtain ⟨a, g, go, c, H1, rfl, hgo, hgen, hgc, hgs, I, hn, hlt, wake⟩ := h
  have hg := hgen _ hgo
  have hSa : a ≠ s.heap.objs.size := Nat.ne_of_lt hlt
  have hSI : s.heap.objs.size ≠ a := Ne.symm hSa
  unfold collect
  refine wpAny_bind (wpAny_runValue (codeAny_builtin F.entry_proto_collect ?_))
  rw [Around.under_plainId F.plain_proto_collect _]
  show wpAny _ A.in1 (newList [] >>= fun l => again (.builtin "list.__iadd__" ⟨[l, .ref a], []⟩)) _ _ s
  refine wpAny_bind (wpAny_newObj_type ?_)
  refine wpAny_pure ⟨plainId_quiet F.plain_list_iadd _, codeAny_builtin F.entry_list_iadd ?_⟩
  rw [Around.under_plainId F.plain_list_iadd _]
  show wpAny _ A.in1 (Builtin.List.listExtendWith (.ref s.heap.objs.size) (.ref a) (.ref s.heap.objs.size)) _ _ _
  have k1 : ∀ b o, s.heap.get? b = some o → (s.heap.push { cls := .type "list", data := .seq ([] : List Value).toArray }).get? b = some o := fun b o e => Heap.get?_push_of_some _ e
  have gty : ∀ {h : Heap}, (∀ b o, s.heap.get? b = some o → h.get? b = some o) → h.IsGen a g := fun {h} q => hg.keeps q
  unfold Builtin.List.listExtendWith
  refine wpAny_bind (wpAny_typeOf (Heap.IsGen.typeIs (s := { s with heap := _ }) (gty k1)) ?_)
  have h1 : Builtin.List.listSameRef (.ref s.heap.objs.size) (.ref a) = false := by simp [Builtin.List.listSameRef, hSI]
  have h2 : (Value.type "generator" == Value.type "list") = false := by decide
  have h3 : (Value.type "generator" == Value.type "tuple") = false := by decide
  simp only [h1, h2, h3, Bool.or_false, Bool.false_eq_true, if_false]
  refine wpAny_bind (wpAny_pyIter_gen (s := { s with heap := _ }) (gty k1) ?_)
  refine wpAny_bind (wpAny_holding ?_)
  unfold Builtin.List.listLengthHint
  refine wpAny_bind (wpAny_specialOf (Heap.IsGen.typeIs (s := { s with heap := _ }) (gty k1)) F.gen_no_len ?_)
  show wpAny _ A.in1 (specialOf (Value.ref a) (Str.ofString "__length_hint__") >>= _) _ _ _
  refine wpAny_bind (wpAny_specialOf (Heap.IsGen.typeIs (s := { s with heap := _ }) (gty k1)) F.gen_no_hint ?_)
  refine wpAny_pure ?_
  show wpAny _ A.in1 (rule "list.extend.makes-room" >>= fun _ => Builtin.List.listTouch (.ref s.heap.objs.size) >>= fun _ =>
    again (.builtin "list.extend.loop" ⟨[.ref s.heap.objs.size, .ref a, .ref s.heap.objs.size], []⟩)) _ _ _
  refine wpAny_bind (wpAny_rule ?_)
  have hS1 : (s.heap.push { cls := .type "list", data := .seq ([] : List Value).toArray }).get? s.heap.objs.size = some { cls := .type "list", data := .seq ([] : List Value).toArray } := Heap.get?_push_size _ rfl
  refine wpAny_bind ?_
  show wpAny _ A.in1 (updateSeq s.heap.objs.size (·.push .none) >>= fun _ => updateSeq s.heap.objs.size (·.pop)) _ _ _
  refine wpAny_bind (wpAny_updateSeq hS1 rfl ?_)
  have hS2 := Heap.get?_update_self (Obj.mapSeq (·.push Value.none)) hS1 rfl
  refine wpAny_updateSeq (hz := by seq_fits) hS2 rfl ?_
  have hS3 := Heap.get?_update_self (Obj.mapSeq (·.pop)) hS2 rfl
  have oth : ∀ b o, b ≠ s.heap.objs.size → (s.heap.push { cls := .type "list", data := .seq ([] : List Value).toArray }).get? b = some o →
      (((s.heap.push { cls := .type "list", data := .seq ([] : List Value).toArray }).update s.heap.objs.size (Obj.mapSeq (·.push Value.none))).update s.heap.objs.size (Obj.mapSeq (·.pop))).get? b = some o :=
    fun b o hb e => (Heap.get?_update_other _ _ (Ne.symm hb)).trans ((Heap.get?_update_other _ _ (Ne.symm hb)).trans e)
  have k4 : ∀ b o, s.heap.get? b = some o → (((s.heap.push { cls := .type "list", data := .seq ([] : List Value).toArray }).update s.heap.objs.size (Obj.mapSeq (·.push Value.none))).update s.heap.objs.size (Obj.mapSeq (·.pop))).get? b = some o :=
    fun b o e => oth b o (Nat.ne_of_lt (Heap.lt_size e)) (k1 b o e)
  refine wpAny_pure ⟨plainId_quiet F.plain_extend_loop _, ?_⟩
  refine gx_drain (A := A) (g := g) (go := go) (done := done) (X := X) (pins := pins) (σ := σ) hr.hd hr.depth hSa hgen (fun s' acc cc H' ys e1 e2 e3 e4 e5 e6 => ?_) line _ (k4 _ _ hgo) (I.nolimit.keeps k4) ⟨.fresh c, hgs, goes_fresh ?_⟩
  · show wpAny _ A (load s.heap.objs.size >>= _) _ _ s'
    refine wpAny_bind (wpAny_load e1 ?_)
    exact wpAny_pure (hQ s' ys acc.toList H' e2 e3 e5 e6)
  · refine wake A.in1.in1 (lstCon s.heap.objs.size done) [(a, go)] _ ⟨hr.hd, ?_, ?_⟩ hfr (.inr ⟨Nat.le_refl _, rfl⟩) (fun ys o ⟨acc, cc, e, _⟩ v z => by rw [e] at z; cases z) (fun b o _ e => k4 b o e) ⟨_, hS3, _, _, rfl, .nil⟩ rfl (allBare_setGen (s := { s with heap := _ }) I.bare rfl) (hR H1 _ (I.hok.fresh (Nat.le_refl _)))
    · have := hr.dp
      show A.depth + 3 * k + 5 < _
      omega
    · have := hr.un
      show A.units + 1 + 1 + 16 * k + 200 < _
      omega
/-- tuple(g) -/
theorem call_tuple_gx {R : Hp → Con → Prop} {u : Value} {Q : VK} {E : Value → Shared → Prop} (h : GxMade X pins σ k R u s) (hr : Room (k + 2) A) (hfr : A.frames = some X.stack)
    (hR : ∀ H1 S, H1 S = none → R H1 (lstCon S fun ys H => ∀ t, H t = none → Q (.ref t) (upd H t (.tup ys)))) :
    wpAny (model X.prog X.w) A (call (.type "tuple") [u]) (EP X pins σ Q) E s := by
  obtain ⟨a, g, go, c, H1, hu, hgo, hgen, h'⟩ := id h
  have hg := hgen _ hgo
  clear h'
  refine callType_codes (Q₁ := fun obj s₁ => s₁.TypeIs obj "tuple" ∧ EP X pins σ Q obj s₁) F.called_tuple (F.typeCall_tuple_1 _) F.entry_object_init ?_ fun obj s₁ h₁ =>
    ⟨h₁.1, F.args_object_init_2 obj _, object_init_meets F.called_tuple.init.lookup F.called_tuple.made (by decide) X.prog X.w A.in1 _ s₁ ⟨h₁.1, rfl, h₁.2⟩⟩
  refine codeAny_of_tree ?_
  show wpAny _ A.in1.in1 (do checkBuiltinCall "tuple.__new__" ⟨[.type "tuple", u], []⟩; again (.builtin "tuple.__new__" ⟨[.type "tuple", u], []⟩)) _ _ s
  refine wpAny_bind (wpAny_of_eq (F.newCall_tuple_1 _) (wpAny_pure ⟨plainId_quiet F.plain_tuple_new _, codeAny_builtin F.entry_tuple_new ?_⟩))
  rw [Around.under_plainId F.plain_tuple_new _]
  have hsub := sub_tuple_self
  have hinit := init_tuple_lookup
  have hmh := madeHere_tuple
  have hTI : s.TypeIs u "generator" := by rw [hu]; exact hg.typeIs
  have hrr : Room (k + 1) A.in1.in1 := ⟨hr.hd, by have := hr.dp; show A.depth + 3 * (k + 1) + 5 < _; omega, by have := hr.un; show A.units + 1 + 1 + 16 * (k + 1) + 200 < _; omega⟩
  subst hu
  wp_walk using wpAny_typeOf hTI, collect_gx (done := fun ys H => ∀ t, H t = none → Q (.ref t) (upd H t (.tup ys))) h hrr hfr hR
  intro s' ys vals H' r hl I' hd
  show wpAny _ _ (Builtin.Tuple.tupleExact vals.toArray >>= fun v => ret v) _ _ _
  unfold Builtin.Tuple.tupleExact
  have hlen : vals.toArray.size ≤ sizeLine := by rw [List.size_toArray, ← r.length, sizeLine_eq]; exact hl
  refine wpAny_bind (wpAny_newObj_type ?_ hlen)
  refine wpAny_pure ?_
  refine ⟨⟨_, Heap.get?_push_size _ rfl, rfl⟩, .ref s'.heap.objs.size, upd H' s'.heap.objs.size (.tup ys), I'.laid (t' := s'.toks) (fun b o e => Heap.get?_push_of_some _ e) (Nat.le_refl _) ?_, rfl, hd _ (I'.hok.fresh (Nat.le_refl _))⟩
  exact ⟨by rw [sizeLine_eq]; exact hl, vals, r, ⟨_, Heap.get?_push_size _ rfl, rfl, _, rfl⟩⟩
end
end Z

set_option Elab.async false
set_option linter.all false
set_option maxRecDepth 100000
set_option maxHeartbeats 2000000
/-! Z17: generator expressions by values. -/
namespace Z
open PySem PySem.Spec PyProof.Rows L2 GenW
/-- only these values come -/
def mChk (ok : D → Bool) (a : ME) : ME := fun e s => (a e s).bind fun d s1 => if ok d then .ok d s1 else .bad
def okAny : D → Bool := fun _ => true
def okInt : D → Bool
  | .int _ => true
  | _ => false
/-- all that comes, then fin -/
def mGx (ok : D → Bool) (fin : List D → Sto → R D) (vs : List Nat) (t : Tg) (w : MW) (c : MB) (el : ME) : ME := fun e s => (w e s).bind fun src s1 => (lcS t c (mChk ok el) src (wipeE e vs) s1).bind fin
/-- any (st = true), all (st = false) -/
def qnT (st : Bool) (t : Tg) (c : MB) (el : ME) (d : D) (e : Env) (s : Sto) (k : Sto → R Bool) : R Bool := match t d e s with
  | some (e1, s1) => (c e1 s1).nx.bind fun b s2 => if b then (mB el e1 s2).nx.bind fun z s3 => if z == st then .ok st s3 else k s3 else k s2
  | none => .bad
def qnF (st : Bool) (t : Tg) (c : MB) (el : ME) : List D → Env → Sto → R Bool
  | [], _, s => .ok (!st) s
  | d :: ds, e, s => qnT st t c el d e s (qnF st t c el ds e)
def qnI (st : Bool) (src : Src) (t : Tg) (c : MB) (el : ME) : Nat → Nat → Env → Sto → R Bool
  | 0, _, _, _ => .bad
  | n + 1, i, e, s => match src.at i s with
    | some none => .ok (!st) s
    | some (some d) => qnT st t c el d e s (qnI st src t c el n (i + 1) e)
    | none => .bad
def qnS (st : Bool) (t : Tg) (c : MB) (el : ME) (src : Src) (e : Env) (s : Sto) : R Bool := match src with
  | .fix xs => if xs.length ≤ line then qnF st t c el xs e s else .bad
  | src => qnI st src t c el line 0 e s
def mQn (st : Bool) (vs : List Nat) (t : Tg) (w : MW) (c : MB) (el : ME) : ME := fun e s => (w e s).bind fun src s1 => (qnS st t c el src (wipeE e vs) s1).bind fun b s2 => .ok (.bl b) s2
section
variable {X : Cx} {p : Pl} {WX : L2.WX} {W W' : Wd} {H H' : Hp} {s : Sto}
/-- what the draining consumer is told -/
structure Drn (p : Pl) (C : Con) (ok : Z.D → Bool) : Prop where
  take : ∀ (W : Wd) (d : Z.D) (v : V) (ys : List V) (H : Hp), ok d = true → RelD p.K W d v → C.take ys v H
theorem lcT_gx {vs : List Nat} {t : Tg} {c : MB} {el : ME} {ok : Z.D → Bool} {d : Z.D} {v : V} {e : Env} {σ : L2.St} {k : Sto → R (List Z.D)} {fin : List Z.D → Sto → R Z.D} {W0 : Wd} {H0 : Hp} {EX : Nat → Hp → Prop} {Q : VK} {C : Con} {ys : List V} {ds : List Z.D} {st : Sto} {Nx : List V → Hp → Prop}
    (hC : Drn p C ok) (l : W0.le W) (f : Fr W0 W H0 H) (re : RelE p W e (wipe σ vs)) (rp : Rep p W st H) (rds : RelDs p.K W ds ys) (rv : RelD p.K W d v) (hz : ys.length < line)
    (q : Post p (RelD p.K) W0 H0 EX Q ((lcT t c (mChk ok el) d e st k).bind fun r s2 => fin (ds ++ r) s2))
    (hNx : ∀ H' ys' ds', ds'.length ≤ ds.length + 1 → (∃ W s, W0.le W ∧ Fr W0 W H0 H' ∧ RelE p W e (wipe σ vs) ∧ Rep p W s H' ∧ RelDs p.K W ds' ys' ∧ Post p (RelD p.K) W0 H0 EX Q ((k s).bind fun r s2 => fin (ds' ++ r) s2)) → Nx ys' H') :
    gTw p vs t v (wipe σ vs) H fun σ2 H2 => wipe σ2 vs = wipe σ vs ∧ tB p W0x c σ2 H2 fun b H3 => if b = true then tE p W0x el σ2 H3 fun y H4 => ys.length < line ∧ C.take ys y H4 ∧ (C.go ys y H4 → Nx (ys ++ [y]) H4) else Nx ys H3 := by
  refine ⟨W, e, st, d, re, rp, rv, ?_⟩
  unfold lcT at q
  cases h : t d e st with
  | none => rw [h] at q; exact q.elim
  | some x =>
    obtain ⟨e1, s1⟩ := x
    rw [h] at q
    intro W1 H1 σ1 l1 f1 rp1 re1 hw
    refine ⟨hw.trans (wipe_wipe vs), W1, e1, s1, re1, rp1, ?_⟩
    have q1 : Post p (RelD p.K) W0 H0 EX Q (((c e1 s1).nx.bind fun b s2 => if b then (mChk ok el e1 s2).nx.bind fun v s3 => (k s3).bind fun r s4 => .ok (v :: r) s4 else k s2).bind fun r s2 => fin (ds ++ r) s2) := q
    cases hc : c e1 s1 with
    | bad => rw [hc] at q1; exact q1.elim
    | exc i s2 => rw [hc] at q1; exact q1.elim
    | ok b s2 =>
      rw [hc] at q1
      intro W2 H2 v2 l2 f2 rp2 rv2
      subst rv2
      cases v2 with
      | false =>
        rw [if_neg Bool.false_ne_true]
        exact hNx H2 ys ds (by omega) ⟨W2, s2, (l.trans l1).trans l2, (f.trans f1).trans f2, (re.mono l1).mono l2, rp2, (rds.mono l1).mono l2, q1⟩
      | true =>
        rw [if_pos rfl]
        refine ⟨W2, e1, s2, re1.mono l2, rp2, ?_⟩
        have q2 : Post p (RelD p.K) W0 H0 EX Q (((mChk ok el e1 s2).nx.bind fun v s3 => (k s3).bind fun r s4 => .ok (v :: r) s4).bind fun r s2 => fin (ds ++ r) s2) := q1
        unfold mChk at q2
        cases he : el e1 s2 with
        | bad => rw [he] at q2; exact q2.elim
        | exc i s3 => rw [he] at q2; exact q2.elim
        | ok y s3 =>
          rw [he] at q2
          have q3 : Post p (RelD p.K) W0 H0 EX Q ((((if ok y then .ok y s3 else .bad : R Z.D).nx).bind fun v s3 => (k s3).bind fun r s4 => .ok (v :: r) s4).bind fun r s2 => fin (ds ++ r) s2) := q2
          intro W3 H3 v3 l3 f3 rp3 rv3
          cases hok : ok y with
          | false => rw [hok] at q3; exact q3.elim
          | true =>
            rw [hok] at q3
            have ll := ((l.trans l1).trans l2).trans l3
            refine ⟨hz, hC.take W3 y v3 ys H3 hok rv3, fun _ => hNx H3 (ys ++ [v3]) (ds ++ [y]) (by rw [List.length_append]; simp) ⟨W3, s3, ll, (((f.trans f1).trans f2).trans f3), (((re.mono l1).mono l2).mono l3), rp3, (((rds.mono l1).mono l2).mono l3).append (relDs_cons rv3 relDs_nil), ?_⟩⟩
            have q4 : Post p (RelD p.K) W0 H0 EX Q (((k s3).bind fun r s4 => (.ok (y :: r) s4 : R (List Z.D))).bind fun r s2 => fin (ds ++ r) s2) := q3
            cases hk : k s3 with
            | bad => rw [hk] at q4; exact q4
            | exc i s4 => rw [hk] at q4; exact q4
            | ok r s4 =>
              rw [hk] at q4
              have q5 : Post p (RelD p.K) W0 H0 EX Q (fin (ds ++ (y :: r)) s4) := q4
              show Post p (RelD p.K) W0 H0 EX Q (fin ((ds ++ [y]) ++ r) s4)
              rw [List.append_assoc]
              exact q5
/-- the turns of one that is drained -/
theorem gx_turns {ok : Z.D → Bool} {fin : List Z.D → Sto → R Z.D} {vs : List Nat} {t : Tg} {c : MB} {el : ME} {tt : TT} {src : Src} {J : It} {e : Env} {σ : L2.St} {C : Con} {Q : VK} {EX : Nat → Hp → Prop} {s1 : Sto} (htt : ∀ σ H Q, tB p W0x c σ H Q → tt σ H Q) (hC : Drn p C ok)
    (hd : ∀ (W' : Wd) (s' : Sto) (H' : Hp) (ds : List Z.D) (ys : List V), Rep p W' s' H' → RelDs p.K W' ds ys → Post p (RelD p.K) W' H' EX Q (fin ds s') → C.done ys H')
    (so : SrcOk p W src J) (re : RelE p W e σ) (rp : Rep p W s1 H) (q : Post p (RelD p.K) W H EX Q ((lcS t c (mChk ok el) src (wipeE e vs) s1).bind fin)) :
    ∃ Wn m, GxTurns J (gTw p vs t) tt (tE p W0x el) vs σ C Wn ∧ Wn 0 m [] H := by
  have re1 := relE_wipe re vs
  have fixup : ∀ {v : V} {Ha : Hp} {ys : List V} {Nx : List V → Hp → Prop}, (gTw p vs t v (wipe σ vs) Ha fun σ2 H2 => wipe σ2 vs = wipe σ vs ∧ tB p W0x c σ2 H2 fun b H3 => if b = true then tE p W0x el σ2 H3 fun y H4 => ys.length < line ∧ C.take ys y H4 ∧ (C.go ys y H4 → Nx (ys ++ [y]) H4) else Nx ys H3) →
      gTw p vs t v (wipe σ vs) Ha fun σ2 H2 => wipe σ2 vs = wipe σ vs ∧ tt σ2 H2 fun b H3 => if b = true then tE p W0x el σ2 H3 fun y H4 => ys.length < line ∧ C.take ys y H4 ∧ (C.go ys y H4 → Nx (ys ++ [y]) H4) else Nx ys H3 := fun {v Ha ys Nx} ⟨Wa, ea, sa, da, g1, g2, g3, g4⟩ =>
    ⟨Wa, ea, sa, da, g1, g2, g3, PostT.impQ g4 fun σ2 H2 h hw => ⟨(h hw).1, htt _ _ _ (h hw).2⟩⟩
  have any : ∀ (n : Nat), n ≤ line → Post p (RelD p.K) W H EX Q ((lcI src t c (mChk ok el) n 0 (wipeE e vs) s1).bind fin) → ∃ Wn m, GxTurns J (gTw p vs t) tt (tE p W0x el) vs σ C Wn ∧ Wn 0 m [] H := fun n hn q2 => by
    refine ⟨fun i mm ys H' => mm + i ≤ line ∧ ∃ ds, ds.length ≤ i ∧ ∃ W' s', W.le W' ∧ Fr W W' H H' ∧ RelE p W' (wipeE e vs) (wipe σ vs) ∧ Rep p W' s' H' ∧ RelDs p.K W' ds ys ∧ Post p (RelD p.K) W H EX Q ((lcI src t c (mChk ok el) mm i (wipeE e vs) s').bind fun r s2 => fin (ds ++ r) s2), n, ?_,
      hn, [], Nat.le_refl _, W, s1, Wd.le.refl W, Fr.refl W H, re1, rp, relDs_nil, q2⟩
    rintro i mm ys H' ⟨hm, ds, hds, W', s', l', fr', re', rp', rds, q3⟩
    cases mm with
    | zero => exact q3.elim
    | succ mm =>
      unfold lcI at q3
      have so' := so i W' s' H' l' rp'
      cases ha : src.at i s' with
      | none => rw [ha] at q3; exact q3.elim
      | some o =>
        rw [ha] at q3 so'
        cases o with
        | none =>
          have q4 : Post p (RelD p.K) W H EX Q (fin (ds ++ []) s') := q3
          rw [List.append_nil] at q4
          exact .inl ⟨so', hd W' s' H' ds ys rp' rds (Post.re l' fr' q4)⟩
        | some d =>
          obtain ⟨go, yl⟩ := so'
          refine .inr ⟨go, fun ys' H'' => ∃ ds, ds.length ≤ i + 1 ∧ ∃ W' s', W.le W' ∧ Fr W W' H H'' ∧ RelE p W' (wipeE e vs) (wipe σ vs) ∧ Rep p W' s' H'' ∧ RelDs p.K W' ds ys' ∧ Post p (RelD p.K) W H EX Q ((lcI src t c (mChk ok el) mm (i + 1) (wipeE e vs) s').bind fun r s2 => fin (ds ++ r) s2),
            fun ys' H'' h' => ⟨mm, Nat.lt_succ_self mm, by omega, h'⟩, fun x H2 y => fixup (Nx := (fun ys' H'' => ∃ ds, ds.length ≤ i + 1 ∧ ∃ W' s', W.le W' ∧ Fr W W' H H'' ∧ RelE p W' (wipeE e vs) (wipe σ vs) ∧ Rep p W' s' H'' ∧ RelDs p.K W' ds ys' ∧ Post p (RelD p.K) W H EX Q ((lcI src t c (mChk ok el) mm (i + 1) (wipeE e vs) s').bind fun r s2 => fin (ds ++ r) s2))) ?_⟩
          obtain ⟨W2, l2, f2, rp2, rv2⟩ := yl x H2 y
          exact lcT_gx (Nx := (fun ys' H'' => ∃ ds, ds.length ≤ i + 1 ∧ ∃ W' s', W.le W' ∧ Fr W W' H H'' ∧ RelE p W' (wipeE e vs) (wipe σ vs) ∧ Rep p W' s' H'' ∧ RelDs p.K W' ds ys' ∧ Post p (RelD p.K) W H EX Q ((lcI src t c (mChk ok el) mm (i + 1) (wipeE e vs) s').bind fun r s2 => fin (ds ++ r) s2))) (σ := σ) hC (l'.trans l2) (fr'.trans f2) (re'.mono l2) rp2 (rds.mono l2) rv2 (by rw [← rds.length]; omega) q3 fun H3 ys' ds' hl h => ⟨ds', by omega, h⟩
  cases src with
  | liv n => exact any line (Nat.le_refl _) q
  | enu a => exact any line (Nat.le_refl _) q
  | zip a b => exact any line (Nat.le_refl _) q
  | fix xs =>
    unfold lcS at q
    have q3 : Post p (RelD p.K) W H EX Q ((if xs.length ≤ line then lcF t c (mChk ok el) xs (wipeE e vs) s1 else .bad).bind fin) := q
    by_cases hz : xs.length ≤ line
    · rw [if_pos hz] at q3
      refine ⟨fun i mm ys H' => mm = xs.length - i ∧ i ≤ xs.length ∧ ∃ ds, ds.length ≤ i ∧ ∃ W' s', W.le W' ∧ Fr W W' H H' ∧ RelE p W' (wipeE e vs) (wipe σ vs) ∧ Rep p W' s' H' ∧ RelDs p.K W' ds ys ∧ Post p (RelD p.K) W H EX Q ((lcF t c (mChk ok el) (xs.drop i) (wipeE e vs) s').bind fun r s2 => fin (ds ++ r) s2), _, ?_,
        rfl, Nat.zero_le _, [], Nat.le_refl _, W, s1, Wd.le.refl W, Fr.refl W H, re1, rp, relDs_nil, q3⟩
      rintro i mm ys H' ⟨hm, hi2, ds, hds, W', s', l', fr', re', rp', rds, q4⟩
      have so' := so i W' s' H' l' rp'
      by_cases hl : i < xs.length
      · have e1 : (Src.fix xs).at i s' = some (some xs[i]) := by
          show some xs[i]? = _
          rw [List.getElem?_eq_getElem hl]
        rw [e1] at so'
        obtain ⟨go, yl⟩ := so'
        rw [List.drop_eq_getElem_cons hl] at q4
        refine .inr ⟨go, fun ys' H'' => ∃ ds, ds.length ≤ i + 1 ∧ ∃ W' s', W.le W' ∧ Fr W W' H H'' ∧ RelE p W' (wipeE e vs) (wipe σ vs) ∧ Rep p W' s' H'' ∧ RelDs p.K W' ds ys' ∧ Post p (RelD p.K) W H EX Q ((lcF t c (mChk ok el) (xs.drop (i + 1)) (wipeE e vs) s').bind fun r s2 => fin (ds ++ r) s2),
          fun ys' H'' h' => ⟨xs.length - (i + 1), by omega, rfl, by omega, h'⟩, fun x H2 y => fixup (Nx := (fun ys' H'' => ∃ ds, ds.length ≤ i + 1 ∧ ∃ W' s', W.le W' ∧ Fr W W' H H'' ∧ RelE p W' (wipeE e vs) (wipe σ vs) ∧ Rep p W' s' H'' ∧ RelDs p.K W' ds ys' ∧ Post p (RelD p.K) W H EX Q ((lcF t c (mChk ok el) (xs.drop (i + 1)) (wipeE e vs) s').bind fun r s2 => fin (ds ++ r) s2))) ?_⟩
        obtain ⟨W2, l2, f2, rp2, rv2⟩ := yl x H2 y
        exact lcT_gx (Nx := (fun ys' H'' => ∃ ds, ds.length ≤ i + 1 ∧ ∃ W' s', W.le W' ∧ Fr W W' H H'' ∧ RelE p W' (wipeE e vs) (wipe σ vs) ∧ Rep p W' s' H'' ∧ RelDs p.K W' ds ys' ∧ Post p (RelD p.K) W H EX Q ((lcF t c (mChk ok el) (xs.drop (i + 1)) (wipeE e vs) s').bind fun r s2 => fin (ds ++ r) s2))) (σ := σ) hC (l'.trans l2) (fr'.trans f2) (re'.mono l2) rp2 (rds.mono l2) rv2 (by rw [← rds.length]; omega) q4 fun H3 ys' ds' hl h => ⟨ds', by omega, h⟩
      · have e1 : (Src.fix xs).at i s' = some none := by
          show some xs[i]? = _
          rw [List.getElem?_eq_none (by omega)]
        rw [e1] at so'
        rw [List.drop_eq_nil_of_le (by omega)] at q4
        have q5 : Post p (RelD p.K) W H EX Q (fin (ds ++ []) s') := q4
        rw [List.append_nil] at q5
        exact .inl ⟨so', hd W' s' H' ds ys rp' rds (Post.re l' fr' q5)⟩
    · rw [if_neg hz] at q3
      exact q3.elim
/-- what the making wants, by the meaning -/
theorem t_gx {ok : Z.D → Bool} {fin : List Z.D → Sto → R Z.D} {vs : List Nat} {t : Tg} {w : MW} {c : MB} {el : ME} {tt : TT} {σ : L2.St} {H : Hp} {Q : VK} {P : Addr} {mkC : Addr → (List V → Hp → Prop) → Con} (hP : P ∈ p.tg) (hPl : ∀ q ∈ p.tl, q.1 ≠ P) (htt : ∀ σ H Q, tB p W0x c σ H Q → tt σ H Q) (hC : ∀ S done, Drn p (mkC S done) ok) (hdn : ∀ S done, (mkC S done).done = done)
    (done : List V → Hp → Prop) (hd : ∀ (W' : Wd) (s' : Sto) (H' : Hp) (ds : List Z.D) (ys : List V), Rep p W' s' H' → RelDs p.K W' ds ys → Post p (RelD p.K) W' H' (exW p WX σ) Q (fin ds s') → done ys H')
    (h : tE p WX (mGx ok fin vs t w c el) σ H Q) : tI p WX w σ H fun J H1 => GxR.TabG H1 P ∧ ∀ H2 C, GxR.Tabbed P H1 H2 → (∃ S, C = mkC S done) → ∃ Wn m, GxTurns J (gTw p vs t) tt (tE p W0x el) vs σ C Wn ∧ Wn 0 m [] H2 := by
  obtain ⟨W, e, s, re, rp, q⟩ := h
  refine ⟨W, e, s, re, rp, q.bind fun W1 H1 src J s1 l fr rp1 so q1 => ⟨rp1.tab.tg P hP, fun H2 C ht ⟨S, hCe⟩ => ?_⟩⟩
  subst hCe
  obtain ⟨f2, rp2⟩ := rp1.tabbed hP hPl ht
  exact gx_turns htt (hC S done) (fun W' s' H' ds ys a b c => by rw [hdn]; exact hd W' s' H' ds ys a b c) so (re.mono l) rp2 (Post.re (Wd.le.refl W1) f2 q1)
end
end Z

set_option Elab.async false
set_option linter.all false
set_option maxRecDepth 100000
set_option maxHeartbeats 2000000
/-! Z18: sum, any, all of a generator expression. -/
namespace Z
open PySem PySem.Spec PyProof.Rows L2 GenW
/-- the running sum -/
def sumCon (S : Addr) (done : List V → Hp → Prop) : Con := ⟨S, fun ys o => ∃ (ns : List Int) (t : Tok) (c : Nat), o = lstObj #[.int ns.sum t] c ∧ ys = ns.map V.int, fun _ y _ => ∃ i, y = .int i, fun _ _ _ => True, done⟩
/-- a question: it ends at the first st -/
def qnCon (st : Bool) (a : Addr) (go : Obj) (fin : Bool → Hp → Prop) : Con := ⟨a, fun _ o => o = go, fun _ y H => ∃ b, y = .bl b ∧ (b = st → fin st H), fun _ y _ => y = .bl (!st), fun _ H => fin (!st) H⟩
section
variable {X : Cx} {pins : List (Addr × Obj)} {σ : L2.St} {A : Around} {E : Value → Shared → Prop} {s : Shared} {k : Nat}
theorem noLimit_but {h h' : Heap} {S : Addr} {o : Obj} {v : Array Value} {c : Nat} (hl : h.NoLimit) (hS : h.get? S = some o) (hd : o.data = .seq v c) (hk : ∀ b o, b ≠ S → h.get? b = some o → h'.get? b = some o) : h'.NoLimit := by
  obtain ⟨mc, hns, hnn⟩ := hl
  refine ⟨mc, hns.at' fun o' e => hk _ o' (fun z => ?_) e, hnn⟩
  obtain ⟨o2, es, ep, ho, hd2, _⟩ := hns
  rw [z, hS] at ho
  cases ho
  rw [hd] at hd2
  cases hd2
theorem gx_sum {R : Result → Shared → Prop} {S a : Addr} {g : Nat} {go : Obj} {done : List V → Hp → Prop} (hh : A.handled = none) (hd : A.depth < recursionLimit) (hSa : a ≠ S) (hgen : ∀ h : Heap, h.get? a = some go → h.IsGen a g)
    (hend : ∀ s' (ns : List Int) t H', Inv X pins σ H' s' → done (ns.map V.int) H' → R (.ok (.ret (.int ns.sum t))) s') :
    ∀ (m : Nat) (s : Shared) (stage : Int) (ns : List Int) (tA : Tok) (c : Nat), (stage = 0 ∨ stage = 2) → s.heap.get? S = some (lstObj #[.int ns.sum tA] c) → s.heap.get? a = some go → s.heap.NoLimit →
      (∃ gs, s.gens[g]? = some gs ∧ gs.Goes (model X.prog X.w) A.in1.in1 (xR X pins σ (sumCon S done) [(a, go)]) (xItem X pins σ (sumCon S done) [(a, go)]) m (.send .none) (s.setGen g .running)) →
      codeAny (model X.prog X.w) A (.builtin "sum.loop" ⟨[.ref a, .ref S, rawInt stage, rawInt 0], []⟩) R s := by
  intro m
  induction m with
  | zero =>
    intro s stage ns tA c hst hS hg hl ⟨gs, hgs, hgo⟩
    refine codeAny_builtin F.entry_sum_loop ?_
    rw [Around.under_plainId F.plain_sum_loop _]
    show wpAny _ A.in1 (seqItems? (.ref S) >>= _) _ _ s
    refine wpAny_bind (wpAny_seqItems hS rfl ?_)
    show wpAny _ A.in1 (tryCatch (pyNext (.ref a)) _ >>= _) _ _ s
    refine wpAny_bind (wpAny_tryCatch (gx_next (A := A.in1) hh hl hd (hgen _ hg) hgs hgo (fun v s₁ gs' ys o y H hb hn rv h0 hSR hS1 hSn I hgp ⟨i, hi⟩ hk => ?_) fun s₁ ys o H hn h0 hSR hS1 hSn I hgp hdn h' hk => ?_))
    · subst hi
      obtain ⟨ns1, t1, c1, rfl, rfl⟩ := hSR
      have hsl : Slp (sumCon S done) (ns1.map V.int ++ [.int i]) s₁ { s₁ with heap := s₁.heap.update S (Obj.mapSeq fun _ => #[Value.int (ns1 ++ [i]).sum 0]) } :=
        ⟨rfl, I.bare, fun b o hb e => (Heap.get?_update_other _ _ (Ne.symm hb)).trans e, _, Heap.get?_update_self _ hS1 rfl, ns1 ++ [i], 0, _, rfl, by simp⟩
      obtain ⟨m, hm, _⟩ := hk trivial _ hsl
      exact absurd hm (Nat.succ_ne_zero m).symm
    · obtain ⟨ns1, t1, c1, rfl, rfl⟩ := hSR
      have h0' : s.heap.get? S = some (lstObj #[.int ns1.sum t1] c1) := h0
      rw [hS] at h0'
      have e : ns.sum = ns1.sum := by
        have := Option.some.inj h0'
        injection this with _ _ e2 _
        injection e2 with e3 _
        have e4 : ns.sum = ns1.sum ∧ tA = t1 := by simpa using (congrArg Array.toList e3)
        exact e4.1
      have q := hend { s₁.setGen g .finished with heap := h' } ns1 tA H (I.call' (ch := []) rfl (Un.kept hk) (I.hok.kept hk) (allBare_setGen I.bare rfl) fun b z => by simp at z) hdn
      rw [← e] at q
      exact wpAny_pure q
  | succ m ih =>
    intro s stage ns tA c hst hS hg hl ⟨gs, hgs, hgo⟩
    have hgl : g < s.gens.size := (Array.getElem?_eq_some_iff.mp hgs).1
    refine codeAny_builtin F.entry_sum_loop ?_
    rw [Around.under_plainId F.plain_sum_loop _]
    show wpAny _ A.in1 (seqItems? (.ref S) >>= _) _ _ s
    refine wpAny_bind (wpAny_seqItems hS rfl ?_)
    show wpAny _ A.in1 (tryCatch (pyNext (.ref a)) _ >>= _) _ _ s
    refine wpAny_bind (wpAny_tryCatch (wpAny_gsz (n := g + 1) hgl (gx_next (A := A.in1) hh hl hd (hgen _ hg) hgs hgo (fun v s₁ gs' ys o y H hb hn rv h0 hSR hS1 hSn I hgp ⟨i, hi⟩ hk => ?_) fun s₁ ys o H hn h0 hSR hS1 hSn I hgp hdn h' hk => ?_)))
    · intro hsz
      subst hi
      obtain ⟨ns1, t1, c1, rfl, rfl⟩ := hSR
      obtain ⟨t, rfl⟩ := rv
      have h0' : s.heap.get? S = some (lstObj #[.int ns1.sum t1] c1) := h0
      rw [hS] at h0'
      have e : ns.sum = ns1.sum := by
        have := Option.some.inj h0'
        injection this with _ _ e2 _
        injection e2 with e3 _
        have e4 : ns.sum = ns1.sum ∧ tA = t1 := by simpa using (congrArg Array.toList e3)
        exact e4.1
      have hS1' : s₁.heap.get? S = some (lstObj #[.int ns1.sum t1] c1) := hS1
      have hsz1 : g < s₁.gens.size := by
        have q : (s₁.setGen g gs').gens.size = s₁.gens.size := setGen_size _ _ _
        have hsz' : g + 1 ≤ (s₁.setGen g gs').gens.size := hsz
        omega
      have esum : (ns1 ++ [i]).sum = ns.sum + i := by rw [List.sum_append, e]; simp
      have fin : ∀ (stage' : Int), (stage' = 0 ∨ stage' = 2) → ∀ (tk : Nat) (tA' : Tok) (c' : Nat) (h' : Heap), h'.get? S = some (lstObj #[.int (ns.sum + i) tA'] c') → (∀ b o, b ≠ S → s₁.heap.get? b = some o → h'.get? b = some o) →
          codeAny (model X.prog X.w) A (.builtin "sum.loop" ⟨[.ref a, .ref S, rawInt stage', rawInt 0], []⟩) R { s₁.setGen g gs' with heap := h', toks := tk } := fun stage' hst' tk tA' c' h' hS' hk' => by
        have hsl : Slp (sumCon S done) (ns1.map V.int ++ [.int i]) s₁ ({ s₁.setGen g gs' with heap := h', toks := tk }.setGen g .running) :=
          ⟨rfl, allBare_setGen (s := { s₁.setGen g gs' with heap := h', toks := tk }) (allBare_setGen I.bare hb) rfl, hk', _, hS', ns1 ++ [i], tA', c', by rw [esum], by simp⟩
        obtain ⟨m', hm, hgo'⟩ := hk trivial _ hsl
        cases hm
        refine ih { s₁.setGen g gs' with heap := h', toks := tk } stage' (ns1 ++ [i]) tA' c' hst' (by rw [esum]; exact hS') (hk' a go hSa (hgp (a, go) (List.mem_singleton.mpr rfl))) (noLimit_but I.nolimit hS1' rfl hk') ⟨gs', setGen_at (s := { s₁ with heap := h', toks := tk }) hsz1, hgo'⟩
      have up : ∀ {h : Heap} {x : Array Value}, ∀ b o, b ≠ S → h.get? b = some o → (h.update S (Obj.mapSeq fun _ => x)).get? b = some o := fun {h x} b o hb e => (Heap.get?_update_other _ _ (Ne.symm hb)).trans e
      rcases hst with rfl | rfl
      · show wpAny _ A.in1 (if (_ : Bool) = true then (mkInt (ns.sum + i) >>= _) else _) _ _ _
        split
        · refine wpAny_bind (wpAny_mkInt ?_)
          show wpAny _ A.in1 (updateSeq S (fun _ => #[.int (ns.sum + i) _]) >>= _) _ _ _
          refine wpAny_bind ?_
          refine wpAny_updateSeq hS1' rfl (wpAny_pure ⟨plainId_quiet F.plain_sum_loop _, ?_⟩)
          exact fin 0 (.inl rfl) _ _ _ _ (Heap.get?_update_self _ hS1' rfl) up
        · refine wpAny_bind (wpAny_rule ?_)
          refine wpAny_bind (wpAny_attempt (wpAny_holding (PySem.P.add_int ?_)))
          show wpAny _ A.in1 (updateSeq S (fun _ => #[.int (ns.sum + i) _]) >>= _) _ _ _
          refine wpAny_bind ?_
          refine wpAny_updateSeq hS1' rfl ?_
          have hS2 := Heap.get?_update_self (Obj.mapSeq fun _ => #[Value.int (ns.sum + i) (s₁.setGen g gs').toks]) hS1' rfl
          refine wpAny_bind (wpAny_letGo ?_)
          refine wpAny_bind ?_
          refine wpAny_updateSeq hS2 rfl (wpAny_pure ⟨plainId_quiet F.plain_sum_loop _, ?_⟩)
          exact fin 2 (.inr rfl) _ _ _ _ (Heap.get?_update_self _ hS2 rfl) fun b o hb e => up b o hb (up b o hb e)
      · show wpAny _ A.in1 ((holding [Value.int i t] (binaryOp .Add (.int ns.sum tA) (.int i t))).attempt >>= _) _ _ _
        refine wpAny_bind (wpAny_attempt (wpAny_holding (PySem.P.add_int ?_)))
        show wpAny _ A.in1 (updateSeq S (fun _ => #[.int (ns.sum + i) _]) >>= _) _ _ _
        refine wpAny_bind ?_
        refine wpAny_updateSeq hS1' rfl ?_
        have hS2 := Heap.get?_update_self (Obj.mapSeq fun _ => #[Value.int (ns.sum + i) (s₁.setGen g gs').toks]) hS1' rfl
        refine wpAny_bind (wpAny_letGo ?_)
        refine wpAny_bind ?_
        refine wpAny_updateSeq hS2 rfl (wpAny_pure ⟨plainId_quiet F.plain_sum_loop _, ?_⟩)
        exact fin 2 (.inr rfl) _ _ _ _ (Heap.get?_update_self _ hS2 rfl) fun b o hb e => up b o hb (up b o hb e)
    · intro hsz
      obtain ⟨ns1, t1, c1, rfl, rfl⟩ := hSR
      have h0' : s.heap.get? S = some (lstObj #[.int ns1.sum t1] c1) := h0
      rw [hS] at h0'
      have e : ns.sum = ns1.sum := by
        have := Option.some.inj h0'
        injection this with _ _ e2 _
        injection e2 with e3 _
        have e4 : ns.sum = ns1.sum ∧ tA = t1 := by simpa using (congrArg Array.toList e3)
        exact e4.1
      have q := hend { s₁.setGen g .finished with heap := h' } ns1 tA H (I.call' (ch := []) rfl (Un.kept hk) (I.hok.kept hk) (allBare_setGen I.bare rfl) fun b z => by simp at z) hdn
      rw [← e] at q
      exact wpAny_pure q
/-- sum(g) -/
theorem call_sum_gx {R : Hp → Con → Prop} {u : Value} {Q : VK} {E : Value → Shared → Prop} (h : GxMade X pins σ k R u s) (hr : Room (k + 1) A) (hfr : A.frames = some X.stack)
    (hR : ∀ H1 S, H1 S = none → R H1 (sumCon S fun ys H => ∀ ns : List Int, ys = ns.map V.int → Q (.int ns.sum) H)) :
    wpAny (model X.prog X.w) A (call (.builtin "sum") [u]) (EP X pins σ Q) E s := by
  obtain ⟨a, g, go, c, H1, rfl, hgo, hgen, hgc, hgs, I, hn, hlt, wake⟩ := h
  have hg := hgen _ hgo
  refine call_function_tree F.kind_sum F.plain_sum F.entry_sum (F.args_sum1 _) ?_
  unfold Builtin.«sum»
  simp only [List.length_cons, List.length_nil]
  rw [if_neg (by decide)]
  refine wpAny_bind (wpAny_of_eq (show Builtin.Builtins.bindParams "sum" ["start"] 0 { } = pure [none] from rfl) ?_)
  refine wpAny_bind (wpAny_pyIter_gen hg ?_)
  refine wpAny_bind (wpAny_mkInt ?_)
  refine wpAny_bind (wpAny_pure ?_)
  simp only [List.forIn_cons, List.forIn_nil]
  refine wpAny_bind (wpAny_bind (wpAny_bind (wpAny_isInstance (T := "int") (b := false) (typeIs_int _ _ _) PySem.sub_int_str ?_)))
  simp only [Bool.false_eq_true, if_false]
  refine wpAny_pure (wpAny_bind (wpAny_bind (wpAny_isInstance (T := "int") (b := false) (typeIs_int _ _ _) PySem.sub_int_bytes ?_)))
  simp only [Bool.false_eq_true, if_false]
  refine wpAny_pure (wpAny_bind (wpAny_bind (wpAny_isInstance (T := "int") (b := false) (typeIs_int _ _ _) PySem.sub_int_bytearray ?_)))
  simp only [Bool.false_eq_true, if_false]
  refine wpAny_pure (wpAny_pure ?_)
  refine wpAny_bind (wpAny_newObj_type ?_)
  have hSa : a ≠ s.heap.objs.size := Nat.ne_of_lt hlt
  have k1 : ∀ b o, s.heap.get? b = some o → (s.heap.push { cls := .type "list", data := .seq ([Value.int 0 s.toks]).toArray }).get? b = some o := fun b o e => Heap.get?_push_of_some _ e
  have hS1 : (s.heap.push { cls := .type "list", data := .seq ([Value.int 0 s.toks]).toArray }).get? s.heap.objs.size = some (lstObj #[.int ([] : List Int).sum s.toks] 0) := Heap.get?_push_size _ rfl
  refine wpAny_pure ⟨plainId_quiet F.plain_sum_loop _, ?_⟩
  refine gx_sum (A := A) (S := s.heap.objs.size) (g := g) (go := go) (done := fun ys H => ∀ ns : List Int, ys = ns.map V.int → Q (.int ns.sum) H) (X := X) (pins := pins) (σ := σ) hr.hd hr.depth hSa hgen (fun s' ns t H' I' hd => ?_) line ({ s with heap := s.heap.push { cls := .type "list", data := .seq ([Value.int 0 s.toks]).toArray }, toks := s.toks + 1 } : Shared) 0 [] s.toks 0 (.inl rfl) hS1 (by exact k1 _ _ hgo) (by exact I.nolimit.keeps k1) ⟨.fresh c, hgs, goes_fresh ?_⟩
  · exact ⟨.int ns.sum, H', I', ⟨t, rfl⟩, hd ns rfl⟩
  · refine wake A.in1.in1 (sumCon s.heap.objs.size _) [(a, go)] _ ⟨hr.hd, ?_, ?_⟩ hfr (.inr ⟨Nat.le_refl _, rfl⟩) (fun ys o ⟨ns, t, cc, e, _⟩ v z => by rw [e] at z; cases z) (fun b o _ e => k1 b o e) ⟨_, hS1, [], _, _, rfl, rfl⟩ rfl (allBare_setGen (s := { s with heap := _ }) I.bare rfl) (hR H1 _ (I.hok.fresh (Nat.le_refl _)))
    · have := hr.dp
      show A.depth + 3 * k + 5 < _
      omega
    · have := hr.un
      show A.units + 1 + 1 + 16 * k + 200 < _
      omega
/-- any(g) (st = true), all(g) (st = false): the loop -/
theorem gx_any {R : Result → Shared → Prop} {a : Addr} {g : Nat} {go : Obj} {st : Bool} {fin : Bool → Hp → Prop} (hh : A.handled = none) (hd : A.depth < recursionLimit) (hgen : ∀ h : Heap, h.get? a = some go → h.IsGen a g)
    (hend : ∀ s' b H', Inv X pins σ H' s' → fin b H' → R (.ok (.ret (.bool b))) s') :
    ∀ (m : Nat) (s : Shared), s.heap.get? a = some go → s.heap.NoLimit →
      (∃ gs, s.gens[g]? = some gs ∧ gs.Goes (model X.prog X.w) A.in1.in1 (xR X pins σ (qnCon st a go fin) []) (xItem X pins σ (qnCon st a go fin) []) m (.send .none) (s.setGen g .running)) →
      codeAny (model X.prog X.w) A (.builtin (if st then "any.loop" else "all.loop") ⟨[.ref a], []⟩) R s := by
  intro m
  induction m with
  | zero =>
    intro s hg hl ⟨gs, hgs, hgo⟩
    have next : ∀ {Q : Option Value → Shared → Prop} {E : Value → Shared → Prop}, (∀ s₁ b H, Inv X pins σ H s₁ → (b = st → fin st H) → ∀ gs', gs'.bare = true → b = st → Q (some (.bool b)) (s₁.setGen g gs')) → (∀ s₁ H, Inv X pins σ H s₁ → fin (!st) H → ∀ h', (∀ b o, s₁.heap.get? b = some o → h'.get? b = some o) → Q none { s₁.setGen g .finished with heap := h' }) → wpAny (model X.prog X.w) A.in1 (pyNext (.ref a)) Q E s := fun {Q E} h1 h2 => by
      refine gx_next (A := A.in1) hh hl hd (hgen _ hg) hgs hgo (fun v s₁ gs' ys o y H hb hn rv h0 hSR hS1 hSn I hgp ⟨b, hy, hf⟩ hk => ?_) fun s₁ ys o H hn h0 hSR hS1 hSn I hgp hdn h' hk => h2 s₁ H I hdn h' hk
      subst hy
      have rv : v = .bool b := rv
      subst rv
      by_cases e : b = st
      · exact h1 s₁ b H I hf gs' hb e
      · have e2 : b = !st := by cases b <;> cases st <;> simp_all
        obtain ⟨m, hm, _⟩ := hk (by rw [e2]; rfl) s₁ ⟨rfl, I.bare, fun _ _ _ e => e, o, hS1, hSR⟩
        exact absurd hm (Nat.succ_ne_zero m).symm
    cases st with
    | true =>
      show codeAny (model X.prog X.w) A (.builtin "any.loop" ⟨[.ref a], []⟩) R s
      refine codeAny_builtin F.entry_any_loop ?_
      rw [Around.under_plainId F.plain_any_loop _]
      show wpAny _ A.in1 (pyNext (.ref a) >>= _) _ _ s
      refine wpAny_bind (next (fun s₁ b H I hf gs' hb e => ?_) fun s₁ H I hdn h' hk => ?_)
      · subst e
        refine wpAny_bind (wpAny_holding (wpAny_truthy_bool ?_))
        refine wpAny_bind (wpAny_letGo ?_)
        simp only [if_true]
        refine wpAny_bind (wpAny_rule (wpAny_pure ?_))
        exact hend _ true H (I.call' (ch := []) rfl (Un.kept fun _ _ e => e) I.hok (allBare_setGen I.bare hb) fun b z => by simp at z) (hf rfl)
      · refine wpAny_bind (wpAny_rule (wpAny_pure ?_))
        exact hend _ false H (I.call' (ch := []) rfl (Un.kept hk) (I.hok.kept hk) (allBare_setGen I.bare rfl) fun b z => by simp at z) hdn
    | false =>
      show codeAny (model X.prog X.w) A (.builtin "all.loop" ⟨[.ref a], []⟩) R s
      refine codeAny_builtin F.entry_all_loop ?_
      rw [Around.under_plainId F.plain_all_loop _]
      show wpAny _ A.in1 (pyNext (.ref a) >>= _) _ _ s
      refine wpAny_bind (next (fun s₁ b H I hf gs' hb e => ?_) fun s₁ H I hdn h' hk => ?_)
      · subst e
        refine wpAny_bind (wpAny_holding (wpAny_truthy_bool ?_))
        refine wpAny_bind (wpAny_letGo ?_)
        simp only [Bool.false_eq_true, if_false]
        refine wpAny_bind (wpAny_rule (wpAny_pure ?_))
        exact hend _ false H (I.call' (ch := []) rfl (Un.kept fun _ _ e => e) I.hok (allBare_setGen I.bare hb) fun b z => by simp at z) (hf rfl)
      · refine wpAny_bind (wpAny_rule (wpAny_pure ?_))
        exact hend _ true H (I.call' (ch := []) rfl (Un.kept hk) (I.hok.kept hk) (allBare_setGen I.bare rfl) fun b z => by simp at z) hdn
  | succ m ih =>
    intro s hg hl ⟨gs, hgs, hgo⟩
    have hgl : g < s.gens.size := (Array.getElem?_eq_some_iff.mp hgs).1
    have next : ∀ {Q : Option Value → Shared → Prop} {E : Value → Shared → Prop}, (∀ s₁ b H gs', Inv X pins σ H s₁ → gs'.bare = true → (b = st → fin st H) → (b = !st → codeAny (model X.prog X.w) A (.builtin (if st then "any.loop" else "all.loop") ⟨[.ref a], []⟩) R (s₁.setGen g gs')) → Q (some (.bool b)) (s₁.setGen g gs')) →
        (∀ s₁ H, Inv X pins σ H s₁ → fin (!st) H → ∀ h', (∀ b o, s₁.heap.get? b = some o → h'.get? b = some o) → Q none { s₁.setGen g .finished with heap := h' }) → wpAny (model X.prog X.w) A.in1 (pyNext (.ref a)) Q E s := fun {Q E} h1 h2 => by
      refine wpAny_mono (wpAny_gsz (n := g + 1) hgl (gx_next (Q := fun r s' => g + 1 ≤ s'.gens.size → Q r s') (A := A.in1) hh hl hd (hgen _ hg) hgs hgo (fun v s₁ gs' ys o y H hb hn rv h0 hSR hS1 hSn I hgp ⟨b, hy, hf⟩ hk hsz => ?_) fun s₁ ys o H hn h0 hSR hS1 hSn I hgp hdn h' hk hsz => h2 s₁ H I hdn h' hk)) (fun _ _ q => q) fun _ _ q => q
      subst hy
      have rv : v = .bool b := rv
      subst rv
      have hSR : o = go := hSR
      subst hSR
      have hsz1 : g < s₁.gens.size := by
        have q : (s₁.setGen g gs').gens.size = s₁.gens.size := setGen_size _ _ _
        have hsz' : g + 1 ≤ (s₁.setGen g gs').gens.size := hsz
        omega
      refine h1 s₁ b H gs' I hb hf fun e => ?_
      obtain ⟨m', hm, hgo'⟩ := hk (by rw [e]; rfl) ((s₁.setGen g gs').setGen g .running) ⟨rfl, allBare_setGen (s := s₁.setGen g gs') (allBare_setGen I.bare hb) rfl, fun _ _ _ e => e, o, hS1, rfl⟩
      cases hm
      exact ih (s₁.setGen g gs') hS1 I.nolimit ⟨gs', setGen_at hsz1, hgo'⟩
    cases st with
    | true =>
      show codeAny (model X.prog X.w) A (.builtin "any.loop" ⟨[.ref a], []⟩) R s
      refine codeAny_builtin F.entry_any_loop ?_
      rw [Around.under_plainId F.plain_any_loop _]
      show wpAny _ A.in1 (pyNext (.ref a) >>= _) _ _ s
      refine wpAny_bind (next (fun s₁ b H gs' I hb hf hgo => ?_) fun s₁ H I hdn h' hk => ?_)
      · refine wpAny_bind (wpAny_holding (wpAny_truthy_bool ?_))
        refine wpAny_bind (wpAny_letGo ?_)
        cases b with
        | true =>
          simp only [if_true]
          refine wpAny_bind (wpAny_rule (wpAny_pure ?_))
          exact hend _ true H (I.call' (ch := []) rfl (Un.kept fun _ _ e => e) I.hok (allBare_setGen I.bare hb) fun b z => by simp at z) (hf rfl)
        | false =>
          simp only [Bool.false_eq_true, if_false]
          exact wpAny_pure ⟨plainId_quiet F.plain_any_loop _, hgo rfl⟩
      · refine wpAny_bind (wpAny_rule (wpAny_pure ?_))
        exact hend _ false H (I.call' (ch := []) rfl (Un.kept hk) (I.hok.kept hk) (allBare_setGen I.bare rfl) fun b z => by simp at z) hdn
    | false =>
      show codeAny (model X.prog X.w) A (.builtin "all.loop" ⟨[.ref a], []⟩) R s
      refine codeAny_builtin F.entry_all_loop ?_
      rw [Around.under_plainId F.plain_all_loop _]
      show wpAny _ A.in1 (pyNext (.ref a) >>= _) _ _ s
      refine wpAny_bind (next (fun s₁ b H gs' I hb hf hgo => ?_) fun s₁ H I hdn h' hk => ?_)
      · refine wpAny_bind (wpAny_holding (wpAny_truthy_bool ?_))
        refine wpAny_bind (wpAny_letGo ?_)
        cases b with
        | false =>
          simp only [Bool.false_eq_true, if_false]
          refine wpAny_bind (wpAny_rule (wpAny_pure ?_))
          exact hend _ false H (I.call' (ch := []) rfl (Un.kept fun _ _ e => e) I.hok (allBare_setGen I.bare hb) fun b z => by simp at z) (hf rfl)
        | true =>
          simp only [if_true]
          exact wpAny_pure ⟨plainId_quiet F.plain_all_loop _, hgo rfl⟩
      · refine wpAny_bind (wpAny_rule (wpAny_pure ?_))
        exact hend _ true H (I.call' (ch := []) rfl (Un.kept hk) (I.hok.kept hk) (allBare_setGen I.bare rfl) fun b z => by simp at z) hdn
theorem call_qn_gx {st : Bool} {R : Hp → Con → Prop} {u : Value} {Q : VK} {E : Value → Shared → Prop} (h : GxMade X pins σ k R u s) (hr : Room (k + 1) A) (hfr : A.frames = some X.stack)
    (hR : ∀ H1 a go, R H1 (qnCon st a go fun b H => Q (.bl b) H)) :
    wpAny (model X.prog X.w) A (call (.builtin (if st then "any" else "all")) [u]) (EP X pins σ Q) E s := by
  obtain ⟨a, g, go, c, H1, rfl, hgo, hgen, hgc, hgs, I, hn, hlt, wake⟩ := h
  have hg := hgen _ hgo
  have loop : codeAny (model X.prog X.w) A (.builtin (if st then "any.loop" else "all.loop") ⟨[.ref a], []⟩) (fun r s' => match r with | .ok (.ret v) => EP X pins σ Q v s' | .ok _ => False | .error e => E e s') s := by
    refine gx_any (A := A) (g := g) (go := go) (fin := fun b H => Q (.bl b) H) (X := X) (pins := pins) (σ := σ) hr.hd hr.depth hgen (fun s' b H' I' hf => ⟨.bl b, H', I', rfl, hf⟩) line s hgo I.nolimit ⟨.fresh c, hgs, goes_fresh ?_⟩
    refine wake A.in1.in1 (qnCon st a go _) [] _ ⟨hr.hd, ?_, ?_⟩ hfr (.inl ⟨rfl, rfl⟩) (fun ys o e v z => by
      have e : o = go := e
      rw [e] at z
      exact hgc v z) (fun b o _ e => e) ⟨go, hgo, rfl⟩ rfl (allBare_setGen I.bare rfl) (hR H1 a go)
    · have := hr.dp
      show A.depth + 3 * k + 5 < _
      omega
    · have := hr.un
      show A.units + 1 + 1 + 16 * k + 200 < _
      omega
  cases st with
  | true =>
    refine call_function_tree F.kind_any F.plain_any F.entry_any (F.args_any1 _) ?_
    unfold Builtin.«any»
    refine wpAny_bind (m := oneArg "any" _) (wpAny_pure ?_)
    refine wpAny_bind (wpAny_pyIter_gen hg ?_)
    exact wpAny_pure ⟨plainId_quiet F.plain_any_loop _, loop⟩
  | false =>
    refine call_function_tree F.kind_all F.plain_all F.entry_all (F.args_all1 _) ?_
    unfold Builtin.«all»
    refine wpAny_bind (m := oneArg "all" _) (wpAny_pure ?_)
    refine wpAny_bind (wpAny_pyIter_gen hg ?_)
    exact wpAny_pure ⟨plainId_quiet F.plain_all_loop _, loop⟩
end
end Z

set_option Elab.async false
set_option linter.all false
set_option maxRecDepth 100000
set_option maxHeartbeats 2000000
/-! Z19: questions of generator expressions, by values; the rules. -/
namespace Z
open PySem PySem.Spec PyProof.Rows L2 GenW
section
variable {X : Cx} {p : Pl} {WX : L2.WX} {W W' : Wd} {H H' : Hp} {s : Sto}
def bQ (b : Bool) (s : Sto) : R Z.D := .ok (.bl b) s
theorem qnT_ok {st : Bool} {vs : List Nat} {t : Tg} {c : MB} {el : ME} {d : Z.D} {v : V} {e : Env} {σ : L2.St} {k : Sto → R Bool} {W0 : Wd} {H0 : Hp} {EX : Nat → Hp → Prop} {Q : VK} {C : Con} {ys : List V} {s0 : Sto} {Nx : List V → Hp → Prop} {a : Addr} {go : Obj}
    (hC : C = qnCon st a go fun b H => Q (.bl b) H) (l : W0.le W) (f : Fr W0 W H0 H) (re : RelE p W e (wipe σ vs)) (rp : Rep p W s0 H) (rv : RelD p.K W d v) (hz : ys.length < line)
    (q : Post p (RelD p.K) W0 H0 EX Q ((qnT st t c el d e s0 k).bind bQ))
    (hNx : ∀ H' ys', ys'.length ≤ ys.length + 1 → (∃ W s, W0.le W ∧ Fr W0 W H0 H' ∧ RelE p W e (wipe σ vs) ∧ Rep p W s H' ∧ Post p (RelD p.K) W0 H0 EX Q ((k s).bind bQ)) → Nx ys' H') :
    gTw p vs t v (wipe σ vs) H fun σ2 H2 => wipe σ2 vs = wipe σ vs ∧ tB p W0x c σ2 H2 fun b H3 => if b = true then tE p W0x el σ2 H3 fun y H4 => ys.length < line ∧ C.take ys y H4 ∧ (C.go ys y H4 → Nx (ys ++ [y]) H4) else Nx ys H3 := by
  subst hC
  refine ⟨W, e, s0, d, re, rp, rv, ?_⟩
  unfold qnT at q
  cases h : t d e s0 with
  | none => rw [h] at q; exact q.elim
  | some x =>
    obtain ⟨e1, s1⟩ := x
    rw [h] at q
    intro W1 H1 σ1 l1 f1 rp1 re1 hw
    refine ⟨hw.trans (wipe_wipe vs), W1, e1, s1, re1, rp1, ?_⟩
    have q1 : Post p (RelD p.K) W0 H0 EX Q (((c e1 s1).nx.bind fun b s2 => if b then (mB el e1 s2).nx.bind fun z s3 => if z == st then .ok st s3 else k s3 else k s2).bind bQ) := q
    cases hc : c e1 s1 with
    | bad => rw [hc] at q1; exact q1.elim
    | exc i s2 => rw [hc] at q1; exact q1.elim
    | ok b s2 =>
      rw [hc] at q1
      intro W2 H2 v2 l2 f2 rp2 rv2
      subst rv2
      cases v2 with
      | false =>
        rw [if_neg Bool.false_ne_true]
        exact hNx H2 ys (by omega) ⟨W2, s2, (l.trans l1).trans l2, (f.trans f1).trans f2, (re.mono l1).mono l2, rp2, q1⟩
      | true =>
        rw [if_pos rfl]
        refine ⟨W2, e1, s2, re1.mono l2, rp2, ?_⟩
        have q2 : Post p (RelD p.K) W0 H0 EX Q (((mB el e1 s2).nx.bind fun z s3 => if z == st then .ok st s3 else k s3).bind bQ) := q1
        unfold mB at q2
        cases he : el e1 s2 with
        | bad => rw [he] at q2; exact q2.elim
        | exc i s3 => rw [he] at q2; exact q2.elim
        | ok y s3 =>
          rw [he] at q2
          intro W3 H3 v3 l3 f3 rp3 rv3
          cases y with
          | bl z =>
            have q3 : Post p (RelD p.K) W0 H0 EX Q ((if z == st then .ok st s3 else k s3).bind bQ) := q2
            cases relD_bl rv3
            have ll := ((l.trans l1).trans l2).trans l3
            have ff := ((f.trans f1).trans f2).trans f3
            refine ⟨hz, ⟨z, rfl, fun e => ?_⟩, fun e => ?_⟩
            · subst e
              rw [if_pos (by simp)] at q3
              exact q3 W3 H3 _ ll ff rp3 rel_bl
            · have e : V.bl z = .bl (!st) := e
              cases e
              rw [if_neg (by cases st <;> simp)] at q3
              exact hNx H3 _ (by rw [List.length_append]; simp) ⟨W3, s3, ll, ff, ((re.mono l1).mono l2).mono l3, rp3, q3⟩
          | _ => exact q2.elim
theorem qn_turns {st : Bool} {vs : List Nat} {t : Tg} {c : MB} {el : ME} {tt : TT} {src : Src} {J : It} {e : Env} {σ : L2.St} {C : Con} {Q : VK} {EX : Nat → Hp → Prop} {s1 : Sto} {a : Addr} {go : Obj} (htt : ∀ σ H Q, tB p W0x c σ H Q → tt σ H Q) (hC : C = qnCon st a go fun b H => Q (.bl b) H)
    (so : SrcOk p W src J) (re : RelE p W e σ) (rp : Rep p W s1 H) (q : Post p (RelD p.K) W H EX Q ((qnS st t c el src (wipeE e vs) s1).bind bQ)) :
    ∃ Wn m, GxTurns J (gTw p vs t) tt (tE p W0x el) vs σ C Wn ∧ Wn 0 m [] H := by
  have re1 := relE_wipe re vs
  have fixup : ∀ {v : V} {Ha : Hp} {ys : List V} {Nx : List V → Hp → Prop}, (gTw p vs t v (wipe σ vs) Ha fun σ2 H2 => wipe σ2 vs = wipe σ vs ∧ tB p W0x c σ2 H2 fun b H3 => if b = true then tE p W0x el σ2 H3 fun y H4 => ys.length < line ∧ C.take ys y H4 ∧ (C.go ys y H4 → Nx (ys ++ [y]) H4) else Nx ys H3) →
      gTw p vs t v (wipe σ vs) Ha fun σ2 H2 => wipe σ2 vs = wipe σ vs ∧ tt σ2 H2 fun b H3 => if b = true then tE p W0x el σ2 H3 fun y H4 => ys.length < line ∧ C.take ys y H4 ∧ (C.go ys y H4 → Nx (ys ++ [y]) H4) else Nx ys H3 := fun {v Ha ys Nx} ⟨Wa, ea, sa, da, g1, g2, g3, g4⟩ =>
    ⟨Wa, ea, sa, da, g1, g2, g3, PostT.impQ g4 fun σ2 H2 h hw => ⟨(h hw).1, htt _ _ _ (h hw).2⟩⟩
  have dn : ∀ {W' H' s'} {ys : List V}, W.le W' → Fr W W' H H' → Rep p W' s' H' → Post p (RelD p.K) W H EX Q ((.ok (!st) s' : R Bool).bind bQ) → C.done ys H' := fun {W' H' s' ys} l f r q => by
    subst hC
    exact q W' H' _ l f r rel_bl
  have any : ∀ (n : Nat), n ≤ line → Post p (RelD p.K) W H EX Q ((qnI st src t c el n 0 (wipeE e vs) s1).bind bQ) → ∃ Wn m, GxTurns J (gTw p vs t) tt (tE p W0x el) vs σ C Wn ∧ Wn 0 m [] H := fun n hn q2 => by
    refine ⟨fun i mm ys H' => mm + i ≤ line ∧ ys.length ≤ i ∧ ∃ W' s', W.le W' ∧ Fr W W' H H' ∧ RelE p W' (wipeE e vs) (wipe σ vs) ∧ Rep p W' s' H' ∧ Post p (RelD p.K) W H EX Q ((qnI st src t c el mm i (wipeE e vs) s').bind bQ), n, ?_,
      hn, Nat.le_refl _, W, s1, Wd.le.refl W, Fr.refl W H, re1, rp, q2⟩
    rintro i mm ys H' ⟨hm, hys, W', s', l', fr', re', rp', q3⟩
    cases mm with
    | zero => exact q3.elim
    | succ mm =>
      unfold qnI at q3
      have so' := so i W' s' H' l' rp'
      cases ha : src.at i s' with
      | none => rw [ha] at q3; exact q3.elim
      | some o =>
        rw [ha] at q3 so'
        cases o with
        | none => exact .inl ⟨so', dn l' fr' rp' q3⟩
        | some d =>
          obtain ⟨go', yl⟩ := so'
          refine .inr ⟨go', fun ys' H'' => ys'.length ≤ i + 1 ∧ ∃ W' s', W.le W' ∧ Fr W W' H H'' ∧ RelE p W' (wipeE e vs) (wipe σ vs) ∧ Rep p W' s' H'' ∧ Post p (RelD p.K) W H EX Q ((qnI st src t c el mm (i + 1) (wipeE e vs) s').bind bQ),
            fun ys' H'' h' => ⟨mm, Nat.lt_succ_self mm, by omega, h'⟩, fun x H2 y => fixup (Nx := fun ys' H'' => ys'.length ≤ i + 1 ∧ ∃ W' s', W.le W' ∧ Fr W W' H H'' ∧ RelE p W' (wipeE e vs) (wipe σ vs) ∧ Rep p W' s' H'' ∧ Post p (RelD p.K) W H EX Q ((qnI st src t c el mm (i + 1) (wipeE e vs) s').bind bQ)) ?_⟩
          obtain ⟨W2, l2, f2, rp2, rv2⟩ := yl x H2 y
          exact qnT_ok (Nx := fun ys' H'' => ys'.length ≤ i + 1 ∧ ∃ W' s', W.le W' ∧ Fr W W' H H'' ∧ RelE p W' (wipeE e vs) (wipe σ vs) ∧ Rep p W' s' H'' ∧ Post p (RelD p.K) W H EX Q ((qnI st src t c el mm (i + 1) (wipeE e vs) s').bind bQ)) (σ := σ) hC (l'.trans l2) (fr'.trans f2) (re'.mono l2) rp2 rv2 (by omega) q3 fun H3 ys' hl h => ⟨by omega, h⟩
  cases src with
  | liv n => exact any line (Nat.le_refl _) q
  | enu a => exact any line (Nat.le_refl _) q
  | zip a b => exact any line (Nat.le_refl _) q
  | fix xs =>
    unfold qnS at q
    have q3 : Post p (RelD p.K) W H EX Q ((if xs.length ≤ line then qnF st t c el xs (wipeE e vs) s1 else .bad).bind bQ) := q
    by_cases hz : xs.length ≤ line
    · rw [if_pos hz] at q3
      refine ⟨fun i mm ys H' => mm = xs.length - i ∧ i ≤ xs.length ∧ ys.length ≤ i ∧ ∃ W' s', W.le W' ∧ Fr W W' H H' ∧ RelE p W' (wipeE e vs) (wipe σ vs) ∧ Rep p W' s' H' ∧ Post p (RelD p.K) W H EX Q ((qnF st t c el (xs.drop i) (wipeE e vs) s').bind bQ), _, ?_,
        rfl, Nat.zero_le _, Nat.le_refl _, W, s1, Wd.le.refl W, Fr.refl W H, re1, rp, q3⟩
      rintro i mm ys H' ⟨hm, hi2, hys, W', s', l', fr', re', rp', q4⟩
      have so' := so i W' s' H' l' rp'
      by_cases hl : i < xs.length
      · have e1 : (Src.fix xs).at i s' = some (some xs[i]) := by
          show some xs[i]? = _
          rw [List.getElem?_eq_getElem hl]
        rw [e1] at so'
        obtain ⟨go', yl⟩ := so'
        rw [List.drop_eq_getElem_cons hl] at q4
        refine .inr ⟨go', fun ys' H'' => ys'.length ≤ i + 1 ∧ ∃ W' s', W.le W' ∧ Fr W W' H H'' ∧ RelE p W' (wipeE e vs) (wipe σ vs) ∧ Rep p W' s' H'' ∧ Post p (RelD p.K) W H EX Q ((qnF st t c el (xs.drop (i + 1)) (wipeE e vs) s').bind bQ),
          fun ys' H'' h' => ⟨xs.length - (i + 1), by omega, rfl, by omega, h'⟩, fun x H2 y => fixup (Nx := fun ys' H'' => ys'.length ≤ i + 1 ∧ ∃ W' s', W.le W' ∧ Fr W W' H H'' ∧ RelE p W' (wipeE e vs) (wipe σ vs) ∧ Rep p W' s' H'' ∧ Post p (RelD p.K) W H EX Q ((qnF st t c el (xs.drop (i + 1)) (wipeE e vs) s').bind bQ)) ?_⟩
        obtain ⟨W2, l2, f2, rp2, rv2⟩ := yl x H2 y
        exact qnT_ok (Nx := fun ys' H'' => ys'.length ≤ i + 1 ∧ ∃ W' s', W.le W' ∧ Fr W W' H H'' ∧ RelE p W' (wipeE e vs) (wipe σ vs) ∧ Rep p W' s' H'' ∧ Post p (RelD p.K) W H EX Q ((qnF st t c el (xs.drop (i + 1)) (wipeE e vs) s').bind bQ)) (σ := σ) hC (l'.trans l2) (fr'.trans f2) (re'.mono l2) rp2 rv2 (by omega) q4 fun H3 ys' hl h => ⟨by omega, h⟩
      · have e1 : (Src.fix xs).at i s' = some none := by
          show some xs[i]? = _
          rw [List.getElem?_eq_none (by omega)]
        rw [e1] at so'
        rw [List.drop_eq_nil_of_le (by omega)] at q4
        exact .inl ⟨so', dn l' fr' rp' q4⟩
    · rw [if_neg hz] at q3
      exact q3.elim
/-! ### the rules -/
/-- what stays the same for a def's generator expressions -/
structure GxH (X : Cx) (p : Pl) (c P : Addr) (scope : Scope) (own : List (Str × Nat)) : Prop where
  hd : X.A.depth < recursionLimit
  hc : X.calm = true
  nd : X.N.Nodup
  tb : GxR.TabB X.base X.mg c P
  code : X.env.code = .ref c
  ok : GxOk X.N X.env.scope scope own
  tg : P ∈ p.tg
  tl : ∀ q ∈ p.tl, q.1 ≠ P
/-- what the parts are -/
structure GxE (X : Cx) (p : Pl) (WX : L2.WX) (k : Nat) (scope : Scope) (own : List (Str × Nat)) (tg iter elt : Expr) (ifs : List Expr) (t : Tg) (w : MW) (c : MB) (tt : TT) (el : ME) : Prop where
  hi : PI X tg iter (tI p WX w)
  hg : ∀ (A : Around) (s : Shared) (H : Hp) (L : Addr) (cd : Value) (fp : List Addr), Room k (A.deeper (gxEnv X scope L cd)) → PG (gxCx X A s H (gxEnv X scope L cd) fp) tg (gTw p (own.map (·.2)) t)
  ht : ∀ (A : Around) (s : Shared) (H : Hp) (L : Addr) (cd : Value) (fp : List Addr), Room k (A.deeper (gxEnv X scope L cd)) → PTs (gxCx X A s H (gxEnv X scope L cd) fp) ifs tt
  htt : ∀ σ H Q, tB p W0x c σ H Q → tt σ H Q
  he : ∀ (A : Around) (s : Shared) (H : Hp) (L : Addr) (cd : Value) (fp : List Addr), Room k (A.deeper (gxEnv X scope L cd)) → PE (gxCx X A s H (gxEnv X scope L cd) fp) elt (tE p W0x el)
  hs : ∀ v, genFold iter X.env v = pure v
section
variable {k : Nat} {cc P : Addr} {scope : Scope} {own : List (Str × Nat)} {tg iter elt : Expr} {ifs : List Expr} {t : Tg} {w : MW} {c : MB} {tt : TT} {el : ME} {gpos pos pp : Pos}
theorem pe_qnG {st : Bool} {nm : Str} (G : GxH X p cc P scope own) (B : GxE X p WX k scope own tg iter elt ifs t w c tt el) (hr : Room (k + 3) X.A) (hg : Gl X nm) (hm : X.mg nm = none) (hv : bootBuiltins nm = some (.builtin (if st then "any" else "all"))) (hn : nm ≠ "__name__") (hdb : (nm == ("__debug__" : Str)) = false)
    (he : starEach [.GeneratorExp elt [⟨tg, iter, ifs, 0⟩] scope gpos] X.env = (false, eval (.GeneratorExp elt [⟨tg, iter, ifs, 0⟩] scope gpos) X.env) :: starEach [] X.env) (hpl : (backTo pos (starEach [] X.env)).any (·.1) = false) :
    PE X (.Call (.Name nm pp) [.GeneratorExp elt [⟨tg, iter, ifs, 0⟩] scope gpos] [] pos) (tE p WX (mQn st (own.map (·.2)) t w c el)) := by
  refine ⟨fun pins s σ H Q I h => ?_⟩
  refine wpAny_Call_Name_kw (ld_blt I hg hm hv ?_ hn hdb)
  refine PyProof.Rows.callWith_builtin1 ?_ he hpl
  rw [he]
  show wpAny _ _ (spliced ((false, eval (.GeneratorExp elt [⟨tg, iter, ifs, 0⟩] scope gpos) X.env) :: backTo pos (starEach [] X.env))) _ _ s
  refine Calls.spliced_cons (gx_make (R := fun H1 C => ∃ a go, C = qnCon st a go fun b H => Q (.bl b) H) G.hd G.hc G.nd G.tb G.code G.ok B.hi B.hg B.ht B.he B.hs I ?_ fun u s' hm => Calls.spliced_nil ?_)
  · obtain ⟨W, e, s1, re, rp, q⟩ := h
    refine ⟨W, e, s1, re, rp, q.bind fun W1 H1 src J s2 l fr rp1 so q1 => ⟨rp1.tab.tg P G.tg, fun H2 C ht ⟨a, go, hC⟩ => ?_⟩⟩
    obtain ⟨f2, rp2⟩ := rp1.tabbed G.tg G.tl ht
    exact qn_turns B.htt hC so (re.mono l) rp2 (Post.re (Wd.le.refl W1) f2 q1)
  · exact call_qn_gx hm (hr.mono (by omega)) I.ok.frames fun H1 a go => ⟨a, go, rfl⟩
def finT : List Z.D → Sto → R Z.D := fun ds s => R.of (mkT ds s)
def finSum : List Z.D → Sto → R Z.D := fun ds s => match intsOf ds with
  | some ns => .ok (.int ns.sum) s
  | none => .bad
theorem pe_tupleG {nm : Str} (G : GxH X p cc P scope own) (B : GxE X p WX k scope own tg iter elt ifs t w c tt el) (hr : Room (k + 3) X.A) (hg : Gl X nm) (hm : X.mg nm = none) (hv : bootBuiltins nm = some (.type "tuple")) (hn : nm ≠ "__name__") (hdb : (nm == ("__debug__" : Str)) = false)
    (he : starEach [.GeneratorExp elt [⟨tg, iter, ifs, 0⟩] scope gpos] X.env = (false, eval (.GeneratorExp elt [⟨tg, iter, ifs, 0⟩] scope gpos) X.env) :: starEach [] X.env) (hpl : (backTo pos (starEach [] X.env)).any (·.1) = false) :
    PE X (.Call (.Name nm pp) [.GeneratorExp elt [⟨tg, iter, ifs, 0⟩] scope gpos] [] pos) (tE p WX (mGx okAny finT (own.map (·.2)) t w c el)) := by
  refine ⟨fun pins s σ H Q I h => ?_⟩
  refine wpAny_Call_Name_kw (ld_blt I hg hm hv ?_ hn hdb)
  refine PyProof.Rows.callWith_type1 ?_ he hpl
  rw [he]
  show wpAny _ _ (spliced ((false, eval (.GeneratorExp elt [⟨tg, iter, ifs, 0⟩] scope gpos) X.env) :: backTo pos (starEach [] X.env))) _ _ s
  refine Calls.spliced_cons (gx_make (R := fun H1 C => ∃ S, C = lstCon S fun ys H => ∀ t, H t = none → Q (.ref t) (upd H t (.tup ys))) G.hd G.hc G.nd G.tb G.code G.ok B.hi B.hg B.ht B.he B.hs I ?_ fun u s' hm => Calls.spliced_nil ?_)
  · exact t_gx (mkC := lstCon) G.tg G.tl B.htt (fun S done => ⟨fun _ _ _ _ _ _ _ => trivial⟩) (fun _ _ => rfl) _ (fun W' s' H' ds ys rp rds q t hn => mkT_ok rp q.of rds hn) h
  · exact call_tuple_gx hm (hr.mono (by omega)) I.ok.frames fun H1 S _ => ⟨S, rfl⟩
theorem pe_sumG {nm : Str} (G : GxH X p cc P scope own) (B : GxE X p WX k scope own tg iter elt ifs t w c tt el) (hr : Room (k + 3) X.A) (hg : Gl X nm) (hm : X.mg nm = none) (hv : bootBuiltins nm = some (.builtin "sum")) (hn : nm ≠ "__name__") (hdb : (nm == ("__debug__" : Str)) = false)
    (he : starEach [.GeneratorExp elt [⟨tg, iter, ifs, 0⟩] scope gpos] X.env = (false, eval (.GeneratorExp elt [⟨tg, iter, ifs, 0⟩] scope gpos) X.env) :: starEach [] X.env) (hpl : (backTo pos (starEach [] X.env)).any (·.1) = false) :
    PE X (.Call (.Name nm pp) [.GeneratorExp elt [⟨tg, iter, ifs, 0⟩] scope gpos] [] pos) (tE p WX (mGx okInt finSum (own.map (·.2)) t w c el)) := by
  refine ⟨fun pins s σ H Q I h => ?_⟩
  refine wpAny_Call_Name_kw (ld_blt I hg hm hv ?_ hn hdb)
  refine PyProof.Rows.callWith_builtin1 ?_ he hpl
  rw [he]
  show wpAny _ _ (spliced ((false, eval (.GeneratorExp elt [⟨tg, iter, ifs, 0⟩] scope gpos) X.env) :: backTo pos (starEach [] X.env))) _ _ s
  refine Calls.spliced_cons (gx_make (R := fun H1 C => ∃ S, C = sumCon S fun ys H => ∀ ns : List Int, ys = ns.map V.int → Q (.int ns.sum) H) G.hd G.hc G.nd G.tb G.code G.ok B.hi B.hg B.ht B.he B.hs I ?_ fun u s' hm => Calls.spliced_nil ?_)
  · refine t_gx (mkC := sumCon) G.tg G.tl B.htt (fun S done => ⟨fun W d v ys H hok rv => ?_⟩) (fun _ _ => rfl) _ (fun W' s' H' ds ys rp rds q ns hys => ?_) h
    · cases d with
      | int i => exact ⟨i, relD_int rv⟩
      | _ => cases hok
    · unfold finSum at q
      split at q
      · rename_i ns' hn'
        have e := intsOf_rel hn' rds
        rw [hys] at e
        have e2 : ns = ns' := List.map_inj_right (fun a b h => by cases h; rfl) |>.mp e
        subst e2
        exact q.same rp rel_int
      · exact q.elim
  · exact call_sum_gx hm (hr.mono (by omega)) I.ok.frames fun H1 S _ => ⟨S, rfl⟩
end
end
end Z

set_option Elab.async false
set_option linter.all false
set_option maxRecDepth 100000
set_option maxHeartbeats 2000000
/-! Y20: lambdas without parameters (captured names are the frame's own), and the def that tries one. -/
namespace Z
open PySem PySem.Spec PyProof.Rows L2
def noArgs : Arguments → Bool
  | ⟨[], [], none, [], [], none, []⟩ => true
  | _ => false
theorem noArgs_iff {a : Arguments} (h : noArgs a = true) : a = ⟨[], [], none, [], [], none, []⟩ := by
  unfold noArgs at h
  split at h
  · rfl
  · cases h
def mLam (li : LamI) : ME := fun _ s => .ok (.lam li) s
/-- what is tried: the class is caught -/
def toldR (catch_ : Nat → Option Bool) (ret : Str) : R D → R D
  | .ok d s => .ok d s
  | .exc c s => (match catch_ (c / 2) with | some true => .ok (.str ret) s | _ => .bad)
  | .bad => .bad
/-- told(f) -/
def mTold (catch_ : Nat → Option Bool) (ret : Str) (b : LamI → ME) (a : ME) : ME := fun e s => (a e s).bind fun d s1 => match d with
  | .lam li => toldR catch_ ret (b li e s1)
  | _ => .bad
/-- told(lambda: ..) -/
def mTold1 (catch_ : Nat → Option Bool) (ret : Str) (b : ME) : ME := fun e s => toldR catch_ ret (b e s)
theorem codeO_at {P : Program} {w : World} {H : Hp} {h : Heap} {c : Addr} {q : Str} (hok : HOk P w H h) (hc : H c = some (LamX.CodeO c q)) : ∃ (oc : Obj) (vs : Array Value) (t : Tok), h.get? c = some oc ∧ oc.data = .fields vs ∧ vs[1]? = some (.str q t) := (hok c _ hc).1
section
variable {X : Cx} {p : Pl} {WX : L2.WX} {pins : List (Addr × Obj)} {σ : L2.St} {H HZ : Hp} {s s1 : Shared}
/-- x() in the def that has got the lambda in its slot 0 -/
theorem act_lam {Ng : List Str} {qg : Str} {sg : Scope} {g f c' : Addr} {cdg pm ctv : Value} {li : LamI} {k : Nat} {a : Str} {pn : List (Addr × Obj)} {xe : Value → Shared → Prop} {W : L2.WX} {E : XK} {tb : TE} {p1 p2 : Pos}
    (I : Inv X pins σ H s) (L : LamX.LamS X.env.scope li.scope) (hq : li.qual = X.env.qual ++ "<lambda>") (hpa : li.params = ⟨[], [], none, [], [], none, []⟩)
    (tk : Takes ((cxOf C8.CX0 X.prog X.w X.K X.mg X.base Ng qg sg g cdg X.A X.stack s H C8.E0).tr pn xe) W) (hW : ∀ cls d σ' H', E cls d H' → W cls d σ' H') (hr : Room (k + 1) (X.A.deeper (envOfC qg sg s.heap.objs.size g cdg)))
    (hbody : ∀ (A : Around) (outer : List PySem.Env) (s : Shared) (H : Hp), Room k (A.deeper (LamX.lamEnv X li.scope s.heap.objs.size f c')) → PE (LamX.lamCx X A outer s H E li.scope f c') li.body tb)
    (hN : Ng[0]? = some a) (hv : Vis sg a) (hd : (a == ("__debug__" : Str)) = false) (hcd : (a == ("__classdict__" : Str)) = false) :
    PE ((cxOf C8.CX0 X.prog X.w X.K X.mg X.base Ng qg sg g cdg X.A X.stack s H C8.E0).tr pn xe) (.Call (.Name a p1) [] [] p2)
      (fun τ G Q => τ[0]? = some (some (.ref f)) ∧ G c' = some (LamX.CodeO c' li.qual) ∧ G f = some (LamO f li (cloFrom X.env.cells li.scope.names []) c' pm ctv) ∧ tb σ G Q) := by
  refine ⟨fun pinsZ sZ τ G Q IZ ⟨h0, hco, hlf, ht⟩ => ?_⟩
  refine wpAny_Call_Name_kw (thn ((pe_var (pos := p1) (i := 0) hN hv hd hcd).run pinsZ sZ τ G (fun v G1 => v = .ref f ∧ G1 = G) IZ ⟨.ref f, h0, rfl, rfl⟩) fun u s1 ⟨v, G1, I1, r1, ev, eG⟩ => ?_)
  subst ev eG
  obtain rfl : u = Value.ref f := r1
  have fo : s1.heap.get? f = some (PySem.W.kla_obj "<lambda>" li.qual li.params li.body li.scope (cloFrom X.env.cells li.scope.names []) pm c' ctv) := (I1.hok f _ hlf).1
  refine PySem.W.callWith_F0 ⟨_, _, _, _, fo⟩ ?_
  obtain ⟨oc, vs, t, hoc, hdc, hvc⟩ := codeO_at I1.hok hco
  have run : codeAny (model X.prog X.w) (X.A.deeper (envOfC qg sg s.heap.objs.size g cdg)) (.call (.ref f) ⟨[], []⟩) (CR (L2.CX X.prog X.w) (envOfC qg sg s.heap.objs.size g cdg :: X.stack) X.prog X.w G1 s1 Q E) s1 := by
    refine PySem.W.kla_callFunE hr.depth fo rfl L.co L.gen rfl ⟨c', oc, vs, t, rfl, hoc, hdc, hvc⟩ ?_
    rw [show bindArgs (PySem.W.kla_fn "<lambda>" li.qual li.params li.body li.scope (cloFrom X.env.cells li.scope.names []) pm (.ref c') ctv) ⟨[], []⟩ = pure [] by rw [hpa]; rfl]
    refine wpAny_pure (wpAny_newFunctionEnv (fun y hy => (L.own y hy).2) (fun y hy => absurd hy (by simp)) (fun h₁ hns hsb => ⟨I1.nolimit.fresh _ hsb, ?_⟩) L.kind)
    rw [hq]
    show codeAny _ _ (.expr li.body (LamX.lamEnv X li.scope s1.heap.objs.size f c')) _ _
    have J : Inv (LamX.lamCx X (X.A.deeper (envOfC qg sg s.heap.objs.size g cdg)) (envOfC qg sg s.heap.objs.size g cdg :: X.stack) s1 G1 E li.scope f c') [] σ G1 { s1 with heap := h₁, toks := s1.toks + ([] : List (Str × Value)).length } :=
      LamX.lam_start2 I L I1.env0 hr.hd I1.base hns fun b o e => hsb.extBut b o (Nat.ne_of_lt (Heap.lt_size e)) (Heap.get?_push_of_some _ e)
    refine PySem.W.kla_codeExpr (wpAny_mono ((hbody _ _ s1 G1 (hr.deeper _)).run [] _ _ G1 Q J ht) (fun v s' ⟨w', G', J', rv, q⟩ => ⟨w', G', J'.os, J'.bare, J'.base, J'.hok, rv, q⟩) fun e s' hq => hq)
  refine wpAny_call (codeAny_mono run fun r s' hq => ?_)
  cases r with
  | error e => exact passes_call tk hW pinsZ τ G1 s1 e s' I1 hq
  | ok fl =>
    cases fl with
    | ret u => exact I1.after hq
    | next => exact False.elim hq
    | brk => exact False.elim hq
    | cont => exact False.elim hq
/-- the def that tries what it got: try: return a() / except e: return ret -/
structure ToldF (X : Cx) (g CS : Addr) (ret : Str) : Prop where
  ex : ∃ (x a e : Str) (Ng : List Str) (sg : Scope) (pg : Arguments) (fd : FuncData) (j : Nat) (p1 p2 p3 p4 p5 p6 p7 p8 : Pos),
    FunD X.K x x pg [.Try [.Return (some (.Call (.Name a p1) [] [] p2)) p3] [.ExceptHandler (some (.Name e p4)) none [.Return (some (.Constant (.str ret) j p5)) p6] p7] [] [] p8] sg [] [] g fd ∧ FnScope Ng [a] sg ∧ L2.Binds X.K fd [a] [] ∧
      Ng[0]? = some a ∧ Vis sg a ∧ (a == ("__debug__" : Str)) = false ∧ (a == ("__classdict__" : Str)) = false ∧ sg.names.lookup e = some .globalImplicit ∧ X.mg e = some (.ref CS) ∧ (e == ("__debug__" : Str)) = false
theorem told_run {g CS f c' : Addr} {pm ctv : Value} {li : LamI} {ret : Str} {k : Nat} {m : ME} {Q : VK} (I : Inv X pins σ H s) (T : ToldF X g CS ret) (L : LamX.LamS X.env.scope li.scope) (hq : li.qual = X.env.qual ++ "<lambda>") (hpa : li.params = ⟨[], [], none, [], [], none, []⟩)
    (hr : Room (k + 2) X.A) (hf : H f = some (LamO f li (cloFrom X.env.cells li.scope.names []) c' pm ctv)) (hc : H c' = some (LamX.CodeO c' li.qual))
    (hbody : ∀ (A : Around) (outer : List PySem.Env) (s : Shared) (H : Hp) (E : XK) (f c' : Addr), Room k (A.deeper (LamX.lamEnv X li.scope s.heap.objs.size f c')) → PE (LamX.lamCx X A outer s H E li.scope f c') li.body (tE p (fun cls _ _ H => E cls none H) m))
    (h : tE p (fun cls _ _ H' => ∃ b, PySem.W.exmOne X.K cls (.ref CS) = some b ∧ (b = true → Q (.str ret) H') ∧ (b = false → False)) m σ H Q) : wpAny (model X.prog X.w) X.A (call (.ref g) [.ref f] []) (EP X pins σ Q) X.xe s := by
  obtain ⟨x, a, e, Ng, sg, pg, fd, j, p1, p2, p3, p4, p5, p6, p7, p8, F, Sg, hb, hNg, hva, hd, hcd, hge, hme, hde⟩ := T.ex
  obtain ⟨oc, od, dV, kV, doc, pm', an, cdv, ct, osl, rfl, lk, hcg, _, _⟩ := F.ex
  have run : codeAny (model X.prog X.w) X.A (.call (.ref g) ⟨[.ref f], []⟩) (CR C8.CX0 X.stack X.prog X.w H s Q C8.E0) s := by
    refine LamX.run_ofS (N := Ng) (ps := [a]) (us := [.ref f]) (vs := [.ref f]) lk hcg Sg hr I.env0 (hb s [.ref f] I.kIn rfl) (.cons rfl .nil) rfl fun hr' => ?_
    have h00 : ∀ f : Addr, (L2.start Ng [V.ref f])[0]? = some (some (V.ref f)) := fun f => rfl
    obtain ⟨t', ht', hq'⟩ := LamX.told_gives (X := X) (Ng := Ng) (x := x) (a := a) (e := e) (q := li.qual) (ret := ret) (sg := sg) (g := g) (CS := CS) (cdg := cdv) (j := j) (p1 := p1) (p2 := p2) (p3 := p3) (p4 := p4) (p5 := p5) (p6 := p6) (p7 := p7) (p8 := p8) hge hme hde h00 f c' s H Q
      (fun E G Q' => G f = some (LamO f li (cloFrom X.env.cells li.scope.names []) c' pm ctv) ∧ tE p (fun cls _ _ H => E cls none H) m σ G Q')
      (fun W pn xe E q1 q2 tk hW => act_lam I L hq hpa tk hW hr' (fun A outer s H hr2 => hbody A outer s H E f c' hr2) hNg hva hd hcd) hc ⟨hf, h⟩
    exact ⟨t', ht'.nox, hq'⟩
  refine wpAny_call (codeAny_mono run fun r s2 hq => ?_)
  cases r with
  | error e => exact (show False from hq).elim
  | ok fl =>
    cases fl with
    | ret u => exact I.after hq
    | next => exact False.elim hq
    | brk => exact False.elim hq
    | cont => exact False.elim hq
theorem told_post {catch_ : Nat → Option Bool} {ret : Str} {CS : Addr} {W : Wd} {EX : Nat → Hp → Prop} {Q : VK} {r : R D} (hs : ∀ c, catch_ c = some true → PySem.W.exmOne p.K (.ref (p.xa c)) (.ref CS) = some true) (q : Post p (RelD p.K) W H EX Q (toldR catch_ ret r)) :
    Post p (RelD p.K) W H (exW p (fun cls _ _ H' => ∃ b, PySem.W.exmOne p.K cls (.ref CS) = some b ∧ (b = true → Q (.str ret) H') ∧ (b = false → False)) σ) Q r := by
  cases r with
  | ok d s => exact q
  | exc c s =>
    have q' : Post p (RelD p.K) W H EX Q (match catch_ (c / 2) with | some true => .ok (.str ret) s | _ => .bad) := q
    split at q'
    · rename_i hc
      exact fun W' H' l fr rp => ⟨true, hs (c / 2) hc, fun _ => q' W' H' _ l fr rp rel_str, fun z => nomatch z⟩
    · exact q'.elim
  | bad => exact q
end
end Z

set_option Elab.async false
set_option linter.all false
set_option maxRecDepth 100000
set_option maxHeartbeats 2000000
/-! Z21: lambdas are made. -/
namespace Z
open PySem PySem.Spec PyProof.Rows L2
section
variable {X : Cx} {p : Pl} {WX : L2.WX} {pins : List (Addr × Obj)} {σ : L2.St} {H HZ : Hp} {s s1 : Shared} {W : Wd}
theorem lamO_ok {P : Program} {w : World} {H : Hp} {h : Heap} {f c' : Addr} {li : LamI} {cl : List (Str × Addr)} {pm ctv : Value} (hf : h.get? f = some (PySem.W.kla_obj "<lambda>" li.qual li.params li.body li.scope cl pm c' ctv)) : ObjOk P w H h f (LamO f li cl c' pm ctv) :=
  ⟨hf, ⟨_, hf⟩, fun h1 h2 e k => k _ e⟩
/-- what is newly known for good: the code object, the lambda -/
theorem rep_lam {st : Sto} {f c' : Addr} {li : LamI} {cl : List (Str × Addr)} {pm ctv : Value} {H1 : Hp} (rp : Rep p W st H1) (hc : H1 c' = some (LamX.CodeO c' li.qual)) (hf : H1 f = none) :
    ∃ W', W.le W' ∧ Fr W W' H1 (upd H1 f (LamO f li cl c' pm ctv)) ∧ Rep p W' st (upd H1 f (LamO f li cl c' pm ctv)) ∧ W'.fz f = some (LamO f li cl c' pm ctv) ∧ W'.fz c' = some (LamX.CodeO c' li.qual) := by
  obtain ⟨W1, l1, f1, r1, e1⟩ := rp.fresh (o := LamO f li cl c' pm ctv) hf (fun ps z => by cases z)
  have hcf : c' ≠ f := ne_of_none hc hf
  have hc1 : upd H1 f (LamO f li cl c' pm ctv) c' = some (LamX.CodeO c' li.qual) := by rw [upd_ne hcf]; exact hc
  have eqz : ∀ x, W1.fz c' = some x → x = LamX.CodeO c' li.qual := fun x e => by
    have q := r1.fz c' x e
    rw [hc1] at q
    exact (Option.some.inj q).symm
  have l2 : W1.le ⟨upd W1.fz c' (LamX.CodeO c' li.qual), W1.io, W1.lf⟩ := ⟨fun b x e => by
    show upd W1.fz c' _ b = some x
    by_cases z : b = c'
    · rw [z] at e ⊢; rw [upd_same, eqz x e]
    · rw [upd_ne z]; exact e, ⟨[], by simp⟩, rfl⟩
  have notSt : ∀ b, W1.fz b = none → upd W1.fz c' (LamX.CodeO c' li.qual) b ≠ none → b = c' := fun b e1 e2 => by
    by_cases z : b = c'
    · exact z
    · rw [upd_ne z] at e2; exact absurd e1 e2
  refine ⟨⟨upd W1.fz c' (LamX.CodeO c' li.qual), W1.io, W1.lf⟩, l1.trans l2, ⟨f1.keep, f1.sm, fun a ha => ?_, f1.io⟩, ⟨r1.tab, fun b x e => ?_, fun b ps e => ?_, r1.len, r1.nd, r1.tr, fun k ob b q1 q2 => ?_⟩, l2.fz _ _ e1, upd_same⟩
  · by_cases z : a = c'
    · rw [z]; exact .inr (.inr (.inr ⟨_, hc, rfl⟩))
    · have ha' : upd W1.fz c' (LamX.CodeO c' li.qual) a ≠ none := ha
      rw [upd_ne z] at ha'
      exact f1.new a ha'
  · have e' : upd W1.fz c' (LamX.CodeO c' li.qual) b = some x := e
    by_cases z : b = c'
    · rw [z, upd_same] at e'
      cases e'
      rw [z]; exact hc1
    · rw [upd_ne z] at e'; exact r1.fz b x e'
  · have e' : upd W1.fz c' (LamX.CodeO c' li.qual) b = some (.tbl ps) := e
    by_cases z : b = c'
    · rw [z, upd_same] at e'
      cases e'
    · rw [upd_ne z] at e'; exact r1.nt b ps e'
  · have q := r1.obs k ob b q1 q2
    have nz : ∀ o : HO, upd H1 f (LamO f li cl c' pm ctv) b = some o → isSt o = true → W1.fz b = none → upd W1.fz c' (LamX.CodeO c' li.qual) b = none := fun o ho hs hz => by
      by_cases z : b = c'
      · rw [z, hc1] at ho
        cases ho
        cases hs
      · rw [upd_ne z]; exact hz
    cases ob with
    | dead => trivial
    | lst ds =>
      obtain ⟨_, vs, h1, _⟩ := id q
      exact q.keep l2 rfl (nz _ h1 rfl)
    | dct kvs =>
      obtain ⟨_, vs, h1, _⟩ := id q
      exact q.keep l2 rfl (nz _ h1 rfl)
    | lck kvs =>
      obtain ⟨_, dx, vs, h1, _⟩ := id q
      exact q.keep l2 rfl (nz _ h1 rfl)
    | ins c fs =>
      obtain ⟨_, dx, vs, h1, _⟩ := id q
      exact q.keep l2 rfl (nz _ h1 rfl)
/-- a table of code objects of lambdas has grown -/
theorem rep_table {st : Sto} {P c' : Addr} {ps more : Array Value} {q : Str} (rp : Rep p W st H) (hP : H P = some (.tbl ps)) (n : H c' = none) (ht : LamX.Tabs p.tl (upd (upd H P (.tbl (ps ++ more))) c' (LamX.CodeO c' q))) (hg : ∀ b ∈ p.tg, b ≠ P) :
    Fr W W H (upd (upd H P (.tbl (ps ++ more))) c' (LamX.CodeO c' q)) ∧ Rep p W st (upd (upd H P (.tbl (ps ++ more))) c' (LamX.CodeO c' q)) := by
  have ke : ∀ b o, H b = some o → (∀ ps, o ≠ .tbl ps) → upd (upd H P (.tbl (ps ++ more))) c' (LamX.CodeO c' q) b = some o := fun b o e nt => by
    rw [upd_ne (ne_of_none e n), upd_ne (fun z => by rw [z, hP] at e; exact nt ps (Option.some.inj e).symm)]
    exact e
  have sm : ∀ b, H b ≠ none → upd (upd H P (.tbl (ps ++ more))) c' (LamX.CodeO c' q) b ≠ none := fun b hb => by
    by_cases z : b = c'
    · rw [z] at hb; exact absurd n hb
    · rw [upd_ne z]
      by_cases z2 : b = P
      · rw [z2, upd_same]; simp
      · rw [upd_ne z2]; exact hb
  refine ⟨⟨fun b o e _ nt => ke b o e nt, sm, fun a h => .inl h, fun a h => .inl h⟩, ⟨⟨ht, fun b hb => ?_⟩, fun a o e => ke a o (rp.fz a o e) fun ps z => rp.nt a ps (by rw [e, z]), rp.nt, rp.len, rp.nd, fun b hb => sm b (rp.tr b hb), fun k ob b q1 q2 => ?_⟩⟩
  · obtain ⟨qs, a1, a2⟩ := rp.tab.tg b hb
    exact ⟨qs, by rw [upd_ne (ne_of_none a1 n), upd_ne (hg b hb)]; exact a1, a2⟩
  · have q := rp.obs k ob b q1 q2
    cases ob with
    | dead => trivial
    | lst ds =>
      obtain ⟨z, vs, b1, b2⟩ := q
      exact ⟨z, vs, ke _ _ b1 (fun ps z => by cases z), b2⟩
    | dct kvs =>
      obtain ⟨z, vs, b1, b2⟩ := q
      exact ⟨z, vs, ke _ _ b1 (fun ps z => by cases z), b2⟩
    | lck kvs =>
      obtain ⟨z, dx, vs, b1, b2⟩ := q
      exact ⟨z, dx, vs, ke _ _ b1 (fun ps z => by cases z), b2⟩
    | ins c fs =>
      obtain ⟨z, dx, vs, b1, b2⟩ := q
      exact ⟨z, dx, vs, ke _ _ b1 (fun ps z => by cases z), b2⟩
def notStarX : Expr → Bool
  | .Starred .. => false
  | _ => true
/-- a lambda is made: what is asked of its form and of the maker's code object -/
structure LamF (X : Cx) (p : Pl) (li : LamI) (c P : Addr) : Prop where
  tb : LamX.TabB X.base X.mg c P
  code : X.env.code = .ref c
  mem : (P, li.qual) ∈ p.tl
  uni : ∀ q ∈ p.tl, q.1 = P → q.2 = li.qual
  tg : ∀ b ∈ p.tg, b ≠ P
  qual : li.qual = X.env.qual ++ "<lambda>"
  par : li.params = ⟨[], [], none, [], [], none, []⟩
  sc : LamX.LamS X.env.scope li.scope
theorem lam_mk {li : LamI} {c P : Addr} {pos : Pos} {st : Sto} {Q : Value → Shared → Prop} (F : LamF X p li c P) (I : Inv X pins σ H s) (rp : Rep p W st H)
    (h : ∀ (f c' : Addr) (pm ctv : Value) (W' : Wd) (H' : Hp) (s' : Shared), Inv X pins σ H' s' → W.le W' → Fr W W' H H' → Rep p W' st H' → W'.fz f = some (LamO f li (cloFrom X.env.cells li.scope.names []) c' pm ctv) → W'.fz c' = some (LamX.CodeO c' li.qual) → Q (.ref f) s') :
    wpAny (model X.prog X.w) X.A (eval (.Lambda li.params li.body li.scope pos) X.env) Q X.xe s := by
  have hfree := F.sc.has I.ok
  obtain ⟨ps, hP, ht, ha⟩ := rp.tab.tl _ F.mem
  have hP : H P = some (.tbl ps) := hP
  refine PySem.W.kla_eval (by rw [F.par]; rfl) ?_
  rw [← F.qual]
  have bP : s.heap.BuiltinsAt X.mg P := F.tb.bm.keeps I.bk
  have hP' : s.heap.get? P = some { cls := .none, data := .fields ps } := I.hok P _ hP
  have hclos : closureFor li.scope X.env = pure (cloFrom X.env.cells li.scope.names []) := closure_ok hfree
  cases hc : codeAmong pos ps.toList with
  | none =>
    refine PySem.W.kla_makeFunction (mg := X.mg) (c := c) (P := P) (ps := ps) hclos I.ok.glob (I.mod.glob.keeps I.bk) F.code (F.tb.code.keeps I.bk) hP' ht hc F.tb.gP bP fun c' ctv h' tk hx hge hlt hrec htb => ?_
    obtain ⟨c2, oc, vs, t, e2, hoc, hd, hv⟩ := hrec
    cases e2
    have hsz : s.heap.objs.size ≤ h'.objs.size := Nat.le_trans hge (Nat.le_of_lt hlt)
    have nC : H c' = none := I.hok.fresh hge
    have I1 := LamX.inv_table (q := li.qual) (t' := tk) (more := #[rawInt pos.line, rawInt pos.col, .ref c']) (h' := h') I hP (fun b o hb e => hx b o hb e) htb hge ⟨oc, vs, t, hoc, hd, hv⟩
    have eL : (ps ++ #[rawInt pos.line, rawInt pos.col, .ref c']).toList = ps.toList ++ [rawInt pos.line, rawInt pos.col, .ref c'] := by simp
    have ht1 : LamX.Tabs p.tl (upd (upd H P (.tbl (ps ++ #[rawInt pos.line, rawInt pos.col, .ref c']))) c' (LamX.CodeO c' li.qual)) := fun q hq => by
      by_cases hb : q.1 = P
      · rw [F.uni q hq hb, hb]
        refine ⟨_, by rw [upd_ne (ne_of_none hP nC), upd_same], by rw [eL]; exact PySem.TriplesOk_snoc _ _ _ _ ht, fun p' cv hcv => ?_⟩
        rw [eL] at hcv
        rcases LamX.among_app _ ht hcv with z | z
        · obtain ⟨c0, e1, e2⟩ := ha p' cv z
          exact ⟨c0, e1, by rw [upd_ne (ne_of_none e2 nC), upd_ne (fun z => by rw [z, hP] at e2; exact LamX.codeO_ne ps (Option.some.inj e2).symm)]; exact e2⟩
        · exact ⟨c', z, upd_same⟩
      · obtain ⟨ps', a1, a2, a3⟩ := rp.tab.tl q hq
        refine ⟨ps', by rw [upd_ne (ne_of_none a1 nC), upd_ne hb]; exact a1, a2, fun p' cv hcv => ?_⟩
        obtain ⟨c0, e1, e2⟩ := a3 p' cv hcv
        exact ⟨c0, e1, by rw [upd_ne (ne_of_none e2 nC), upd_ne (fun z => by rw [z, hP] at e2; exact LamX.codeO_ne ps (Option.some.inj e2).symm)]; exact e2⟩
    obtain ⟨f1, rp1⟩ := rep_table (more := #[rawInt pos.line, rawInt pos.col, .ref c']) (q := li.qual) rp hP nC ht1 F.tg
    have nf : upd (upd H P (.tbl (ps ++ #[rawInt pos.line, rawInt pos.col, .ref c']))) c' (LamX.CodeO c' li.qual) h'.objs.size = none := I1.hok.fresh (Nat.le_refl _)
    have hf : (h'.push (PySem.W.kla_obj "<lambda>" li.qual li.params li.body li.scope (cloFrom X.env.cells li.scope.names []) ((X.mg "__name__").getD .none) c' ctv)).get? h'.objs.size = some (PySem.W.kla_obj "<lambda>" li.qual li.params li.body li.scope (cloFrom X.env.cells li.scope.names []) ((X.mg "__name__").getD .none) c' ctv) := Heap.get?_push_size _ rfl
    obtain ⟨W', l', f2, rp2, z1, z2⟩ := rep_lam (li := li) (cl := cloFrom X.env.cells li.scope.names []) (pm := (X.mg "__name__").getD .none) (ctv := ctv) rp1 upd_same nf
    exact h _ c' _ ctv W' _ _ (I1.laid (t' := tk) (fun b o e => Heap.get?_push_of_some _ e) (Nat.le_refl _) (lamO_ok hf)) l' (f1.trans f2) rp2 z1 z2
  | some cv =>
    obtain ⟨c', e1, hco⟩ := ha pos cv hc
    subst e1
    refine PySem.W.kla_makeFunctionHit (mg := X.mg) (c := c) (P := P) (ps := ps) hclos I.ok.glob (I.mod.glob.keeps I.bk) F.code (F.tb.code.keeps I.bk) hP' ht hc bP fun ctv h' tk hx hsz => ?_
    have I1 : Inv X pins σ H { s with heap := h', toks := tk } := I.kept hx
    have nf : H h'.objs.size = none := I.hok.fresh hsz
    have hf : (h'.push (PySem.W.kla_obj "<lambda>" li.qual li.params li.body li.scope (cloFrom X.env.cells li.scope.names []) ((X.mg "__name__").getD .none) c' ctv)).get? h'.objs.size = some (PySem.W.kla_obj "<lambda>" li.qual li.params li.body li.scope (cloFrom X.env.cells li.scope.names []) ((X.mg "__name__").getD .none) c' ctv) := Heap.get?_push_size _ rfl
    obtain ⟨W', l', f2, rp2, z1, z2⟩ := rep_lam (li := li) (cl := cloFrom X.env.cells li.scope.names []) (pm := (X.mg "__name__").getD .none) (ctv := ctv) rp hco nf
    exact h _ c' _ ctv W' _ _ (I1.laid (t' := tk) (fun b o e => Heap.get?_push_of_some _ e) (Nat.le_refl _) (lamO_ok hf)) l' f2 rp2 z1 z2
/-- lambda: .. -/
theorem r_lamMk {li : LamI} {c P : Addr} {pos : Pos} (F : LamF X p li c P) (hl : ∀ o, p.lfc o → ∀ cells, o = some cells → cloFrom X.env.cells li.scope.names [] = cloFrom cells li.scope.names []) : PE X (.Lambda li.params li.body li.scope pos) (tE p WX (mLam li)) :=
  ⟨fun pins s σ H Q I ⟨W, e, st, re, rp, q⟩ => lam_mk F I rp fun f c' pm ctv W' H' s' I' l fr rp' z1 z2 => ⟨.ref f, H', I', rfl, q W' H' _ l fr rp' (by
    unfold RelD
    exact ⟨f, _, c', pm, ctv, rfl, z1, z2, fun cells hc => hl _ re.lf cells (by rw [← l.lf]; exact hc)⟩)⟩⟩
/-- x(lambda: ..) -/
theorem r_told1 {li : LamI} {c P g CS : Addr} {x : Str} {ret : Str} {k : Nat} {b : ME} {catch_ : Nat → Option Bool} {lpos pp pos : Pos} (hK : p.K = X.K) (F : LamF X p li c P) (T : ToldF X g CS ret) (hg : Gl X x) (hm : X.mg x = some (.ref g)) (hk : PySem.W.keepIn X.K (.ref g) = true)
    (hs : ∀ c, catch_ c = some true → PySem.W.exmOne p.K (.ref (p.xa c)) (.ref CS) = some true) (hr : Room (k + 2) X.A) (hdb : (x == ("__debug__" : Str)) = false)
    (hbody : ∀ (A : Around) (outer : List PySem.Env) (s : Shared) (H : Hp) (E : XK) (f c' : Addr), Room k (A.deeper (LamX.lamEnv X li.scope s.heap.objs.size f c')) → PE (LamX.lamCx X A outer s H E li.scope f c') li.body (tE p (fun cls _ _ H => E cls none H) b)) :
    PE X (.Call (.Name x pp) [.Lambda li.params li.body li.scope lpos] [] pos) (tE p WX (mTold1 catch_ ret b)) := by
  refine ⟨fun pins s σ H Q I ⟨W, e, st, re, rp, q⟩ => ?_⟩
  refine wpAny_Call_Name_kw (ld_glob I hg hm ?_ hdb)
  refine PySem.W.callWith_K (h₀ := X.base) I.ok.mod.kin hk ?_ (by rfl) (by rfl)
  show wpAny _ _ (spliced ((false, eval (.Lambda li.params li.body li.scope lpos) X.env) :: backTo pos (starEach [] X.env))) _ _ s
  refine Calls.spliced_cons (lam_mk F I rp fun f c' pm ctv W' H' s' I' l fr rp' z1 z2 => ?_)
  refine Calls.spliced_nil ⟨I'.kIn, ?_⟩
  refine told_run (m := b) (p := p) I' T F.sc F.qual F.par hr (rp'.fz _ _ z1) (rp'.fz _ _ z2) hbody ?_
  rw [← hK]
  refine ⟨W', e, st, re.mono l, rp', told_post (EX := exW p WX σ) hs ?_⟩
  have q' : Post p (RelD p.K) W H (exW p WX σ) Q (toldR catch_ ret (b e st)) := q
  have q2 : Post p (RelD p.K) W H (exW p WX σ) Q ((R.ok () st : R Unit).bind fun _ st => toldR catch_ ret (b e st)) := q'
  generalize toldR catch_ ret (b e st) = r at q'
  cases r with
  | ok d s2 => exact fun W2 H2 v l2 f2 r2 rv => q' W2 H2 v (l.trans l2) (fr.trans f2) r2 rv
  | exc c s2 => exact fun W2 H2 l2 f2 r2 => q' W2 H2 (l.trans l2) (fr.trans f2) r2
  | bad => exact q'
/-- x(f), the value of f a lambda of this frame -/
theorem r_told {g CS : Addr} {x : Str} {ret : Str} {k : Nat} {a : ME} {ea : Expr} {b : LamI → ME} {ok : LamI → Bool} {catch_ : Nat → Option Bool} {pp pos : Pos} (hK : p.K = X.K) (T : ToldF X g CS ret) (hg : Gl X x) (hm : X.mg x = some (.ref g)) (hk : PySem.W.keepIn X.K (.ref g) = true)
    (hs : ∀ c, catch_ c = some true → PySem.W.exmOne p.K (.ref (p.xa c)) (.ref CS) = some true) (hr : Room (k + 2) X.A) (hdb : (x == ("__debug__" : Str)) = false) (ha : PE X ea (tE p WX a)) (hst : notStarX ea = true)
    (hok : ∀ li, ok li = true → LamX.LamS X.env.scope li.scope ∧ li.qual = X.env.qual ++ "<lambda>" ∧ li.params = ⟨[], [], none, [], [], none, []⟩ ∧ ∀ o, p.lfc o → ∃ cells, o = some cells ∧ cloFrom X.env.cells li.scope.names [] = cloFrom cells li.scope.names [])
    (hbody : ∀ li, ok li = true → ∀ (A : Around) (outer : List PySem.Env) (s : Shared) (H : Hp) (E : XK) (f c' : Addr), Room k (A.deeper (LamX.lamEnv X li.scope s.heap.objs.size f c')) → PE (LamX.lamCx X A outer s H E li.scope f c') li.body (tE p (fun cls _ _ H => E cls none H) (b li))) :
    PE X (.Call (.Name x pp) [ea] [] pos) (tE p WX (mTold catch_ ret (fun li => if ok li then b li else mBad) a)) := by
  refine ⟨fun pins s σ H Q I ⟨W, e, st, re, rp, q⟩ => ?_⟩
  refine wpAny_Call_Name_kw (ld_glob I hg hm ?_ hdb)
  have hse : starEach [ea] X.env = (false, eval ea X.env) :: starEach [] X.env := by cases ea <;> first | rfl | (cases hst)
  refine PySem.W.callWith_K (h₀ := X.base) I.ok.mod.kin hk ?_ hse (by rfl)
  rw [hse]
  show wpAny _ _ (spliced ((false, eval ea X.env) :: backTo pos (starEach [] X.env))) _ _ s
  refine Calls.spliced_cons (wpAny_mono (ha.run pins s σ H (fun v H1 => ∃ W1 st1 li, W.le W1 ∧ Fr W W1 H H1 ∧ Rep p W1 st1 H1 ∧ RelD p.K W1 (.lam li) v ∧ Post p (RelD p.K) W1 H1 (exW p WX σ) Q (toldR catch_ ret ((if ok li then b li else mBad) e st1))) I ⟨W, e, st, re, rp, ?_⟩) (fun u s1 ⟨v, H1, I1, r1, W1, st1, li, l, fr, rp1, rv, q1⟩ => ?_) fun _ _ z => z)
  · unfold mTold at q
    refine q.bind fun W1 H1 d v s1 l fr rp1 rv q1 => ?_
    cases d with
    | lam li => exact ⟨W1, s1, li, l, fr, rp1, rv, q1⟩
    | _ => exact q1.elim
  · refine Calls.spliced_nil ⟨I1.kIn, ?_⟩
    unfold RelD at rv
    obtain ⟨f, cl, c', pm, ctv, rfl, z1, z2, z3⟩ := rv
    obtain rfl : u = Value.ref f := r1
    cases hli : ok li with
    | false =>
      rw [hli] at q1
      exact (show False from q1).elim
    | true =>
      rw [hli] at q1
      obtain ⟨h1, h2, h3, h4⟩ := hok li hli
      obtain ⟨cells, h5, h6⟩ := h4 _ re.lf
      have ecl : cl = cloFrom X.env.cells li.scope.names [] := by rw [z3 cells (by rw [l.lf, h5]), h6]
      subst ecl
      refine told_run (m := b li) (p := p) I1 T h1 h2 h3 hr (rp1.fz _ _ z1) (rp1.fz _ _ z2) (hbody li hli) ?_
      rw [← hK]
      exact ⟨W1, e, st1, re.mono l, rp1, told_post (EX := exW p WX σ) hs q1⟩
end
end Z

set_option Elab.async false
set_option linter.all false
set_option maxRecDepth 100000
set_option maxHeartbeats 1000000
/-! Z22: enumerate. -/
namespace Z
open PySem PySem.Spec PyProof.Rows L2
section
variable {prog : Program} {w : World} {A : Around} {E : Value → Shared → Prop} {s : Shared}
theorem nextOf_endS {it : Addr} {x : Str} {t : Tok} {i : Nat} {Q : Value → Shared → Prop} (hh : A.handled = none) (hit : s.heap.IsStrIter it (strIterType x) x t i) (hx : x.cps[i]? = none)
    (hE : ∀ h' e, Heap.ExtBut it s.heap h' → (∃ o, h'.get? e = some o ∧ o.cls = .type "StopIteration") → E (.ref e) { s with heap := h' }) : wpAny (model prog w) A (Builtin.SmallTypes.nextOf (.ref it)) Q E s := by
  unfold strIterType at hit
  split at hit
  · exact wpAny_nextOf_ascii_end hh hit hx hE
  · exact wpAny_nextOf_wide_end hh hit hx hE
theorem enum_endS {e it : Addr} {x : Str} {t : Tok} {i : Nat} {c : Int} {old : Value} {Q : Option Value → Shared → Prop} (hh : A.handled = none) (he : IsEnum s.heap e it c old) (hit : s.heap.IsStrIter it (strIterType x) x t i) (hx : x.cps[i]? = none)
    (hQ : ∀ h', Heap.ExtBut it s.heap h' → Q none { s with heap := h' }) : wpAny (model prog w) A (pyNext (.ref e)) Q E s := by
  have hT : s.TypeIs (.ref e) "enumerate" := ⟨_, he, rfl⟩
  unfold pyNext
  refine wpAny_bind (wpAny_attempt (wpAny_callSpecial?_slot (name := Str.ofString "__next__") hT F.slot_enumerate_next
    (wpAny_call_entry F.slot_enumerate_next hT F.entry_enumerate_next ?_ (F.args_enumerate_next_1 _))))
  show wpAny _ _ (field (.ref e) 2 >>= _) _ _ _
  refine wpAny_bind (wpAny_field he rfl (x := .ref it) rfl ?_)
  refine wpAny_bind (nextOf_endS (A := A.in1) hh hit hx fun h' x he' hx' => ?_)
  obtain ⟨o, ho, hc⟩ := hx'
  refine wpAny_bind (wpAny_isInstance (T := "StopIteration") (b := true) ⟨o, ho, hc⟩ isSubtype_stop ?_)
  exact wpAny_pure (hQ _ he')
end
/-- the signs of a text, counted, in new pairs -/
def ItE (x : Str) : It := ⟨fun i _ => i < x.cps.size, fun i H v H' => ∃ T c, v = .ref T ∧ H T = none ∧ H' = upd H T (.tup [.int (i : Nat), .str ⟨#[c]⟩]) ∧ x.cps[i]? = some c, fun i _ => x.cps.size ≤ i⟩
theorem turn_enumS {P : Program} {w : World} {K : PySem.W.Frag} {elts : List Expr} {kk : Nat} {tpos : Pos} (x : Str) (t : Tok) (e it : Addr) :
    Turn P w K (.Tuple elts kk tpos) (ItE x) [e, it] e (fun i h => (∃ old, IsEnum h e it ((i : Nat) : Int) old) ∧ h.IsStrIter it (strIterType x) x t i ∧ e ≠ it) where
  mem := by simp
  obj := fun i h st b hb => by
    obtain ⟨⟨old, he⟩, ⟨o, ho, hc, hd⟩, _⟩ := st
    have e' : b = e ∨ b = it := by simpa using hb
    rcases e' with z | z
    · rw [z]; exact ⟨_, he, fun v q => nomatch q⟩
    · rw [z]; exact ⟨o, ho, fun v q => by rw [hd] at q; cases q⟩
  keep := fun i h h' st k => let ⟨⟨old, he⟩, ⟨o, ho, r⟩, hne⟩ := st; ⟨⟨old, k e (by simp) _ he⟩, ⟨o, k it (by simp) o ho, r⟩, hne⟩
  item := by
    intro X hP hw hK hc i pins s σ H E I hf st hg
    subst hP hw hK
    obtain ⟨⟨old, he⟩, hit, hne⟩ := st
    have hel : e < s.heap.objs.size := Heap.lt_size he
    have hil : it < s.heap.objs.size := by obtain ⟨_, q, _⟩ := hit; exact Heap.lt_size q
    refine wpAny_pyNext_enum_itemD (Draws.text (prog := X.prog) (w := X.w) (A := X.A.in1) (I.ok.hd hc) it x t) he hit hg hne (by simpa using hne) fun u h' tk hu ho hit' hT hsz hk => ?_
    obtain ⟨c, tu, hx, rfl⟩ := hu
    refine ⟨_, rfl, wpAny_letOwnedTupleGo_enum (s := { s with heap := h', toks := tk + 1 }) ho fun h'' he' sb => ?_⟩
    have hT2 : h''.get? s.heap.objs.size = some { cls := .type "tuple", data := .seq #[.int i tk, .str ⟨#[c]⟩ tu] } := (sb.2 _ (Nat.ne_of_gt hel)).trans hT
    have new : ObjOk X.prog X.w (upd H s.heap.objs.size (.tup [.int (i : Nat), .str ⟨#[c]⟩])) h'' s.heap.objs.size (.tup [.int (i : Nat), .str ⟨#[c]⟩]) :=
      ⟨by show 2 ≤ sizeLine; decide, [.int i tk, .str ⟨#[c]⟩ tu], .cons ⟨_, rfl⟩ (.cons ⟨_, rfl⟩ .nil), ⟨_, hT2, rfl, _, rfl⟩⟩
    have I1 : Inv X pins σ (upd H s.heap.objs.size (.tup [.int (i : Nat), .str ⟨#[c]⟩])) { s with heap := h'', toks := tk + 1 } :=
      I.turnedNew (ch := [e, it]) (fun b ob hb q => (sb.2 b (fun z => hb (by simp [z]))).trans (hk b ob (fun z => hb (by simp [z])) (fun z => hb (by simp [z])) q)) hf (Nat.le_refl _) new
    refine ⟨.ref s.heap.objs.size, _, I1, rfl, ⟨_, c, rfl, I.hok.fresh (Nat.le_refl _), rfl, hx⟩, ⟨⟨.str ⟨#[c]⟩ tu, ?_⟩, (let ⟨o, ho, r⟩ := hit'; ⟨o, (sb.2 it (Ne.symm hne)).trans ho, r⟩), hne⟩, fun b hb => ?_⟩
    · have e1 : ((i + 1 : Nat) : Int) = (i : Int) + 1 := by omega
      rw [e1]; exact he'
    · have hb' : b < s.heap.objs.size := by
        have e' : b = e ∨ b = it := by simpa using hb
        rcases e' with z | z
        · rw [z]; exact hel
        · rw [z]; exact hil
      rw [upd_ne (Nat.ne_of_lt hb')]
      exact (hf b hb).1
  done := by
    intro X hP hw hK hc i pins s σ H E I hf st hg
    subst hP hw hK
    obtain ⟨⟨old, he⟩, hit, hne⟩ := st
    have hx : x.cps[i]? = none := Array.getElem?_eq_none hg
    refine enum_endS (I.ok.hd hc) he hit hx fun h' eb => ⟨rfl, I.turnedL (t' := s.toks) (ch := [e, it]) (fun b o hb q => eb b o (fun z => hb (by simp [z])) q) hf⟩
  self := fun A i s Q E st h => let ⟨⟨_, he⟩, _⟩ := st; wpAny_pyIter_enum he h
section
variable {X : Cx} {p : Pl} {WX : L2.WX} {W W' : Wd} {H H' : Hp} {s : Sto}
theorem iteS_ok {x : Str} : SrcOk p W (.fix (enumD 0 (x.cps.toList.map fun c => .str ⟨#[c]⟩))) (ItE x) := by
  intro i W' s H l rp
  show match (some ((enumD 0 (x.cps.toList.map fun c => (Z.D.str ⟨#[c]⟩)))[i]?) : Option (Option Z.D)) with | some none => _ | some (some d) => _ | none => True
  rw [enumD_get, List.getElem?_map, Array.getElem?_toList]
  cases e : x.cps[i]? with
  | none => exact Array.getElem?_eq_none_iff.mp e
  | some c =>
    refine ⟨(Array.getElem?_eq_some_iff.mp e).1, fun v H' ⟨T, c', ev, hn, eH, e'⟩ => ?_⟩
    rw [e] at e'
    cases e'
    subst eH
    subst ev
    obtain ⟨W2, l2, f2, r2, e2⟩ := rp.fresh (o := .tup [.int ((i : Nat) : Int), .str ⟨#[c]⟩]) hn (fun ps z => by cases z)
    refine ⟨W2, l2, f2, r2, ?_⟩
    rw [Nat.zero_add]
    exact rel_tup (SqT.of e2) (relDs_cons rel_int (relDs_cons rel_str relDs_nil))
theorem ite_fix {xs : List Z.D} {vs : List V} {a : Addr} (hl : ∀ W' s H, W.le W' → Rep p W' s H → SqL p.K H a vs) (rv : RelDs p.K W xs vs) : SrcOk p W (.fix (enumD 0 xs)) (Ite p.K a) := by
  intro i W' s H l rp
  have h1 := hl W' s H l rp
  show match (some ((enumD 0 xs)[i]?) : Option (Option Z.D)) with | some none => _ | some (some d) => _ | none => True
  rw [enumD_get]
  cases e : xs[i]? with
  | none => exact ⟨vs, h1, by rw [← rv.length]; exact List.getElem?_eq_none_iff.mp e⟩
  | some d =>
    obtain ⟨v, e2, r2⟩ := rv.get e
    refine ⟨⟨vs, v, h1, e2⟩, fun y H' ⟨T, x, ey, hn, eH, hx⟩ => ?_⟩
    subst eH
    subst ey
    have e3 := hx vs h1
    rw [e2] at e3
    cases e3
    obtain ⟨W2, l2, f2, r3, e4⟩ := rp.fresh (o := .tup [.int ((i : Nat) : Int), v]) hn (fun ps z => by cases z)
    refine ⟨W2, l2, f2, r3, ?_⟩
    rw [Nat.zero_add]
    exact rel_tup (SqT.of e4) (relDs_cons rel_int (relDs_cons ((r2.mono l).mono l2) relDs_nil))
theorem ite_liv {n : Nat} {a : Addr} (hn : W.io[n]? = some a) : SrcOk p W (.enu (.liv n)) (Ite p.K a) := by
  intro i W' s H l rp
  show match (((atS n s).map fun xs => xs[i]?).map fun o => o.map fun d => (Z.D.tup [.int ((i : Nat) : Int), d]) : Option (Option Z.D)) with | some none => _ | some (some d) => _ | none => True
  cases e : atS n s with
  | none => trivial
  | some xs =>
    have hs : s[n]? = some (.lst xs) := by
      unfold atS at e
      split at e
      · rename_i ys e2; cases e; exact e2
      · cases e
    obtain ⟨z, vs, h1, rv⟩ := rp.obs n _ a hs (l.at hn)
    show match (some ((xs[i]?).map fun d => (Z.D.tup [.int ((i : Nat) : Int), d])) : Option (Option Z.D)) with | some none => _ | some (some d) => _ | none => True
    cases e2 : xs[i]? with
    | none => exact ⟨vs, SqL.of h1, by rw [← rv.length]; exact List.getElem?_eq_none_iff.mp e2⟩
    | some d =>
      obtain ⟨v, e3, r2⟩ := rv.get e2
      refine ⟨⟨vs, v, SqL.of h1, e3⟩, fun y H' ⟨T, x, ey, hT, eH, hx⟩ => ?_⟩
      subst eH
      subst ey
      have e4 := hx vs (SqL.of h1)
      rw [e3] at e4
      cases e4
      obtain ⟨W2, l2, f2, r3, e5⟩ := rp.fresh (o := .tup [.int ((i : Nat) : Int), v]) hT (fun ps z => by cases z)
      exact ⟨W2, l2, f2, r3, rel_tup (SqT.of e5) (relDs_cons rel_int (relDs_cons (r2.mono l2) relDs_nil))⟩
/-- enumerate of a text -/
theorem pi_enumS {e : Expr} {ta : TA} {pp pos tpos : Pos} {elts : List Expr} {kk : Nat} (hg : Gl X "enumerate") (hm : X.mg "enumerate" = none) (ha : PA X [e] ta) (hs : starEach [e] X.env = [(false, eval e X.env)]) :
    PI X (.Tuple elts kk tpos) (.Call (.Name "enumerate" pp) [e] [] pos) (fun σ H R => ta σ H fun vs H1 => ∃ x, vs = [.str x] ∧ R (ItE x) H1) := by
  refine ⟨fun pins s σ H R I h => ?_⟩
  refine Call_ (ld_blt I hg hm boot_enumerate (PyProof.Rows.callWith_type1 (thn (ha.run pos pins s σ H _ I h) fun us s1 ⟨vs, H1, I1, r1, q1⟩ => ?_) hs rfl))
  obtain ⟨x, ex, q⟩ := q1
  subst ex
  cases r1 with
  | cons r rr =>
    cases rr
    obtain ⟨t, rfl⟩ := r
    refine call_enumerate_str fun h' he hit hsz hk => wpAny_pyIter_enum he ?_
    have I2 : Inv X pins σ H1 { s1 with heap := h' } := I1.kept (t' := s1.toks) hk
    refine ⟨s1.heap.objs.size + 1, [s1.heap.objs.size + 1, s1.heap.objs.size], _, _, H1, rfl, I2, turn_enumS x t (s1.heap.objs.size + 1) s1.heap.objs.size, ⟨⟨.none, he⟩, hit, Nat.succ_ne_self _⟩, fun b hb => ?_, q⟩
    have e' : b = s1.heap.objs.size + 1 ∨ b = s1.heap.objs.size := by simpa using hb
    have hle : s1.heap.objs.size ≤ b := by
      rcases e' with z | z
      · rw [z]; exact Nat.le_add_right _ _
      · rw [z]; exact Nat.le_refl _
    exact I1.fpOk hle (I1.hok.fresh hle)
/-- what may be counted -/
def okEnu : Z.D → Bool
  | .tup _ => false
  | _ => true
def wEnuC (a : ME) : MW := fun e s => (a e s).bind fun d s1 => wR (if okEnu d then (wOf d s1).map enuOf else none) s1
theorem r_enu {a : ME} {ex : Expr} {pp pos tpos : Pos} {elts : List Expr} {kk : Nat} (hK : p.K = X.K) (hg : Gl X "enumerate") (hm : X.mg "enumerate" = none) (he : PE X ex (tE p WX a)) (hs : starEach [ex] X.env = (false, eval ex X.env) :: starEach [] X.env) (hs0 : starEach [] X.env = []) :
    PI X (.Tuple elts kk tpos) (.Call (.Name "enumerate" pp) [ex] [] pos) (tI p WX (wEnuC a)) := by
  refine ⟨fun pins s σ H R I ⟨W, e, st, re, rp, q⟩ => ?_⟩
  have ha : PA X [ex] (tA p WX (aCons a aNil)) := r_cons he r_nil hs
  have hs' : starEach [ex] X.env = [(false, eval ex X.env)] := by rw [hs, hs0]
  unfold wEnuC at q
  have key : ∀ (f : List V → Hp → Prop), (∀ W' H' d v s, W.le W' → Fr W W' H H' → Rep p W' s H' → RelD p.K W' d v → a e st = .ok d s → Post p (SrcOk p) W' H' (exW p WX σ) R (wR (if okEnu d then (wOf d s).map enuOf else none) s) → f [v] H') → tA p WX (aCons a aNil) σ H f := fun f hf => by
    refine ⟨W, e, st, re, rp, ?_⟩
    show Post p (RelDs p.K) W H (exW p WX σ) f ((a e st).bind fun x s1 => (Z.R.ok [] s1 : Z.R (List Z.D)).bind fun xs s2 => .ok (x :: xs) s2)
    cases h : a e st with
    | ok d s2 =>
      rw [h] at q
      intro W' H' v l fr rp' rv
      obtain ⟨v1, rfl, rv1⟩ := relDs_1 rv
      refine hf W' H' d v1 s2 l fr rp' rv1 h ?_
      have q' : Post p (SrcOk p) W H (exW p WX σ) R (wR (if okEnu d then (wOf d s2).map enuOf else none) s2) := q
      cases hw : (if okEnu d then (wOf d s2).map enuOf else none) with
      | none => rw [hw] at q'; exact q'
      | some src =>
        rw [hw] at q'
        exact fun W2 H2 J l2 f2 rp2 so => q' W2 H2 J (l.trans l2) (fr.trans f2) rp2 so
    | exc c s2 => rw [h] at q; exact q
    | bad => rw [h] at q; exact q.elim
  cases h : a e st with
  | bad => rw [h] at q; exact q.elim
  | exc c s2 => exact (pi_enum hg hm ha hs').run pins s σ H R I (key _ fun W' H' d v s l fr rp' rv h2 => by rw [h] at h2; cases h2)
  | ok d s2 =>
    cases d with
    | tup xs => rw [h] at q; exact q.elim
    | non => rw [h] at q; exact q.elim
    | bl b => rw [h] at q; exact q.elim
    | int i => rw [h] at q; exact q.elim
    | lam i => rw [h] at q; exact q.elim
    | dic ks i => rw [h] at q; exact q.elim
    | str x =>
      refine (pi_enumS hg hm ha hs').run pins s σ H R I (key _ fun W' H' d' v s' l fr rp' rv h2 q2 => ?_)
      rw [h] at h2
      cases h2
      exact ⟨x, by rw [relD_str rv], Post.same rp' q2 iteS_ok⟩
    | lst xs =>
      refine (pi_enum hg hm ha hs').run pins s σ H R I (key _ fun W' H' d' v s' l fr rp' rv h2 q2 => ?_)
      rw [h] at h2
      cases h2
      unfold RelD at rv
      obtain ⟨ad, vs, rfl, h1, r1⟩ := rv
      exact ⟨ad, vs, rfl, SqL.of (rp'.fz _ _ h1), Post.same rp' q2 (hK ▸ ite_fix (fun W2 s H l2 rp2 => SqL.of (rp2.fz _ _ (l2.fz _ _ h1))) r1)⟩
    | scr xs =>
      refine (pi_enum hg hm ha hs').run pins s σ H R I (key _ fun W' H' d' v s' l fr rp' rv h2 q2 => ?_)
      rw [h] at h2
      cases h2
      obtain ⟨ad, vs, rfl, h1, r1⟩ := relD_scr rv
      exact ⟨ad, vs, rfl, hK ▸ seqL_mono rp'.fz h1, Post.same rp' q2 (hK ▸ ite_fix (fun W2 s H l2 rp2 => seqL_mono rp2.fz (seqL_mono l2.fz h1)) r1)⟩
    | ref n =>
      refine (pi_enum hg hm ha hs').run pins s σ H R I (key _ fun W' H' d' v s' l fr rp' rv h2 q2 => ?_)
      rw [h] at h2
      cases h2
      obtain ⟨ad, rfl, hio⟩ := relD_ref rv
      have q3 : Post p (SrcOk p) W' H' (exW p WX σ) R (wR ((match atS n s2 with | some _ => some (Src.liv n) | none => none).map enuOf) s2) := q2
      cases e4 : atS n s2 with
      | none => rw [e4] at q3; exact q3.elim
      | some xs =>
        rw [e4] at q3
        obtain ⟨ad', vs, ea, h1, _⟩ := lst_rd (d := .ref n) rp' e4 rv
        cases ea
        exact ⟨ad, vs, rfl, SqL.of h1, Post.same rp' q3 (hK ▸ ite_liv hio)⟩
end
end Z

set_option Elab.async false
set_option linter.all false
set_option maxRecDepth 100000
set_option maxHeartbeats 1000000
/-! Y33: instances: fields read and stored, methods, making. -/
namespace Z
open PySem PySem.Spec PyProof.Rows L2
def lookN (f : Nat) : List (Nat × D) → Option D
  | [] => none
  | (g, x) :: r => if f = g then some x else lookN f r
def putN (f : Nat) (d : D) : List (Nat × D) → List (Nat × D)
  | [] => [(f, d)]
  | (g, x) :: r => if g = f then (g, d) :: r else (g, x) :: putN f d r
def insOf (d : D) (s : Sto) : Option (Nat × Nat × List (Nat × D)) := match d with
  | .ref n => (match s[n]? with
    | some (.ins c fs) => some (n, c, fs)
    | _ => none)
  | _ => none
/-- d.f; ok: the classes that have such a field -/
def opFld (ok : Nat → Bool) (f : Nat) : B1 := fun d s => match insOf d s with
  | some (_, c, fs) => if ok c then (match lookN f fs with | some x => some (x, s) | none => none) else none
  | none => none
def setFld (ok : Nat → Bool) (f : Nat) (o v : D) (s : Sto) : Option Sto := match insOf o s with
  | some (n, c, fs) => if ok c && decide (fs.length < 1000) then some (s.set n (.ins c (putN f v fs))) else none
  | none => none
def tFldT (ok : Nat → Bool) (f : Nat) (o : ME) : Tg := fun d e s => match o e s with
  | .ok od s1 => (match setFld ok f od d s1 with
    | some s2 => some (e, s2)
    | none => none)
  | _ => none
/-- o.f op= v -/
def sAugFld (ok : Nat → Bool) (f : Nat) (op : B2) (o m : ME) : MS := fun e s => (o e s).out e fun d s1 => match insOf d s1 with
  | some (_, c, fs) => if ok c then (match lookN f fs with
    | some x => (m e s1).out e fun y s3 => (R.of (op x y s3)).out e fun z s4 => match setFld (fun c' => c' == c) f d z s4 with
      | some s5 => .nx e s5
      | none => .bad
    | none => .bad) else .bad
  | none => .bad
/-- o.m(..): look: what class c, with these fields, has for it: (the def's place, its arity) -/
def mMeth (F : Nat → FM) (look : Nat → List (Nat × D) → Option (Nat × Nat)) (a : ME) (as : MA) : ME := fun e s => (a e s).bind fun d s1 => match insOf d s1 with
  | some (_, c, fs) => (match look c fs with
    | some (i, n) => (as e s1).bind fun ds s2 => if ds.length + 1 = n then F i (d :: ds) s2 else .bad
    | none => .bad)
  | none => .bad
def madeR (n : Nat) : R D → R D
  | .ok .non s => .ok (.ref n) s
  | .exc c s => .exc c s
  | _ => .bad
/-- C(..) -/
def mMake (c n : Nat) (f : FM) (as : MA) : ME := fun e s => (as e s).bind fun ds s1 => if ds.length + 1 = n then madeR s1.length (f (.ref s1.length :: ds) (s1 ++ [.ins c []])) else .bad
abbrev FsRel (p : Pl) (W : Wd) : List (Nat × D) → List (Str × V) → Prop := Paired fun x y => p.fn x.1 = y.1 ∧ RelD p.K W x.2 y.2
section
variable {p : Pl} {W : Wd}
theorem look_fs (inj : ∀ f g, p.fn f = p.fn g → f = g) {f : Nat} : ∀ {fs : List (Nat × D)} {kws : List (Str × V)}, FsRel p W fs kws → match lookN f fs with
    | some d => ∃ v, kws.lookup (p.fn f) = some v ∧ RelD p.K W d v
    | none => kws.lookup (p.fn f) = none
  | [], _, .nil => rfl
  | (g, x) :: r, (y, v) :: kr, .cons ⟨h1, h2⟩ t => by
    have h1 : p.fn g = y := h1
    unfold lookN
    rw [List.lookup_cons]
    by_cases hf : f = g
    · rw [if_pos hf, hf, h1]
      simp only [beq_self_eq_true]
      exact ⟨v, rfl, h2⟩
    · rw [if_neg hf]
      have hne : (p.fn f == y) = false := by
        rw [beq_eq_false_iff_ne, ← h1]
        exact fun z => hf (inj _ _ z)
      rw [hne]
      exact look_fs inj t
theorem put_fs (inj : ∀ f g, p.fn f = p.fn g → f = g) {f : Nat} {d : D} {v : V} (hd : RelD p.K W d v) : ∀ {fs : List (Nat × D)} {kws : List (Str × V)}, FsRel p W fs kws → FsRel p W (putN f d fs) (putF (p.fn f) v kws)
  | [], _, .nil => .cons ⟨rfl, hd⟩ .nil
  | (g, x) :: r, (y, w) :: kr, .cons ⟨h1, h2⟩ t => by
    have h1 : p.fn g = y := h1
    unfold putN putF
    by_cases hf : g = f
    · rw [if_pos hf, if_pos (by rw [← h1, hf])]
      exact .cons ⟨h1, hd⟩ t
    · rw [if_neg hf, if_neg (fun z => hf (inj _ _ (h1.trans z)))]
      exact .cons ⟨h1, h2⟩ (put_fs inj hd t)
theorem ins_rd {H : Hp} {s : Sto} {d : D} {n c : Nat} {fs : List (Nat × D)} {v : V} (rp : Rep p W s H) (h : insOf d s = some (n, c, fs)) (rv : RelD p.K W d v) : ∃ a dx kws, d = .ref n ∧ v = .ref a ∧ W.io[n]? = some a ∧ W.fz a = none ∧ H a = some (.ins (p.ca c) dx kws) ∧ FsRel p W fs kws := by
  cases d with
  | ref m =>
    have h' : (match s[m]? with | some (.ins c fs) => some (m, c, fs) | _ => none) = some (n, c, fs) := h
    split at h'
    · rename_i c0 fs0 e
      cases h'
      obtain ⟨a, rfl, hio⟩ := relD_ref rv
      obtain ⟨z, dx, kws, h1, h2⟩ := rp.obs _ _ a e hio
      exact ⟨a, dx, kws, rfl, rfl, hio, z, h1, h2⟩
    · cases h'
  | _ => cases h
end
/-- what is asked of the classes with the field f -/
structure FldF (X : Cx) (p : Pl) (ok : Nat → Bool) (f : Nat) : Prop where
  cls : ∀ c, ok c = true → Cls X.K (p.ca c)
  no : ∀ c, ok c = true → NoAttr X.K (p.ca c) (p.fn f)
  inj : ∀ f g, p.fn f = p.fn g → f = g
section
variable {X : Cx} {p : Pl} {WX : L2.WX} {W W' : Wd} {H H' : Hp} {s : Sto}
theorem r_fld {ok : Nat → Bool} {f : Nat} {a : ME} {ea : Expr} {x : Str} {pos : Pos} (hK : p.K = X.K) (F : FldF X p ok f) (hx : p.fn f = x) (hb : attributeBase ea x X.env (eval ea X.env) = eval ea X.env) (ha : PE X ea (tE p WX a)) : PE X (.Attribute ea x pos) (tE p WX (m1 (opFld ok f) a)) := by
  refine PE.imp (pe_fld ha hb) fun σ H Q ⟨W, e, s, re, rp, q⟩ => ⟨W, e, s, re, rp, q.bind fun W1 H1 d v s1 l fr rp1 rv q1 => ?_⟩
  have q2 : PostO p (RelD p.K) W1 H1 Q (opFld ok f d s1) := q1.of
  unfold opFld at q2
  cases hi : insOf d s1 with
  | none => rw [hi] at q2; exact q2.elim
  | some z =>
    obtain ⟨n, c, fs⟩ := z
    rw [hi] at q2
    obtain ⟨ad, dx, kws, rfl, rfl, hio, hz, h1, h2⟩ := ins_rd rp1 hi rv
    have q3 : PostO p (RelD p.K) W1 H1 Q (if ok c then (match lookN f fs with | some x => some (x, s1) | none => none) else none) := q2
    cases hc : ok c with
    | false => rw [hc] at q3; exact (show False from q3).elim
    | true =>
      rw [hc, if_pos rfl] at q3
      have hl := look_fs F.inj (f := f) h2
      cases hf : lookN f fs with
      | none => rw [hf] at q3; exact q3.elim
      | some y =>
        rw [hf] at q3 hl
        obtain ⟨v, hv, rv2⟩ := hl
        exact ⟨ad, _, dx, kws, v, rfl, h1, F.cls c hc, hx ▸ F.no c hc, hx ▸ hv, q3.same rp1 rv2⟩
theorem set_fld {ok : Nat → Bool} {f : Nat} {o d : D} {x v : V} {s2 : Sto} (inj : ∀ f g, p.fn f = p.fn g → f = g) (rp : Rep p W s H) (h : setFld ok f o d s = some s2) (rx : RelD p.K W o x) (rv : RelD p.K W d v) :
    ∃ a c dx kws, x = .ref a ∧ ok c = true ∧ H a = some (.ins (p.ca c) dx kws) ∧ kws.length < 1000 ∧ Fr W W H (upd H a (.ins (p.ca c) dx (putF (p.fn f) v kws))) ∧ Rep p W s2 (upd H a (.ins (p.ca c) dx (putF (p.fn f) v kws))) := by
  unfold setFld at h
  cases hi : insOf o s with
  | none => rw [hi] at h; cases h
  | some z =>
    obtain ⟨n, c, fs⟩ := z
    rw [hi] at h
    obtain ⟨ad, dx, kws, rfl, rfl, hio, hz, h1, h2⟩ := ins_rd rp hi rx
    have h' : (if ok c && decide (fs.length < 1000) then some (s.set n (.ins c (putN f d fs))) else none) = some s2 := h
    split at h'
    · rename_i hc
      cases h'
      rw [Bool.and_eq_true, decide_eq_true_eq] at hc
      obtain ⟨fr, rp2⟩ := rp.put (o := .ins (p.ca c) dx (putF (p.fn f) v kws)) (ob := .ins c (putN f d fs)) hio hz h1 rfl ⟨hz, dx, _, upd_same, put_fs inj rv h2⟩
      exact ⟨ad, c, dx, kws, rfl, hc.1, h1, by rw [← Paired.length h2]; exact hc.2, fr, rp2⟩
    · cases h'
/-- a field as a target -/
theorem r_tFld {ok : Nat → Bool} {f : Nat} {o : ME} {eo : Expr} {x : Str} {pos : Pos} (F : FldF X p ok f) (hx : p.fn f = x) (ho : PE X eo (tE p WX o)) : PG X (.Attribute eo x pos) (gT p (tFldT ok f o)) := by
  refine ⟨fun pins s σ H v u Q I r ⟨W, e, st, d, re, rp, rv, q⟩ => ?_⟩
  rw [assign_Attribute]
  have q1 : PostT p W H Q (match o e st with
    | .ok od s1 => (match setFld ok f od d s1 with
      | some s2 => some (e, s2)
      | none => none)
    | _ => none) := q
  refine wpAny_bind (wpAny_holding (thn (ho.run pins s σ H (fun x H1 => ∃ W1 od s1 s2, W.le W1 ∧ Fr W W1 H H1 ∧ Rep p W1 s1 H1 ∧ RelD p.K W1 od x ∧ setFld ok f od d s1 = some s2 ∧ PostT p W1 H1 Q (some (e, s2))) I ⟨W, e, st, re, rp, ?_⟩) fun ov s1 ⟨x2, H1, I1, r1, W1, od, s1', s2, l, fr, rp1, ro, hset, q2⟩ => ?_))
  · cases h : o e st with
    | ok od s1 =>
      rw [h] at q1
      intro W1 H1 x1 l fr rp1 ro
      cases hset : setFld ok f od d s1 with
      | none =>
        have q2 : PostT p W H Q (match setFld ok f od d s1 with | some s2 => some (e, s2) | none => none) := q1
        rw [hset] at q2
        exact q2.elim
      | some s2 =>
        have q2 : PostT p W H Q (match setFld ok f od d s1 with | some s2 => some (e, s2) | none => none) := q1
        rw [hset] at q2
        exact ⟨W1, od, s1, s2, l, fr, rp1, ro, hset, PostT.re l fr q2⟩
    | exc c s1 => rw [h] at q1; exact q1.elim
    | bad => rw [h] at q1; exact q1.elim
  · obtain ⟨a, c, dx, kws, rfl, hc, h1, hl, fr2, rp2⟩ := set_fld F.inj rp1 hset ro (rv.mono l)
    obtain rfl : ov = Value.ref a := r1
    refine wpAny_bind (wpAny_standAt (wpAny_bind (wpAny_holding ?_)))
    rw [← hx]
    refine setattr_ok I1 h1 (F.cls c hc) (F.no c hc) hl r fun s3 I3 => ?_
    first
      | exact wpAny_release ⟨σ, _, I3, q2 W1 _ σ (Wd.le.refl W1) fr2 rp2 (re.mono l)⟩
      | exact ⟨σ, _, I3, q2 W1 _ σ (Wd.le.refl W1) fr2 rp2 (re.mono l)⟩
theorem r_augFld {ok : Nat → Bool} {f : Nat} {op : Operator} {o m : ME} {eo ev : Expr} {x : Str} {tpos pos : Pos} (hK : p.K = X.K) (F : FldF X p ok f) (hx : p.fn f = x) (ho : PE X eo (tE p WX o)) (hv : PE X ev (tE p WX m)) :
    PS X (.AugAssign (.Attribute eo x tpos) op ev pos) (tS p WX (sAugFld ok f (ipOp op) o m)) := by
  refine PS.imp (ps_fldaug (op := op) (rd := r2 p (ipOp op)) ho hv (fun pins s σ H x y u v Q I rx ry h => ip_R hK op pins s σ H x y u v Q I rx ry h)) fun D σ H ⟨W, e, s, re, rp, q⟩ => ⟨W, e, s, re, rp, q.eval re fun W1 H1 d v s1 l fr rp1 rv q1 => ?_⟩
  cases hi : insOf d s1 with
  | none => rw [hi] at q1; exact q1.elim
  | some z =>
    obtain ⟨n, c, fs⟩ := z
    rw [hi] at q1
    obtain ⟨ad, dx, kws, rfl, rfl, hio, hz, h1, h2⟩ := ins_rd rp1 hi rv
    have q2 : PostS p W1 H1 WX D (if ok c then (match lookN f fs with
      | some x => (m e s1).out e fun y s3 => (R.of (ipOp op x y s3)).out e fun z s4 => match setFld (fun c' => c' == c) f (.ref n) z s4 with
        | some s5 => .nx e s5
        | none => .bad
      | none => .bad) else .bad) := q1
    cases hc : ok c with
    | false => rw [hc] at q2; exact (show False from q2).elim
    | true =>
      rw [hc, if_pos rfl] at q2
      have hl := look_fs F.inj (f := f) h2
      cases hf : lookN f fs with
      | none => rw [hf] at q2; exact (show False from q2).elim
      | some y =>
        rw [hf] at q2 hl
        obtain ⟨w, hw, rw2⟩ := hl
        have q4 : PostS p W1 H1 WX D ((m e s1).out e fun y' s3 => (R.of (ipOp op y y' s3)).out e fun z s4 => match setFld (fun c' => c' == c) f (.ref n) z s4 with
          | some s5 => .nx e s5
          | none => .bad) := q2
        refine ⟨ad, _, dx, kws, w, rfl, h1, F.cls c hc, hx ▸ F.no c hc, hx ▸ hw, W1, e, s1, re.mono l, rp1, q4.eval (re.mono l) fun W2 H2 d2 v2 s2 l2 fr2 rp2 rv2 q5 => ?_⟩
        refine ⟨W2, s2, y, d2, rp2, rw2.mono l2, rv2, Post.of (EX := exW p WX σ) (PostS.eval ((re.mono l).mono l2) q5 fun W3 H3 d3 v3 s3 l3 fr3 rp3 rv3 q6 => ?_)⟩
        cases hset : setFld (fun c' => c' == c) f (.ref n) d3 s3 with
        | none => rw [hset] at q6; exact q6.elim
        | some s5 =>
          rw [hset] at q6
          obtain ⟨a2, c2, dx2, kws2, e2, hc2, h12, hl2, fr4, rp4⟩ := set_fld F.inj rp3 hset ((rel_ref (K := p.K) hio).mono (l2.trans l3)) rv3
          cases e2
          obtain rfl : c2 = c := beq_iff_eq.mp hc2
          exact ⟨dx2, kws2, h12, hl2, by rw [← hx]; exact q6 W3 _ σ (Wd.le.refl W3) fr4 rp4 (((re.mono l).mono l2).mono l3)⟩
end
end Z

set_option Elab.async false
set_option linter.all false
set_option maxRecDepth 100000
set_option maxHeartbeats 1000000
/-! Y34: methods of own classes, making an instance. -/
namespace Z
open PySem PySem.Spec PyProof.Rows L2
theorem few_args : ∀ {es : List Expr} {env : PySem.Env} {pos : Pos}, es.all notStarX = true → (backTo pos (starEach es env)).all (fun x => !x.1) = true
  | [], _, _, _ => rfl
  | e :: es, env, pos, h => by
    rw [List.all_cons, Bool.and_eq_true] at h
    have he : starEach (e :: es) env = (false, eval e env) :: starEach es env := by
      have h1 := h.1
      cases e <;> first | rfl | (cases h1)
    rw [he]
    show (true && (backTo pos (starEach es env)).all (fun x => !x.1)) = true
    rw [few_args h.2]; rfl
theorem mcall_eq {o : Expr} {m : Str} {apos pos : Pos} {args : List Expr} {env : PySem.Env} (hb : attributeBase o m env (eval o env) = eval o env) (hl : (apos.endLine == pos.line) = true) (hs : args.all notStarX = true) (hn : args.length < 30) :
    eval (.Call (.Attribute o m apos) args [] pos) env = (do
      let ov ← eval o env
      standAt apos.atName
      let (f, first) ← holding [ov] (getMethod ov m (do return (← importBound o env).getD true))
      callWith pos f first (backTo pos (starEach args env)) (backToKw pos (keywordEach [] env))) := by
  refine mcall_of hb fun ov => ?_
  have hf : methodCallForm (args.length + ([] : List Keyword).length) (backTo pos (starEach args env)) (backToKw pos (keywordEach [] env)) = true := by
    unfold methodCallForm
    rw [few_args hs]
    have hk : backToKw pos (keywordEach [] env) = [] := rfl
    rw [hk]
    have : args.length + 0 + 0 < 30 := by omega
    simpa using this
  unfold methodCall
  rw [hf]
  unfold calleeOf methodCallPos
  rw [hl]
  rfl
/-- what the class c, with these fields, has for the method m: it keeps what f means -/
structure MethF (X : Cx) (p : Pl) (k : Nat) (m : Str) (c : Nat) (fs : List (Nat × D)) (n : Nat) (f : FM) : Prop where
  ex : ∃ (g : Addr) (fd : FuncData) (ps : List Str) (dp : Bool), Cls X.K (p.ca c) ∧ Meth X.K (p.ca c) m g ∧ FnOk X.prog X.w X.K X.mg X.base (CXM X.prog X.w) k g fd ps (spOf p n dp f) ∧ Binds X.K fd ps [] ∧ (dp = true → ∀ o, p.lfc o → o = none)
  no : ∀ (W : Wd) (kws : List (Str × V)), FsRel p W fs kws → kws.lookup m = none
structure MakeF (X : Cx) (p : Pl) (k : Nat) (C : Addr) (n : Nat) (f : FM) : Prop where
  ex : ∃ (g : Addr) (fd : FuncData) (ps : List Str) (dp : Bool), Mk X.K C g ∧ FnOk X.prog X.w X.K X.mg X.base (CXM X.prog X.w) k g fd ps (spOf p n dp f) ∧ Binds X.K fd ps [] ∧ (dp = true → ∀ o, p.lfc o → o = none)
/-- an object that the store doesn't know is laid -/
theorem Rep.aside {p : Pl} {W : Wd} {s : Sto} {H : Hp} {a : Addr} {o : HO} (r : Rep p W s H) (n : H a = none) : Fr W W H (upd H a o) ∧ Rep p W s (upd H a o) := by
  have k : ∀ b x, H b = some x → upd H a o b = some x := fun b x e => by rw [upd_ne (ne_of_none e n)]; exact e
  have sm : ∀ b, H b ≠ none → upd H a o b ≠ none := fun b h => by
    cases e : H b with
    | none => exact absurd e h
    | some x => rw [k b x e]; simp
  refine ⟨⟨fun b x e _ _ => k b x e, sm, fun b h => .inl h, fun b h => .inl h⟩, ⟨r.tab.ext k, fun b x e => k b x (r.fz b x e), r.nt, r.len, r.nd, fun b h => sm b (r.tr b h), fun m ob b e1 e2 => ?_⟩⟩
  have q := r.obs m ob b e1 e2
  cases ob with
  | dead => trivial
  | lst ds =>
    obtain ⟨z, vs, h1, h2⟩ := q
    exact ⟨z, vs, k _ _ h1, h2⟩
  | dct kvs =>
    obtain ⟨z, vs, h1, h2⟩ := q
    exact ⟨z, vs, k _ _ h1, h2⟩
  | lck kvs =>
    obtain ⟨z, od, vs, h1, h2⟩ := q
    exact ⟨z, od, vs, k _ _ h1, h2⟩
  | ins c fs =>
    obtain ⟨z, dx, vs, h1, h2⟩ := q
    exact ⟨z, dx, vs, k _ _ h1, h2⟩
section
variable {X : Cx} {p : Pl} {WX : L2.WX} {W W' : Wd} {H H' : Hp} {s : Sto}
/-- how the arguments come to the call of what was found -/
def ArgsTo (X : Cx) (p : Pl) (WX : L2.WX) (pos : Pos) (es : List Expr) (as : MA) : Prop := ∀ (pins : List (Addr × Obj)) (s : Shared) (σ : L2.St) (H : Hp) (g : Value) (first : List Value) (R : List V → Hp → Prop) (Q : Value → Shared → Prop), Inv X pins σ H s → PySem.W.keepIn X.K g = true → tA p WX as σ H R →
  (∀ us s2, AP X pins σ R us s2 → wpAny (model X.prog X.w) X.A (call g (first ++ us)) Q X.xe s2) → wpAny (model X.prog X.w) X.A (callWith pos g first (backTo pos (starEach es X.env)) (backToKw pos (keywordEach [] X.env))) Q X.xe s
theorem argsTo_cons {pos : Pos} {x : Expr} {xs : List Expr} {as : MA} (has : PA X (x :: xs) (tA p WX as)) (hs : (x :: xs).all notStarX = true) : ArgsTo X p WX pos (x :: xs) as := by
  intro pins s σ H g first R Q I kp post h
  rw [List.all_cons, Bool.and_eq_true] at hs
  have he : starEach (x :: xs) X.env = (false, eval x X.env) :: starEach xs X.env := by
    have h1 := hs.1
    cases x <;> first | rfl | (cases h1)
  have hpl : (backTo pos (starEach xs X.env)).any (·.1) = false := by
    have := few_args (env := X.env) (pos := pos) hs.2
    rw [List.any_eq_false]
    intro y hy
    have := List.all_eq_true.mp this y hy
    simpa using this
  exact PySem.W.callWith_K (first := first) (h₀ := X.base) I.ok.mod.kin kp (thn (has.run pos pins s σ H _ I post) fun us s2 hap => by
    have hap' := hap
    obtain ⟨vs, H2, I2, r, q⟩ := hap'
    exact ⟨I2.kIn, h us s2 hap⟩) he hpl
theorem argsTo_nil {pos : Pos} : ArgsTo X p WX pos [] aNil := by
  intro pins s σ H g first R Q I kp ⟨W, e, st, re, rp, q⟩ h
  have hr : R [] H := Post.same rp q relDs_nil
  exact PySem.W.callWith_K0 (first := first) I.kIn kp (h [] s ⟨[], H, I, .nil, hr⟩)
theorem r_meth {k : Nat} {F : Nat → FM} {look : Nat → List (Nat × D) → Option (Nat × Nat)} {a : ME} {as : MA} {o : Expr} {m : Str} {es : List Expr} {apos pos : Pos} (hM : ∀ c fs i n, look c fs = some (i, n) → MethF X p k m c fs n (F i)) (hr : Room k X.A) (tk : TakesM X WX)
    (ho : PE X o (tE p WX a)) (has : ArgsTo X p WX pos es as) (hb : attributeBase o m X.env (eval o X.env) = eval o X.env) (hl : (apos.endLine == pos.line) = true) (hs : es.all notStarX = true) (hn : es.length < 30) :
    PE X (.Call (.Attribute o m apos) es [] pos) (tE p WX (mMeth F look a as)) := by
  refine ⟨fun pins s σ H Q I ⟨W, e, st, re, rp, q⟩ => ?_⟩
  refine PySem.W.methodCall_KW (pl := do return (← importBound o X.env).getD true) (thn (ho.run pins s σ H (fun v H1 => ∃ W1 s1 d n c fs i k', W.le W1 ∧ Fr W W1 H H1 ∧ Rep p W1 s1 H1 ∧ RelD p.K W1 d v ∧ insOf d s1 = some (n, c, fs) ∧ look c fs = some (i, k') ∧
    Post p (RelD p.K) W1 H1 (exW p WX σ) Q ((as e s1).bind fun ds s2 => if ds.length + 1 = k' then F i (d :: ds) s2 else .bad)) I ⟨W, e, st, re, rp, ?_⟩) fun u s1 ⟨v, H1, I1, r1, W1, st1, d, n, c, fs, i, k', l, fr, rp1, rv, hi, hlk, q1⟩ => ?_) (mcall_eq hb hl hs hn)
  · refine Post.bind q fun W1 H1 d v s1 l fr rp1 rv q1 => ?_
    cases hi : insOf d s1 with
    | none => rw [hi] at q1; exact q1.elim
    | some z =>
      obtain ⟨n, c, fs⟩ := z
      rw [hi] at q1
      have q2 : Post p (RelD p.K) W1 H1 (exW p WX σ) Q (match look c fs with
        | some (i, n) => (as e s1).bind fun ds s2 => if ds.length + 1 = n then F i (d :: ds) s2 else .bad
        | none => .bad) := q1
      cases hlk : look c fs with
      | none => rw [hlk] at q2; exact q2.elim
      | some z2 =>
        obtain ⟨i, k'⟩ := z2
        rw [hlk] at q2
        exact ⟨W1, s1, d, n, c, fs, i, k', l, fr, rp1, rv, hi, hlk, q2⟩
  · have M := hM c fs i k' hlk
    obtain ⟨g, fd, ps, dp, hcls, hme, hF, hB, hdp⟩ := M.ex
    obtain ⟨ad, dx, kws, rfl, rfl, hio, hz, h1, h2⟩ := ins_rd rp1 hi rv
    obtain rfl : u = Value.ref ad := r1
    refine getmeth_ok I1 h1 hcls hme (M.no W1 kws h2) ?_
    refine has pins s1 σ H1 (.ref g) [.ref ad] (fun vs H2 => vs.length + 1 = k' ∧ ∃ W2 ds st2, W1.le W2 ∧ Rep p W2 st2 H2 ∧ RelDs p.K W2 ds vs ∧ Post p (RelD p.K) W2 H2 (exW p WX σ) Q (F i (.ref n :: ds) st2)) _ I1 hme.kp ?_ fun us s2 ⟨vs, H2, I2, r, hlen, W2, ds, st2, l2, rp2, rv2, q2⟩ => ?_
    · refine ⟨W1, e, st1, re.mono l, rp1, q1.bind fun W2 H2 ds vs s2 l2 fr2 rp2 rv2 q2 => ?_⟩
      split at q2
      · rename_i hlen
        exact ⟨by rw [← rv2.length]; exact hlen, W2, ds, s2, l2, rp2, rv2, q2⟩
      · exact q2.elim
    · refine run_fnS (us := .ref ad :: us) (vs := .ref ad :: vs) (E := WE WX) hF hr hB (passAtM tk σ) I2 (.cons rfl r) ⟨by rw [List.length_cons]; exact hlen, W2, .ref n :: ds, st2, fun z => ?_, rp2, relDs_cons (rel_ref (l2.at hio)) rv2, q2⟩
      have := (re.mono (l.trans l2)).lf
      exact hdp z _ this
/-- C(..) -/
theorem make_run {CX : CXT} {k : Nat} {C f : Addr} {fd : FuncData} {ps : List Str} {sp : Sp} {E : L2.St → XK} {pins : List (Addr × Obj)} {σ : L2.St} {s : Shared} {Q : VK} {us : List Value} {vs : List V} (M : Mk X.K C f) (F : FnOk X.prog X.w X.K X.mg X.base CX k f fd ps sp) (hr : Room (k + 1) X.A)
    (hb : Binds X.K fd ps []) (hx : PassesAt CX X σ (E σ)) (I : Inv X pins σ H s) (r : Vals vs us) (h : ∀ x dx, H x = none → H dx = none → dx ≠ x → sp (.ref x :: vs) (upd (upd H dx (.own x)) x (.ins C dx [])) (fun v H2 => v = .non ∧ Q (.ref x) H2) (E σ)) :
    wpAny (model X.prog X.w) X.A (call (.ref C) us) (EP X pins σ Q) X.xe s := by
  let n := s.heap.objs.size
  have hq := h (n + 1) n (I.hok.fresh (Nat.le_succ _)) (I.hok.fresh (Nat.le_refl _)) (Nat.ne_of_lt (Nat.lt_succ_self _))
  have J := Inv.made (C := C) I
  have r2 : Vals (V.ref (n + 1) :: vs) (Value.ref (n + 1) :: us) := .cons rfl r
  have hl : (Value.ref (n + 1) :: us ++ []).length = ps.length := by
    rw [List.append_nil, ← r2.length]; exact F.len _ _ _ _ hq
  have hbb := hb _ (Value.ref (n + 1) :: us) J.kIn hl
  rw [List.append_nil] at hbb
  refine wpAny_call (make_map (f := f) I.kIn M.makes M.init (beq_iff_eq.mp M.fn) (codeAny_mono (F.run _ X.stack _ _ ⟨Value.ref (n + 1) :: us, []⟩ (Value.ref (n + 1) :: us) _ _ (E σ) (hr.make C us []) (J.env0.make C us []) hbb r2 hq) fun r s' hq' => ?_))
  cases r with
  | error e => exact hx pins _ _ e s' J hq'
  | ok fl =>
    cases fl with
    | ret u =>
      obtain ⟨v, H', J3, rv, ev, q3⟩ := J.after hq'
      subst ev
      exact ⟨rv, V.ref (n + 1), H', J3, rfl, q3⟩
    | next => exact False.elim hq'
    | brk => exact False.elim hq'
    | cont => exact False.elim hq'
theorem r_make {k c n : Nat} {f : FM} {as : MA} {x : Str} {es : List Expr} {pp pos : Pos} (M : MakeF X p k (p.ca c) n f) (hr : Room (k + 1) X.A) (tk : TakesM X WX) (hg : Gl X x) (hm : X.mg x = some (.ref (p.ca c))) (has : ArgsTo X p WX pos es as) (hdb : (x == ("__debug__" : Str)) = false) :
    PE X (.Call (.Name x pp) es [] pos) (tE p WX (mMake c n f as)) := by
  obtain ⟨g, fd, ps, dp, hMk, hF, hB, hdp⟩ := M.ex
  refine ⟨fun pins s σ H Q I ⟨W, e, st, re, rp, q⟩ => ?_⟩
  refine wpAny_Call_Name_kw (ld_glob I hg hm ?_ hdb)
  refine has pins s σ H (.ref (p.ca c)) [] (fun vs H1 => vs.length + 1 = n ∧ ∃ W1 ds s1, W.le W1 ∧ Rep p W1 s1 H1 ∧ RelDs p.K W1 ds vs ∧ Post p (RelD p.K) W1 H1 (exW p WX σ) Q (madeR s1.length (f (.ref s1.length :: ds) (s1 ++ [.ins c []])))) _ I hMk.kp ?_ fun us s2 ⟨vs, H1, I1, r, hlen, W1, ds, s1, l1, rp1, rv, q1⟩ => ?_
  · refine ⟨W, e, st, re, rp, q.bind fun W1 H1 ds vs s1 l fr rp1 rv q1 => ?_⟩
    split at q1
    · rename_i hlen
      exact ⟨by rw [← rv.length]; exact hlen, W1, ds, s1, l, rp1, rv, q1⟩
    · exact q1.elim
  · refine make_run (E := WE WX) hMk hF hr hB (passAtM tk σ) I1 r fun y dx ny ndx ne => ⟨by rw [List.length_cons]; exact hlen, ?_⟩
    obtain ⟨f1, r1⟩ := rp1.aside (a := dx) (o := .own y) ndx
    have ny2 : upd H1 dx (.own y) y = none := by rw [upd_ne (Ne.symm ne)]; exact ny
    obtain ⟨l2, f2, r2, e2⟩ := r1.push (a := y) (o := .ins (p.ca c) dx []) (ob := .ins c []) ny2 fun W' l hz => by
      refine ⟨?_, dx, [], upd_same, .nil⟩
      rw [hz]
      cases q : W1.fz y with
      | none => rfl
      | some x => rw [rp1.fz y x q] at ny; cases ny
    refine ⟨⟨W1.fz, W1.io ++ [y], W1.lf⟩, .ref s1.length :: ds, s1 ++ [.ins c []], fun z => hdp z _ (re.mono l1).lf, r2, relDs_cons (rel_ref e2) (rv.mono l2), ?_⟩
    have key : ∀ r : R D, Post p (RelD p.K) W1 H1 (exW p WX σ) Q (madeR s1.length r) → Post p (RelD p.K) ⟨W1.fz, W1.io ++ [y], W1.lf⟩ (upd (upd H1 dx (.own y)) y (.ins (p.ca c) dx [])) (fun c H' => WE WX σ (.ref (p.xa (c / 2))) (tgX c) H') (fun v H2 => v = .non ∧ Q (.ref y) H2) r := fun r q => by
      cases r with
      | bad => exact q
      | exc c s3 => exact fun W3 H3 l3 f3 r3 => q W3 H3 (l2.trans l3) ((f1.trans f2).trans f3) r3
      | ok d s3 =>
        cases d with
        | non => exact fun W3 H3 v l3 f3 r3 rv3 => ⟨relD_non rv3, q W3 H3 _ (l2.trans l3) ((f1.trans f2).trans f3) r3 (rel_ref (l3.at e2))⟩
        | _ => exact (show False from q).elim
    exact key _ q1
end
end Z

set_option Elab.async false
set_option linter.all false
set_option maxRecDepth 100000
set_option maxHeartbeats 1000000
/-! Y35: sum(lists, []). -/
namespace Z
open PySem PySem.Spec PyProof.Rows L2
/-- the lists from the i-th on, joined -/
def joinL (its : Nat → List Value) (n : Nat) : Nat → Nat → List Value
  | 0, _ => []
  | k + 1, i => its i ++ joinL its n k (i + 1)
section
variable {prog : Program} {w : World} {A : Around} {E : Value → Shared → Prop} {R : Result → Shared → Prop}
/-- the loop: from the i-th list on; t holds what is joined so far -/
theorem loop_lists {I l S : Addr} {items : Array Value} (hh : A.handled = none) (hlI : l ≠ I) (hSI : S ≠ I) (hSl : S ≠ l) (bs : Nat → Addr) (its : Nat → List Value) (hv : ∀ i, i < items.size → items[i]? = some (.ref (bs i))) :
    ∀ (k i : Nat) (s : Shared) (t : Addr) (acc : List Value) (nt c : Nat) (st : Int), items.size - i = k → i ≤ items.size → s.heap.IsListIter I l i → s.heap.IsList l items → t ≠ I → t ≠ S → IsL s.heap t acc.toArray nt →
      (∀ j, i ≤ j → j < items.size → bs j ≠ I ∧ bs j ≠ S ∧ ∃ m, IsL s.heap (bs j) (its j).toArray m) → acc.length + (joinL its items.size k i).length ≤ sizeLine → s.heap.get? S = some { cls := .type "list", dict := none, data := .seq #[.ref t] c, slots := #[] } →
      (∀ (h' : Heap) (tk : Nat) (p : Addr) (m : Nat), (∀ b o, b ≠ I → b ≠ S → s.heap.get? b = some o → h'.get? b = some o) → IsL h' p (acc ++ joinL its items.size k i).toArray m → (i = items.size ∧ p = t) ∨ (i < items.size ∧ S < p) → R (.ok (.ret (.ref p))) { s with heap := h', toks := tk }) →
      codeAny (model prog w) A (.builtin "sum.loop" ⟨[.ref I, .ref S, rawInt 2, rawInt 0], []⟩) R s := by
  intro k
  induction k with
  | zero =>
    intro i s t acc nt c st hk hi hit hl htI htS hacc hb hz hS hR
    have hin : i = items.size := by omega
    subst hin
    refine codeAny_builtin F.entry_sum_loop ?_
    rw [Around.under_plainId F.plain_sum_loop _]
    show wpAny _ A.in1 (seqItems? (.ref S) >>= _) _ _ s
    refine wpAny_bind (wpAny_seqItems hS rfl ?_)
    show wpAny _ A.in1 (tryCatch (pyNext (.ref I)) _ >>= _) _ _ s
    refine wpAny_bind (wpAny_tryCatch (wpAny_pyNext_list_end (A := A.in1) hh hit hl (by simp) fun h' he => ?_))
    refine wpAny_pure (hR h' s.toks t nt (fun b o hbI _ e => he b o hbI e) ?_ (.inl ⟨rfl, rfl⟩))
    unfold joinL
    rw [List.append_nil]
    exact he t _ htI hacc
  | succ k ih =>
    intro i s t acc nt c st hk hi hit hl htI htS hacc hb hz hS hR
    have hlt : i < items.size := by omega
    have hx := hv i hlt
    refine codeAny_builtin F.entry_sum_loop ?_
    rw [Around.under_plainId F.plain_sum_loop _]
    show wpAny _ A.in1 (seqItems? (.ref S) >>= _) _ _ s
    refine wpAny_bind (wpAny_seqItems hS rfl ?_)
    show wpAny _ A.in1 (tryCatch (pyNext (.ref I)) _ >>= _) _ _ s
    refine wpAny_bind (wpAny_tryCatch (wpAny_pyNext_list_item hit hl (x := .ref (bs i)) hx fun h1 hit1 hs1 => ?_))
    have ke : ∀ b o, b ≠ I → s.heap.get? b = some o → h1.get? b = some o := fun b o hb e => hs1.extBut b o hb e
    obtain ⟨hbI, hbS, mb, hbl⟩ := hb i (Nat.le_refl _) hlt
    have hacc1 : IsL h1 t acc.toArray nt := ke t _ htI hacc
    have hbl1 : IsL h1 (bs i) (its i).toArray mb := ke _ _ hbI hbl
    have hS1 := ke S _ hSI hS
    have hzi : acc.length + (its i).length ≤ sizeLine := by
      unfold joinL at hz
      rw [List.length_append] at hz
      omega
    show wpAny _ A.in1 ((holding [Value.ref (bs i)] (binaryOp .Add (.ref t) (.ref (bs i)))).attempt >>= _) _ _ _
    refine wpAny_bind (wpAny_attempt (wpAny_holding (PySem.P.add_list (s := { s with heap := h1 }) hacc1 hbl1 ?_ (by rw [List.size_toArray, List.size_toArray]; exact hzi))))
    let p := h1.objs.size
    let nw : Obj := { cls := .type "list", data := .seq (acc.toArray ++ (its i).toArray) }
    have hp : S < p := Heap.lt_size hS1
    have hS2 : (h1.push nw).get? S = some { cls := .type "list", dict := none, data := .seq #[.ref t] c, slots := #[] } := Heap.get?_push_of_some _ hS1
    show wpAny _ A.in1 (updateSeq S (fun _ => #[.ref p]) >>= _) _ _ _
    refine wpAny_bind (wpAny_updateSeq hS2 rfl ?_)
    have hS3 := Heap.get?_update_self (Obj.mapSeq fun _ => #[Value.ref p]) hS2 rfl
    refine wpAny_bind (wpAny_letGo ?_)
    have k3 : ∀ b o, b ≠ I → b ≠ S → s.heap.get? b = some o → (((h1.push nw).update S (Obj.mapSeq fun _ => #[Value.ref p])).update S (Obj.mapSeq fun _ => #[Value.ref p])).get? b = some o := fun b o h1' h2' e => by
      rw [Heap.get?_update_other _ _ (Ne.symm h2'), Heap.get?_update_other _ _ (Ne.symm h2')]
      exact Heap.get?_push_of_some _ (ke b o h1' e)
    have kk : ∀ b o, b ≠ S → (h1.push nw).get? b = some o → (((h1.push nw).update S (Obj.mapSeq fun _ => #[Value.ref p])).update S (Obj.mapSeq fun _ => #[Value.ref p])).get? b = some o := fun b o h2' e => by
      rw [Heap.get?_update_other _ _ (Ne.symm h2'), Heap.get?_update_other _ _ (Ne.symm h2')]
      exact e
    have hnew : (h1.push nw).get? p = some nw := Heap.get?_push_size _ rfl
    have hpS : p ≠ S := Nat.ne_of_gt hp
    obtain ⟨oi, hoi, hci, hdi⟩ := id hit1
    have hpI : p ≠ I := Nat.ne_of_gt (Heap.lt_size hoi)
    refine wpAny_bind (wpAny_updateSeq hS3 rfl (wpAny_pure ⟨plainId_quiet F.plain_sum_loop _, ih (i + 1) _ p (acc ++ its i) 0 _ 2 (by omega) hlt ?_ ?_ hpI hpS ?_ ?_ ?_ (Heap.get?_update_self _ hS3 rfl) fun h' tk q m hk' hq hor => ?_⟩))
    · exact ⟨oi, kk I _ (Ne.symm hSI) (Heap.get?_push_of_some _ hoi), hci, hdi⟩
    · obtain ⟨ol, hol, r⟩ := hl
      exact ⟨ol, k3 l _ hlI (Ne.symm hSl) hol, r⟩
    · have e : (acc ++ its i).toArray = acc.toArray ++ (its i).toArray := by simp
      rw [e]
      exact kk p _ hpS hnew
    · intro j hj1 hj2
      obtain ⟨a1, a2, m, a3⟩ := hb j (by omega) hj2
      exact ⟨a1, a2, m, k3 _ _ a1 a2 a3⟩
    · unfold joinL at hz
      rw [List.length_append] at hz ⊢
      omega
    · refine hR h' tk q m (fun b o h1' h2' e => hk' b o h1' h2' (k3 b o h1' h2' e)) ?_ ?_
      · unfold joinL
        rw [← List.append_assoc]
        exact hq
      · rcases hor with ⟨_, e⟩ | e
        · exact .inr ⟨hlt, e ▸ hp⟩
        · exact .inr ⟨hlt, e.2⟩
theorem args_sum2 (a b : Value) : argsOk "sum" ⟨[a, b], []⟩ := by unfold argsOk; kernel_rfl
theorem sum_lists {l z : Addr} {items : Array Value} {zs : List Value} {nz : Nat} {s : Shared} {Q : Value → Shared → Prop} (hh : A.handled = none) (hl : s.heap.IsList l items) (bs : Nat → Addr) (its : Nat → List Value) (hv : ∀ i, i < items.size → items[i]? = some (.ref (bs i))) (hz : IsL s.heap z zs.toArray nz)
    (hb : ∀ j, j < items.size → ∃ m, IsL s.heap (bs j) (its j).toArray m) (hsz : zs.length + (joinL its items.size items.size 0).length ≤ sizeLine)
    (h : ∀ (h' : Heap) (tk : Nat) (p : Addr) (m : Nat), (∀ b o, s.heap.get? b = some o → h'.get? b = some o) → IsL h' p (zs ++ joinL its items.size items.size 0).toArray m → (items.size = 0 ∧ p = z) ∨ (0 < items.size ∧ s.heap.objs.size ≤ p) → Q (.ref p) { s with heap := h', toks := tk }) :
    wpAny (model prog w) A (call (.builtin "sum") [.ref l, .ref z]) Q E s := by
  refine call_function_tree F.kind_sum F.plain_sum F.entry_sum (args_sum2 _ _) ?_
  unfold Builtin.«sum»
  simp only [List.length_cons, List.length_nil]
  rw [if_neg (by decide)]
  refine wpAny_bind (wpAny_of_eq (show Builtin.Builtins.bindParams "sum" ["start"] 0 ⟨[.ref z], []⟩ = pure [some (.ref z)] from rfl) ?_)
  have hlt : l < s.heap.objs.size := by obtain ⟨_, e, _⟩ := hl; exact Heap.lt_size e
  refine wpAny_bind (wpAny_pyIter_list hl ?_)
  let I := s.heap.objs.size
  let h1 := s.heap.push { cls := .type "list_iterator", data := .fields #[.ref l, .int 0 0] }
  have hz1 : IsL h1 z zs.toArray nz := Heap.get?_push_of_some _ hz
  have tz : ({ s with heap := h1 } : Shared).TypeIs (.ref z) "list" := ⟨_, hz1, rfl⟩
  refine wpAny_bind (wpAny_pure ?_)
  simp only [List.forIn_cons, List.forIn_nil]
  refine wpAny_bind (wpAny_bind (wpAny_bind (wpAny_isInstance (T := "list") (b := false) tz F.sub_list_str ?_)))
  simp only [Bool.false_eq_true, if_false]
  refine wpAny_pure (wpAny_bind (wpAny_bind (wpAny_isInstance (T := "list") (b := false) tz F.sub_list_bytes ?_)))
  simp only [Bool.false_eq_true, if_false]
  refine wpAny_pure (wpAny_bind (wpAny_bind (wpAny_isInstance (T := "list") (b := false) tz (show isSubtype (.type "list") (.type "bytearray") = pure false by rw [isSubtype_type]; kernel_rfl) ?_)))
  simp only [Bool.false_eq_true, if_false]
  refine wpAny_pure (wpAny_pure ?_)
  refine wpAny_bind (wpAny_newObj_type ?_)
  have sI : h1.objs.size = I + 1 := Heap.size_push _ _
  have lt2 : ∀ b o, s.heap.get? b = some o → b < I := fun b o e => Heap.lt_size e
  refine wpAny_pure ⟨plainId_quiet F.plain_sum_loop _, loop_lists (I := I) (l := l) (S := h1.objs.size) (items := items) hh (Nat.ne_of_lt hlt) (by rw [sI]; exact Nat.succ_ne_self _) (Nat.ne_of_gt (by rw [sI]; exact Nat.lt_succ_of_lt hlt)) bs its hv items.size 0 _ z zs nz 0 2 (Nat.sub_zero _) (Nat.zero_le _) ?_ ?_ (Nat.ne_of_lt (lt2 _ _ hz)) (Nat.ne_of_lt (by rw [sI]; exact Nat.lt_succ_of_lt (lt2 _ _ hz))) ?_ ?_ hsz (Heap.get?_push_size _ rfl) fun h' tk p m hk hp hor => ?_⟩
  · exact ⟨_, Heap.get?_push_of_some _ (Heap.get?_push_size _ rfl), rfl, rfl⟩
  · obtain ⟨ol, hol, r⟩ := hl
    exact ⟨ol, Heap.get?_push_of_some _ (Heap.get?_push_of_some _ hol), r⟩
  · exact Heap.get?_push_of_some _ hz1
  · intro j _ hj
    obtain ⟨m, hm⟩ := hb j hj
    exact ⟨Nat.ne_of_lt (lt2 _ _ hm), Nat.ne_of_lt (by rw [sI]; exact Nat.lt_succ_of_lt (lt2 _ _ hm)), m, Heap.get?_push_of_some _ (Heap.get?_push_of_some _ hm)⟩
  · refine h h' tk p m (fun b o e => hk b o (Nat.ne_of_lt (lt2 _ _ e)) (Nat.ne_of_lt (by rw [sI]; exact Nat.lt_succ_of_lt (lt2 _ _ e))) (Heap.get?_push_of_some _ (Heap.get?_push_of_some _ e))) hp ?_
    rcases hor with ⟨a, b⟩ | e
    · exact .inl ⟨a.symm, b⟩
    · exact .inr ⟨e.1, Nat.le_trans (Nat.le_succ _) (Nat.le_of_lt (by have e2 := e.2; rw [sI] at e2; exact e2))⟩
end
/-- sum(xss, ys): by values -/
def rSumL (K : PySem.W.Frag) : List V → Hp → VK → Prop := fun vs H Q => ∃ (a z : Addr) (as : List Addr) (xss : List (List V)) (ys : List V), vs = [.ref a, .ref z] ∧ SqL K H a (as.map V.ref) ∧ Paired (fun b xs => H b = some (.lst xs)) as xss ∧ H z = some (.lst ys) ∧ ys.length + xss.flatten.length ≤ sizeLine ∧
  (xss = [] → Q (.ref z) H) ∧ (xss ≠ [] → ∀ p, H p = none → Q (.ref p) (upd H p (.lst (ys ++ xss.flatten))))
theorem refs_ix : ∀ {as : List Addr} {us : List Value}, Vals (as.map V.ref) us → us = as.map Value.ref
  | [], us, h => by cases h; rfl
  | a :: as, us, h => by
    cases h with
    | cons r t =>
      rw [refs_ix t]
      obtain rfl := (show _ = Value.ref a from r)
      rfl
theorem paired_len {α β : Type} {F : α → β → Prop} {l₁ : List α} {l₂ : List β} (h : Paired F l₁ l₂) : l₁.length = l₂.length := Paired.length h
theorem paired_ix {α β : Type} {F : α → β → Prop} : ∀ {l₁ : List α} {l₂ : List β} {i : Nat} {a : α} {b : β}, Paired F l₁ l₂ → l₁[i]? = some a → l₂[i]? = some b → F a b
  | _, _, _, _, _, .nil, e, _ => by simp at e
  | _, _, 0, _, _, .cons r _, e, e2 => by
    simp only [List.getElem?_cons_zero, Option.some.injEq] at e e2
    subst e; subst e2; exact r
  | _, _, i + 1, _, _, .cons _ t, e, e2 => paired_ix t (by simpa using e) (by simpa using e2)
theorem call_sumL {X : Cx} (hc : X.calm = true) : CallR X (.builtin "sum") (rSumL X.K) := by
  intro pins s σ H vs us Q I r h
  obtain ⟨a, z, as, xss, ys, rfl, hs, hp, hz, hsz, q0, q1⟩ := h
  obtain ⟨items, rv, hl, _⟩ := I.list hs
  obtain ⟨_, zs, nz, rz, hlz, ez⟩ := I.lstM hz
  have ei := refs_ix rv
  cases r with
  | cons r1 t1 =>
    cases t1 with
    | cons r2 t2 =>
      cases t2
      obtain rfl := (show _ = Value.ref a from r1)
      obtain rfl := (show _ = Value.ref z from r2)
      have hlen := paired_len hp
      have isz : items.toArray.size = as.length := by rw [List.size_toArray, ei, List.length_map]
      -- the values of the i-th list
      have ex : ∀ i, ∃ vl : List Value, i < as.length → ∃ m, Vals (xss.getD i []) vl ∧ IsL s.heap (as.getD i 0) vl.toArray m := fun i => by
        by_cases hi : i < as.length
        · have h1 : as[i]? = some (as.getD i 0) := by rw [List.getD_eq_getElem?_getD, List.getElem?_eq_getElem hi]; rfl
          have h2 : xss[i]? = some (xss.getD i []) := by rw [List.getD_eq_getElem?_getD, List.getElem?_eq_getElem (by omega)]; rfl
          have h3 := paired_ix hp h1 h2
          obtain ⟨_, vl, m, rl, _, el⟩ := I.lstM h3
          exact ⟨vl, fun _ => ⟨m, rl, el⟩⟩
        · exact ⟨[], fun z => absurd z hi⟩
      let its : Nat → List Value := fun i => Classical.choose (ex i)
      have hits : ∀ i, i < as.length → ∃ m, Vals (xss.getD i []) (its i) ∧ IsL s.heap (as.getD i 0) (its i).toArray m := fun i hi => Classical.choose_spec (ex i) hi
      have hj : ∀ k i, i + k = as.length → Vals (xss.drop i).flatten (joinL its items.toArray.size k i) := by
        intro k
        induction k with
        | zero =>
          intro i hi
          rw [List.drop_eq_nil_of_le (by omega)]
          exact .nil
        | succ k ih =>
          intro i hi
          obtain ⟨m, rl, _⟩ := hits i (by omega)
          have e : xss.drop i = xss.getD i [] :: xss.drop (i + 1) := by
            rw [List.drop_eq_getElem_cons (by omega : i < xss.length), List.getD_eq_getElem?_getD, List.getElem?_eq_getElem (by omega : i < xss.length)]; rfl
          rw [e, List.flatten_cons]
          unfold joinL
          exact rl.append (ih (i + 1) (by omega))
      have hj0 := hj as.length 0 (by omega)
      rw [List.drop_zero] at hj0
      have hall : Vals (ys ++ xss.flatten) (zs ++ joinL its items.toArray.size items.toArray.size 0) := by
        rw [isz] at hj0 ⊢
        exact rz.append hj0
      refine sum_lists (s := s) (I.ok.hd hc) hl.isList (fun i => as.getD i 0) its (fun i hi => ?_) ez (fun j hj' => ?_) ?_ fun h' tk p m hk hq hor => ?_
      · rw [isz] at hi
        rw [List.getElem?_toArray, ei, List.getElem?_map, List.getElem?_eq_getElem hi, List.getD_eq_getElem?_getD, List.getElem?_eq_getElem hi]; rfl
      · rw [isz] at hj'
        obtain ⟨m, _, e⟩ := hits j hj'
        exact ⟨m, e⟩
      · have := hall.length
        rw [List.length_append, List.length_append] at this
        omega
      · rcases hor with ⟨e0, rfl⟩ | ⟨h1, hsize⟩
        · have h0 : xss = [] := List.eq_nil_of_length_eq_zero (by omega)
          exact ⟨.ref p, H, I.kept hk, rfl, q0 h0⟩
        · by_cases h0 : xss = []
          · subst h0; rw [isz, hlen] at h1; exact absurd h1 (Nat.lt_irrefl 0)
          · have hpn : H p = none := I.hok.fresh hsize
            refine ⟨.ref p, _, I.laid (a := p) (o := .lst (ys ++ xss.flatten)) hk hsize ?_, rfl, q1 h0 p hpn⟩
            exact ⟨by rw [List.length_append]; exact hsz, _, m, hall, hq⟩
end Z

set_option Elab.async false
set_option linter.all false
set_option maxRecDepth 100000
set_option maxHeartbeats 1000000
/-! Y36: written tuples and dicts; dicts that are displayed and read; f-strings; tuple.index. -/
namespace Z
open PySem PySem.Spec PyProof.Rows L2
def look {α : Type} (x : Str) : List (Str × α) → Option α
  | [] => none
  | (y, a) :: r => if seq x y then some a else look x r
theorem look_lookup {α : Type} {x : Str} : ∀ {l : List (Str × α)}, look x l = l.lookup x
  | [] => rfl
  | (y, a) :: r => by
    unfold look
    rw [List.lookup_cons]
    cases h : seq x y with
    | true =>
      rw [seq_iff.mp h]
      simp
    | false =>
      have hne : (x == y) = false := by
        rw [beq_eq_false_iff_ne]
        intro e
        rw [seq_iff.mpr e] at h
        cases h
      rw [hne]
      simp [look_lookup]
/-! ### written values -/
def wrAll (f : D → Value → Bool) : List D → List Value → Bool
  | [], [] => true
  | d :: ds, u :: us => f d u && wrAll f ds us
  | _, _ => false
def wrB (K : PySem.W.Frag) : Nat → D → Value → Bool
  | 0, _, _ => false
  | k + 1, d, u => match d with
    | .non => He.relB .non u
    | .bl b => He.relB (.bl b) u
    | .int i => He.relB (.int i) u
    | .str x => He.relB (.str x) u
    | .tup xs => (match u with
      | .ref a => (match K.lookup a with
        | some ⟨.type c, none, .seq its _, _⟩ => decide (c = "tuple") && (decide (its.size ≤ sizeLine) && wrAll (wrB K k) xs its.toList)
        | _ => false)
      | _ => false)
    | _ => false
/-- a written value -/
def Wr (K : PySem.W.Frag) (d : D) (u : Value) : Prop := ∃ v, RelV v u ∧ (∀ W, RelD K W d v) ∧ ∀ a, v = .ref a → ∃ o, K.lookup a = some o ∧ o.cls = .type "tuple" ∧ o.dict = none
theorem wrAll_ok {K : PySem.W.Frag} {f : D → Value → Bool} (hf : ∀ d u, f d u = true → Wr K d u) : ∀ {ds : List D} {us : List Value}, wrAll f ds us = true → ∃ vs, Vals vs us ∧ ∀ W, RelDs K W ds vs
  | [], [], _ => ⟨[], .nil, fun W => relDs_nil⟩
  | [], _ :: _, h => by cases h
  | _ :: _, [], h => by cases h
  | d :: ds, u :: us, h => by
    have h : (f d u && wrAll f ds us) = true := h
    rw [Bool.and_eq_true] at h
    obtain ⟨v, r, q, _⟩ := hf d u h.1
    obtain ⟨vs, r2, q2⟩ := wrAll_ok hf h.2
    exact ⟨v :: vs, .cons r r2, fun W => relDs_cons (q W) (q2 W)⟩
theorem wrB_ok {K : PySem.W.Frag} : ∀ (k : Nat) (d : D) (u : Value), wrB K k d u = true → Wr K d u
  | 0, d, u, h => by cases h
  | k + 1, d, u, h => by
    cases d with
    | non => exact ⟨.non, He.relB_ok h, fun W => rel_non, fun a z => by cases z⟩
    | bl b => exact ⟨.bl b, He.relB_ok h, fun W => rel_bl, fun a z => by cases z⟩
    | int i => exact ⟨.int i, He.relB_ok h, fun W => rel_int, fun a z => by cases z⟩
    | str x => exact ⟨.str x, He.relB_ok h, fun W => rel_str, fun a z => by cases z⟩
    | tup xs =>
      cases u with
      | ref a =>
        have h : (match K.lookup a with
          | some ⟨.type c, none, .seq its _, _⟩ => decide (c = "tuple") && (decide (its.size ≤ sizeLine) && wrAll (wrB K k) xs its.toList)
          | _ => false) = true := h
        cases q : K.lookup a with
        | none => rw [q] at h; cases h
        | some o =>
          obtain ⟨oc, od, dt, osl⟩ := o
          rw [q] at h
          cases oc with
          | type c =>
            cases od with
            | none =>
              cases dt with
              | seq its n =>
                have h : (decide (c = "tuple") && (decide (its.size ≤ sizeLine) && wrAll (wrB K k) xs its.toList)) = true := h
                rw [Bool.and_eq_true, Bool.and_eq_true] at h
                obtain ⟨h1, h2, h3⟩ := h
                obtain ⟨vs, r, rr⟩ := wrAll_ok (wrB_ok k) h3
                have e1 := of_decide_eq_true h1
                subst e1
                exact ⟨.ref a, rfl, fun W => rel_tup (.inr ⟨_, its, n, q, rfl, rfl, of_decide_eq_true h2, r⟩) (rr W), fun b z => by cases z; exact ⟨_, q, rfl, rfl⟩⟩
              | _ => cases h
            | some b => cases dt <;> cases h
          | _ => cases od <;> cases dt <;> cases h
      | _ => cases h
    | _ => cases h
/-! ### written dicts -/
abbrev KdP (K : PySem.W.Frag) : Str × D → DictEntry → Prop := fun q e => (∃ t, e.key = .str q.1 t) ∧ Wr K q.2 e.val
structure KdR (K : PySem.W.Frag) (w : World) (a : Addr) (kvs : List (Str × D)) : Prop where
  ex : ∃ es n, L2.KDict K w a es n ∧ Paired (KdP K) kvs es.toList
  nd : (kvs.map (·.1)).Nodup
def kdAll (K : PySem.W.Frag) : List (Str × D) → List DictEntry → Bool
  | [], [] => true
  | q :: qs, e :: es => (match e.key with | .str x _ => decide (q.1 = x) | _ => false) && wrB K 6 q.2 e.val && kdAll K qs es
  | _, _ => false
def kdB (K : PySem.W.Frag) (a : Addr) (kvs : List (Str × D)) : Bool := match K.lookup a with
  | some ⟨_, _, .dict es _, _⟩ => kdAll K kvs es.toList && decide ((kvs.map (·.1)).Nodup)
  | _ => false
theorem kdAll_ok {K : PySem.W.Frag} : ∀ {qs : List (Str × D)} {es : List DictEntry}, kdAll K qs es = true → Paired (KdP K) qs es
  | [], [], _ => .nil
  | [], _ :: _, h => by cases h
  | _ :: _, [], h => by cases h
  | q :: qs, e :: es, h => by
    have h : ((match e.key with | .str x _ => decide (q.1 = x) | _ => false) && wrB K 6 q.2 e.val && kdAll K qs es) = true := h
    rw [Bool.and_eq_true, Bool.and_eq_true] at h
    obtain ⟨⟨h1, h2⟩, h3⟩ := h
    refine .cons ⟨?_, wrB_ok 6 _ _ h2⟩ (kdAll_ok h3)
    split at h1
    · rename_i x t hk
      exact ⟨t, by rw [hk, of_decide_eq_true h1]⟩
    · cases h1
theorem kdB_ok {K : PySem.W.Frag} {w : World} {a : Addr} {kvs : List (Str × D)} (h : kdB K a kvs = true) {es : Array DictEntry} {n : Nat} (D : L2.KDict K w a es n) : KdR K w a kvs := by
  unfold kdB at h
  rw [D.at_] at h
  have h : (kdAll K kvs es.toList && decide ((kvs.map (·.1)).Nodup)) = true := h
  rw [Bool.and_eq_true] at h
  exact ⟨⟨es, n, D, kdAll_ok h.1⟩, of_decide_eq_true h.2⟩
theorem kd_pairs {K : PySem.W.Frag} {P : Program} {w : World} : ∀ {kvs : List (Str × D)} {es : List DictEntry}, Paired (KdP K) kvs es → PySem.W.KeysLit w.params es →
    ∃ (kws : List (Key × V)) (vs : List (Key × Value)), KV kws vs ∧ Pairs (mixKind P w) es vs ∧ kws.map (·.1) = kvs.map (fun q => (.inr q.1 : Key)) ∧ (∀ W, RelDs K W (kvs.map (·.2)) (kws.map (·.2))) ∧ ∀ e ∈ es, ∃ k, (mixKind P w).is k e.key = true ∧ e.hash = (mixKind P w).hash k
  | _, _, .nil, _ => ⟨[], [], .nil, .nil, rfl, fun W => relDs_nil, fun e h => by cases h⟩
  | _, _, .cons (a := q) (b := e) (l₂ := es) h t, hk => by
    obtain ⟨⟨x, t1, hx1, hx2⟩, hk2⟩ := hk
    obtain ⟨kws, vs, r1, r2, r3, r4, r5⟩ := kd_pairs (P := P) t hk2
    obtain ⟨⟨t2, ht2⟩, v, rv, rd, _⟩ := h
    have hx : x = q.1 := by rw [hx1] at ht2; cases ht2; rfl
    have his : (mixKind P w).is (.inr q.1) e.key = true := by rw [ht2]; exact keyIs_str q.1 t2
    refine ⟨(.inr q.1, v) :: kws, (.inr q.1, e.val) :: vs, .cons ⟨rfl, rv⟩ r1, .cons his rfl r2, by rw [List.map_cons, List.map_cons, r3], fun W => relDs_cons (rd W) (r4 W), fun e' he' => ?_⟩
    rcases List.mem_cons.mp he' with z | z
    · subst z
      exact ⟨.inr q.1, his, by rw [hx2, hx]; rfl⟩
    · exact r5 e' z
theorem KdR.dict {K : PySem.W.Frag} {P : Program} {w : World} {a : Addr} {kvs : List (Str × D)} {h : Heap} (R : KdR K w a kvs) (X : K.In h) : ∃ (kws : List (Key × V)) (vs : List (Key × Value)), KV kws vs ∧ h.DictOf (mixKind P w) a vs ∧ kws.map (·.1) = kvs.map (fun q => (.inr q.1 : Key)) ∧
    (∀ W, RelDs K W (kvs.map (·.2)) (kws.map (·.2))) ∧ (a == sysModules) = false := by
  obtain ⟨es, n, D, hp⟩ := R.ex
  obtain ⟨kws, vs, r1, r2, r3, r4, r5⟩ := kd_pairs (P := P) hp D.lit
  refine ⟨kws, vs, r1, ⟨_, es, n, X _ _ D.at_, ⟨rfl, rfl, rfl⟩, rfl, fun e he => r5 e (Array.mem_toList_iff.mpr he), r2, ?_⟩, r3, r4, D.low⟩
  rw [← KV.keys r1, r3]
  have e : kvs.map (fun q => (.inr q.1 : Key)) = (kvs.map (·.1)).map Sum.inr := by rw [List.map_map]; rfl
  rw [e]
  exact List.Pairwise.map _ (fun a b hab z => hab (Sum.inr.inj z)) R.nd
/-! ### looking up -/
def lookK (k : Key) : List Key → List D → Option D
  | k' :: ks, d :: ds => if decide (k' = k) then some d else lookK k ks ds
  | _, _ => none
theorem lookK_ok {K : PySem.W.Frag} {W : Wd} {k : Key} : ∀ {kws : List (Key × V)} {ds : List D}, RelDs K W ds (kws.map (·.2)) → (∀ d, lookK k (kws.map (·.1)) ds = some d → ∃ v, valV kws k = some v ∧ RelD K W d v) ∧ (lookK k (kws.map (·.1)) ds = none → valV kws k = none)
  | [], ds, r => ⟨fun d h => (by
      have h : lookK k [] ds = some d := h
      unfold lookK at h
      cases h), fun _ => rfl⟩
  | q :: kws, [], r => by
    unfold RelDs at r
    cases r
  | q :: kws, d :: ds, r => by
    unfold RelDs at r
    obtain ⟨v, vs, e, h1, h2⟩ := r
    have e' : q.2 :: kws.map (·.2) = v :: vs := e
    injection e' with e1 e2
    subst e1 e2
    obtain ⟨i1, i2⟩ := lookK_ok (k := k) h2
    have el : lookK k ((q :: kws).map (·.1)) (d :: ds) = if decide (q.1 = k) then some d else lookK k (kws.map (·.1)) ds := rfl
    rw [el]
    by_cases hq : q.1 = k
    · rw [decide_eq_true hq, if_pos rfl, valV_pos hq]
      exact ⟨fun d' h => by cases h; exact ⟨_, rfl, h1⟩, fun h => by cases h⟩
    · rw [decide_eq_false hq, if_neg Bool.false_ne_true, valV_neg hq]
      exact ⟨i1, i2⟩
theorem look_K {x : Str} : ∀ {kvs : List (Str × D)}, look x kvs = lookK (.inr x) (kvs.map fun q => (.inr q.1 : Key)) (kvs.map (·.2))
  | [] => rfl
  | (y, a) :: r => by
    show (if seq x y then some a else look x r) = if decide ((Sum.inr y : Key) = Sum.inr x) then some a else lookK (.inr x) _ _
    rw [look_K (kvs := r), key_rr]
    by_cases h : y = x
    · rw [seq_iff.mpr h.symm, decide_eq_true h]
    · rw [decide_eq_false h]
      cases hs : seq x y with
      | true => exact absurd (seq_iff.mp hs).symm h
      | false => rfl
/-! ### the meanings -/
def mKIx (kvs : List (Str × D)) (b : ME) : ME := fun e s => (b e s).bind fun d s1 => match d with
  | .str z => (match look z kvs with | some v => .ok v s1 | none => .bad)
  | _ => .bad
def kGetR (kvs : List (Str × D)) (d z : D) (s : Sto) : R D := match d with
  | .str x => .ok ((look x kvs).getD z) s
  | _ => .bad
def mKGet (kvs : List (Str × D)) (b c : ME) : ME := fun e s => (b e s).bind fun d s1 => (c e s1).bind fun z s2 => kGetR kvs d z s2
def mKGet1 (kvs : List (Str × D)) (b : ME) : ME := fun e s => (b e s).bind fun d s1 => match d with
  | .str x => .ok ((look x kvs).getD .non) s1
  | _ => .bad
def mKIn (neg : Bool) (kvs : List (Str × D)) (b : ME) : ME := fun e s => (b e s).bind fun d s1 => match d with
  | .str x => .ok (.bl (xor neg (look x kvs).isSome)) s1
  | _ => .bad
/-- {'k': v, ..} -/
def mDisp (ks : List Str) (as : MA) : ME := fun e s => (as e s).bind fun ds s1 => if ds.length = ks.length then .ok (.dic (ks.map Sum.inr) ds) s1 else .bad
def dIxR (d k : D) (s : Sto) : R D := match d, k with
  | .dic ks ds, .str x => (match lookK (.inr x) ks ds with | some v => .ok v s | none => .bad)
  | .dic ks ds, .int x => (match lookK (.inl x) ks ds with | some v => .ok v s | none => .bad)
  | _, _ => .bad
def mDIx (a b : ME) : ME := fun e s => (a e s).bind fun d s1 => (b e s1).bind fun k s2 => dIxR d k s2
def isDic : D → Bool
  | .dic _ _ => true
  | _ => false
def dGetR (d k z : D) (s : Sto) : R D := match d, k with
  | .dic ks ds, .str x => .ok ((lookK (.inr x) ks ds).getD z) s
  | .dic ks ds, .int x => .ok ((lookK (.inl x) ks ds).getD z) s
  | _, _ => .bad
def mDGet (a b c : ME) : ME := fun e s => (a e s).bind fun d s1 => if isDic d then (b e s1).bind fun k s2 => (c e s2).bind fun z s3 => dGetR d k z s3 else .bad
/-- a written dict's values stand alike in another -/
def hitsB (s : Sto) (ks : List Key) (ds : List D) : List (Str × D) → Option Bool
  | [] => some true
  | (k, v) :: r => match lookK (.inr k) ks ds with
    | none => some false
    | some y => match pyOf s 12 v, pyOf s 12 y, hitsB s ks ds r with
      | some a, some b, some c => some (PyData.eqv a b && c)
      | _, _, _ => none
def mKEq (neg : Bool) (kvs : List (Str × D)) (b : ME) : ME := fun e s => (b e s).bind fun d s1 => match d with
  | .dic ks ds => (match hitsB s1 ks ds kvs with | some r => .ok (.bl (xor neg (kvs.length == ds.length && r))) s1 | none => .bad)
  | _ => .bad
def mTIdx (xs : List D) (b : ME) : ME := fun e s => (b e s).bind fun d s1 => match pyOf s1 12 d, optAll (pyOf s1 11) xs with
  | some x, some ds => (match ds.findIdx? (fun z => PyData.eqv z x) with | some j => .ok (.int (j : Nat)) s1 | none => .bad)
  | _, _ => .bad
def mFmt (a : ME) : ME := fun e s => (a e s).bind fun d s1 => match d with
  | .str y => if y.length ≤ line then .ok (.str y) s1 else .bad
  | .int i => if i.natAbs.log2 < 1920 then .ok (.str (toString i)) s1 else .bad
  | _ => .bad
def jnE : List ME → Str → ME
  | [], acc => fun _ s => .ok (.str acc) s
  | m :: r, acc => fun e s => (m e s).bind fun d s1 => match d with
    | .str y => if (acc ++ y).length ≤ line then jnE r (acc ++ y) e s1 else .bad
    | _ => .bad
end Z

set_option Elab.async false
set_option linter.all false
set_option maxRecDepth 100000
set_option maxHeartbeats 1000000
/-! Y37: the rules of Y36's meanings. -/
namespace Z
open PySem PySem.Spec PyProof.Rows L2
section
variable {X : Cx} {p : Pl} {WX : L2.WX} {pins : List (Addr × Obj)} {σ : L2.St} {H : Hp} {s : Shared}
/-! ### f-strings -/
theorem r_fmt {a : ME} {e : Expr} {pos : Pos} (h : PE X e (tE p WX a)) : PE X (.FormattedValue e (-1) none pos) (tE p WX (mFmt a)) :=
  PE.imp (pe_fmt h) fun σ H Q ⟨W, e, s, re, rp, q⟩ => ⟨W, e, s, re, rp, q.bind fun W1 H1 d v s1 l fr rp1 rv q1 => by
    cases d with
    | str y =>
      cases relD_str rv
      have q1 : Post p (RelD p.K) W1 H1 (exW p WX σ) Q (if y.length ≤ line then .ok (.str y) s1 else .bad) := q1
      split at q1
      · rename_i hz
        exact .inl ⟨y, rfl, by rw [sizeLine_eq]; exact hz, Post.same rp1 q1 rel_str⟩
      · exact q1.elim
    | int i =>
      cases relD_int rv
      have q1 : Post p (RelD p.K) W1 H1 (exW p WX σ) Q (if i.natAbs.log2 < 1920 then .ok (.str (toString i)) s1 else .bad) := q1
      split at q1
      · rename_i hz
        exact .inr ⟨i, rfl, hz, Post.same rp1 q1 rel_str⟩
      · exact q1.elim
    | _ => exact q1.elim⟩
theorem jn_t : ∀ {ms : List ME} {acc : Str} {σ : L2.St} {H : Hp} {Q : VK}, tE p WX (jnE ms acc) σ H Q → tJs (ms.map (tE p WX)) acc σ H fun out H1 => Q (.str out) H1
  | [], acc, σ, H, Q, ⟨W, e, s, re, rp, q⟩ => Post.same rp q rel_str
  | m :: r, acc, σ, H, Q, ⟨W, e, s, re, rp, q⟩ => by
    have q : Post p (RelD p.K) W H (exW p WX σ) Q ((m e s).bind fun d s1 => match d with
      | .str y => if (acc ++ y).length ≤ line then jnE r (acc ++ y) e s1 else .bad
      | _ => .bad) := q
    refine ⟨W, e, s, re, rp, q.bind fun W1 H1 d v s1 l fr rp1 rv q1 => ?_⟩
    cases d with
    | str y =>
      cases relD_str rv
      have q1 : Post p (RelD p.K) W1 H1 (exW p WX σ) Q (if (acc ++ y).length ≤ line then jnE r (acc ++ y) e s1 else .bad) := q1
      split at q1
      · rename_i hz
        exact ⟨y, rfl, by rw [sizeLine_eq]; exact hz, jn_t (ms := r) ⟨W1, e, s1, re.mono l, rp1, q1⟩⟩
      · exact q1.elim
    | _ => exact q1.elim
theorem r_join {ms : List ME} {v1 v2 : Expr} {rest : List Expr} {pos : Pos} (h : PJ X (v1 :: v2 :: rest) (ms.map (tE p WX))) : PE X (.JoinedStr (v1 :: v2 :: rest) pos) (tE p WX (jnE ms Str.empty)) :=
  PE.imp (pe_joined h) fun σ H Q q => jn_t q
/-! ### written dicts -/
theorem kd_key {P : Program} {w : World} {x : Str} {u : Value} (r : RelV (.str x) u) : (mixKind P w).is (.inr x) u = true := kV_is (k := .inr x) r
theorem kd_look {K : PySem.W.Frag} {W : Wd} {kvs : List (Str × Z.D)} {kws : List (Key × V)} {vs : List (Key × Value)} {x : Str} (r1 : KV kws vs) (r3 : kws.map (·.1) = kvs.map (fun q => (.inr q.1 : Key))) (r4 : RelDs K W (kvs.map (·.2)) (kws.map (·.2))) :
    (∀ d, look x kvs = some d → ∃ v u, valueAt vs (.inr x) = some u ∧ RelV v u ∧ RelD K W d v) ∧ (look x kvs = none → valueAt vs (.inr x) = none) := by
  obtain ⟨i1, i2⟩ := lookK_ok (k := .inr x) r4
  rw [r3, ← look_K] at i1 i2
  have rel := r1.val (.inr x)
  refine ⟨fun d h => ?_, fun h => ?_⟩
  · obtain ⟨v, e, rd⟩ := i1 d h
    rw [e] at rel
    cases hv : valueAt vs (.inr x : Key) with
    | none => rw [hv] at rel; cases rel
    | some u => rw [hv] at rel; exact ⟨v, u, rfl, rel, rd⟩
  · have e := i2 h
    rw [e] at rel
    cases hv : valueAt vs (.inr x : Key) with
    | none => rfl
    | some u => rw [hv] at rel; cases rel
theorem r_kIx {a : Addr} {kvs : List (Str × Z.D)} {b : ME} {eo eb : Expr} {pos : Pos} (hK : p.K = X.K) (ho : PE X eo (tC (.ref a))) (R : KdR X.K X.w a kvs) (hb : PE X eb (tE p WX b)) (hs : NoSl eb) : PE X (.Subscript eo eb pos) (tE p WX (mKIx kvs b)) := by
  refine ⟨fun pins s σ H Q I ⟨W, e, st, re, rp, q⟩ => ?_⟩
  refine subD_of PySem.F.slot_dict_getitem.lookup hs (thn (ho.run pins s σ H (fun v H1 => v = .ref a ∧ H1 = H) I ⟨rfl, rfl⟩) fun u s1 ⟨x, H1, I1, rx, ex, eH⟩ => ?_)
  subst ex eH
  obtain rfl : u = Value.ref a := rx
  refine thn (hb.run pins s1 σ H1 _ I1 ⟨W, e, st, re, rp, q.bind fun W1 H2 d v s2 l fr rp1 rv q1 => (show (fun v H2 => ∃ W1 s2 d, RelD p.K W1 d v ∧ Rep p W1 s2 H2 ∧ Post p (RelD p.K) W1 H2 (exW p WX σ) Q (match d with
    | .str z => (match look z kvs with | some v => .ok v s2 | none => .bad)
    | _ => .bad)) v H2 from ⟨W1, s2, d, rv, rp1, q1⟩)⟩) fun iv s2 ⟨y, H2, I2, ry, W1, st2, d, rv, rp1, q1⟩ => ?_
  cases d with
  | str z =>
    cases relD_str rv
    obtain ⟨kws, vs, r1, dd, r3, r4, low⟩ := R.dict (P := X.prog) I2.kIn
    obtain ⟨i1, i2⟩ := kd_look (x := z) r1 r3 (r4 W1)
    have q1 : Post p (RelD p.K) W1 H2 (exW p WX σ) Q (match look z kvs with | some v => .ok v st2 | none => .bad) := q1
    cases hl : look z kvs with
    | none => rw [hl] at q1; exact q1.elim
    | some d =>
      rw [hl] at q1
      obtain ⟨v, u, e1, e2, e3⟩ := i1 d hl
      refine ⟨dd.typeIs, wpAny_getItem_of (kd_key ry) dd.mapOf e1 ?_⟩
      exact ⟨v, H2, I2.tok _, e2, Post.same rp1 q1 (hK ▸ e3)⟩
  | _ => exact q1.elim
theorem r_kGet {a : Addr} {kvs : List (Str × Z.D)} {b c : ME} {eo eb ec : Expr} {apos cpos : Pos} (hK : p.K = X.K) (ho : PE X eo (tC (.ref a))) (R : KdR X.K X.w a kvs) (hb : PE X eb (tE p WX b)) (hc : PE X ec (tE p WX c)) (m : M2 X eo "get" apos eb ec cpos) :
    PE X (.Call (.Attribute eo "get" apos) [eb, ec] [] cpos) (tE p WX (mKGet kvs b c)) := by
  refine ⟨fun pins s σ H Q I ⟨W, e, st, re, rp, q⟩ => ?_⟩
  refine wpAny_Call_method m.base m.few m.line PySem.F.plainAttrs_dict PySem.F.slot_dict_get PySem.F.type_dict_get (thn (ho.run pins s σ H (fun v H1 => v = .ref a ∧ H1 = H) I ⟨rfl, rfl⟩) fun u s1 ⟨x, H1, I1, rx, ex, eH⟩ => ?_)
  subst ex eH
  obtain rfl : u = Value.ref a := rx
  obtain ⟨kws, vs, r1, dd, r3, r4, low⟩ := R.dict (P := X.prog) I1.kIn
  refine ⟨dd.typeIs, dd.mapOf.noDict, ?_⟩
  rw [m.trees]
  refine Calls.callWith_builtin rfl (Calls.evalArgs_plain (Calls.spliced_cons (thn (hb.run pins s1 σ H1 _ I1 ⟨W, e, st, re, rp, q.bind fun W1 H2 d v s2 l fr rp1 rv q1 => (show (fun v H2 => ∃ W1 s2 d, W.le W1 ∧ RelD p.K W1 d v ∧ Rep p W1 s2 H2 ∧ Post p (RelD p.K) W1 H2 (exW p WX σ) Q ((c e s2).bind fun z s3 => kGetR kvs d z s3)) v H2 from ⟨W1, s2, d, l, rv, rp1, q1⟩)⟩) fun iv s2 ⟨y, H2, I2, ry, W1, st2, d, l, rv, rp1, q1⟩ =>
    Calls.spliced_cons (thn (hc.run pins s2 σ H2 _ I2 ⟨W1, e, st2, re.mono l, rp1, q1.bind fun W2 H3 z v2 s3 l2 fr2 rp2 rv2 q2 => (show (fun v2 H3 => ∃ W2 s3 z, RelD p.K W2 z v2 ∧ Rep p W2 s3 H3 ∧ Post p (RelD p.K) W2 H3 (exW p WX σ) Q (kGetR kvs d z s3)) v2 H3 from ⟨W2, s3, z, rv2, rp2, q2⟩)⟩) fun fv s3 ⟨y2, H3, I3, ry2, W2, st3, z, rv2, rp2, q2⟩ => Calls.spliced_nil ?_))))
  cases d with
  | str x =>
    cases relD_str rv
    obtain ⟨kws, vs, r1, dd, r3, r4, low⟩ := R.dict (P := X.prog) I3.kIn
    obtain ⟨i1, i2⟩ := kd_look (x := x) r1 r3 (r4 W2)
    refine call_meetsIn PySem.F.slot_dict_get dd.typeIs PySem.F.entry_dict_get (PySem.F.args_dict_get_3 _ _ _) (meets_dict_get_default (mixKind X.prog X.w) a (kd_key ry) low fv) ⟨_, dd.mapOf, ?_⟩
    have q2 : Post p (RelD p.K) W2 H3 (exW p WX σ) Q (.ok ((look x kvs).getD z) st3) := q2
    cases hl : look x kvs with
    | none =>
      rw [hl] at q2
      rw [i2 hl]
      exact ⟨y2, H3, I3.tok _, ry2, Post.same rp2 q2 rv2⟩
    | some d =>
      rw [hl] at q2
      obtain ⟨v, u, e1, e2, e3⟩ := i1 d hl
      rw [e1]
      exact ⟨v, H3, I3.tok _, e2, Post.same rp2 q2 (hK ▸ e3)⟩
  | _ => exact q2.elim
/-! ### tuple.index of a written tuple -/
theorem mt_tupIdx (hK : p.K = X.K) {a : Addr} {xs : List Z.D} (hx : ∀ W, RelD p.K W (.tup xs) (.ref a)) (hu : X.A.units + 65 < cLine) : MtR X "tuple.index" (fun x vs H Q => x = .ref a ∧ ∃ W st d v, vs = [v] ∧ Rep p W st H ∧ RelD p.K W d v ∧ ∃ y ds j, pyOf st 12 d = some y ∧ optAll (pyOf st 11) xs = some ds ∧ ds.findIdx? (fun z => PyData.eqv z y) = some j ∧ Q (.int (j : Nat)) H) := by
  intro pins s σ H x vs v us Q I rx rs ⟨ex, W, st, d, w, evs, rp, rd, y, ds, j, h1, h2, h3, q⟩
  subst ex evs
  obtain rfl : v = Value.ref a := rx
  cases rs with
  | cons ry rt =>
    rename_i uy ut
    cases rt
    have dy : Dp X.K H w y := hK ▸ py_dp rp 12 d w y h1 rd
    have pt : pyOf st 12 (.tup xs) = some (.tuple ds) := by
      show (optAll (pyOf st 11) xs).map PyData.tuple = _
      rw [h2]; rfl
    have dx : Dp X.K H (.ref a) (.tuple ds) := hK ▸ py_dp rp 12 (.tup xs) (.ref a) _ pt (hx W)
    have sd := py_shaped h1 (by decide)
    have sl := py_shaped pt (by decide)
    obtain ⟨bs, r1⟩ := Dp.reads I y w uy dy ry
    have hxs : PyData.canLayAll0 ds = true := SeqAt.canLay_of_shaped sl
    have hroom : X.A.units + 1 + min (PyData.depthAll ds) y.depth < cLine := room_in_shaped sd hu
    cases dx with
    | tup hs ha =>
      obtain ⟨its, rv, ⟨⟨cls, dd, data, sls⟩, ho, hc, n, hdt⟩, hlen⟩ := I.tuple hs
      simp only at hc hdt
      subst hc hdt
      obtain ⟨as, h4⟩ := Dp.readsAll I ds _ its ha rv
      have hn : its.length = ds.length := SeqAt.ReadsAll.length ds its as h4
      have hmap : its.map (SeqAt.readOf s.heap) = ds := SeqAt.readsAll_map ds its as hxs h4
      obtain ⟨hjd, hzj, hno⟩ := List.findIdx?_eq_some_iff_getElem.mp h3
      have hjl : j < its.length := by omega
      have hj : j < its.toArray.size := by simpa using hjl
      have at_ : ∀ (m : Nat) (hm : m < its.toArray.size) (z' : PyData), ds[m]? = some z' → SeqAt.readOf s.heap its.toArray[m] = z' := by
        intro m hm z' hz'
        have hml : m < its.length := by simpa using hm
        rw [← hmap, List.getElem?_map, List.getElem?_eq_getElem hml] at hz'
        have e1 : SeqAt.readOf s.heap its[m] = z' := Option.some.inj (show some (SeqAt.readOf s.heap its[m]) = some z' from hz')
        simpa using e1
      refine call_meets PySem.F.slot_tuple_index ⟨_, ho, rfl⟩ PySem.F.entry_tuple_index (PySem.F.args_tuple_index_2 _ _)
        (TI.tuple_indexAt a its.toArray n dd sls uy (fun u => PyData.eqv (SeqAt.readOf s.heap u) y) j hj ?_ ?_) ⟨ho, SeqAt.items_eqAt (vs := its.toArray) (show ReadsAll s.heap its.toArray.toList ds as from h4) r1 hxs (SeqAt.canLay_of_shaped sd) hroom, ?_⟩
      · show PyData.eqv (SeqAt.readOf s.heap its.toArray[j]) y = true
        rw [at_ j hj _ (List.getElem?_eq_getElem hjd)]
        exact hzj
      · intro m hm hmj
        have hmd : m < ds.length := by omega
        show PyData.eqv (SeqAt.readOf s.heap its.toArray[m]) y = false
        rw [at_ m hm _ (List.getElem?_eq_getElem hmd)]
        have := hno m hmj
        simpa using this
      · exact ⟨.int (j : Nat), H, I.tok _, ⟨_, rfl⟩, q⟩
theorem r_tIdx (hK : p.K = X.K) {a : Addr} {xs : List Z.D} {b : ME} {eo eb : Expr} {apos cpos : Pos} (ho : PE X eo (tC (.ref a))) (hx : ∀ W, RelD p.K W (.tup xs) (.ref a)) (hk : ∃ o, X.K.lookup a = some o ∧ o.cls = .type "tuple" ∧ o.dict = none) (hu : X.A.units + 65 < cLine) (hb : PE X eb (tE p WX b))
    (hbase : attributeBase eo "index" X.env (eval eo X.env) = eval eo X.env)
    (hfew : ((backTo cpos (starEach [eb] X.env)).all (fun x => !x.1) && (backToKw cpos (keywordEach [] X.env)).all (fun x => x.1.isSome) && decide (([eb] : List Expr).length + ([] : List Keyword).length + (if ([] : List Keyword).isEmpty then 0 else 1) < 30)) = true)
    (hline : (apos.endLine == cpos.line) = true) (hs : starEach [eb] X.env = (false, eval eb X.env) :: starEach [] X.env) : PE X (.Call (.Attribute eo "index" apos) [eb] [] cpos) (tE p WX (mTIdx xs b)) := by
  have has : PA X [eb] (tA p WX (aCons b aNil)) := r_cons hb r_nil hs
  refine PE.imp (pe_bm PySem.F.plainAttrs_tuple PySem.F.slot_tuple_index PySem.F.type_tuple_index (mt_tupIdx hK hx hu) ho has hbase hfew hline hs (by rfl)) fun σ H Q ⟨W, e, st, re, rp, q⟩ => ?_
  refine ⟨.inr (.inl ⟨rfl, hk⟩), W, e, st, re, rp, ?_⟩
  unfold aCons aNil
  unfold mTIdx at q
  cases h : b e st with
  | bad => rw [h] at q; exact q.elim
  | exc c s2 => rw [h] at q; exact q
  | ok d s2 =>
    rw [h] at q
    intro W1 H1 vs l fr rp1 rv
    have q' : Post p (RelD p.K) W H (exW p WX σ) Q (match pyOf s2 12 d, optAll (pyOf s2 11) xs with
      | some x, some ds => (match ds.findIdx? (fun z => PyData.eqv z x) with | some j => .ok (.int (j : Nat)) s2 | none => .bad)
      | _, _ => .bad) := q
    obtain ⟨v, rfl, rv1⟩ := relDs_1 rv
    refine ⟨rfl, W1, s2, d, v, rfl, rp1, rv1, ?_⟩
    cases h1 : pyOf s2 12 d with
    | none => rw [h1] at q'; exact q'.elim
    | some y =>
      cases h2 : optAll (pyOf s2 11) xs with
      | none => rw [h1, h2] at q'; exact q'.elim
      | some ds =>
        rw [h1, h2] at q'
        have q' : Post p (RelD p.K) W H (exW p WX σ) Q (match ds.findIdx? (fun z => PyData.eqv z y) with | some j => .ok (.int (j : Nat)) s2 | none => .bad) := q'
        cases h3 : ds.findIdx? (fun z => PyData.eqv z y) with
        | none => rw [h3] at q'; exact q'.elim
        | some j =>
          rw [h3] at q'
          exact ⟨y, ds, j, rfl, rfl, h3, q' W1 H1 _ l fr rp1 rel_int⟩
/-! ### displays -/
theorem merge_nd : ∀ {more acc : List (Key × V)}, ((acc ++ more).map (·.1)).Nodup → mergeK acc more = acc ++ more
  | [], acc, _ => by rw [List.append_nil]; rfl
  | q :: r, acc, h => by
    show mergeK (putK acc q.1 q.2) r = _
    have hn : valV acc q.1 = none := by
      cases hv : valV acc q.1 with
      | none => rfl
      | some v =>
        have hm := valV_in hv
        rw [List.map_append, List.map_cons] at h
        exact absurd rfl ((List.nodup_append.mp h).2.2 _ hm _ (List.mem_cons_self ..))
    rw [putK_new q.2 hn]
    have e : acc ++ q :: r = (acc ++ [(q.1, q.2)]) ++ r := by simp
    rw [e] at h ⊢
    exact merge_nd h
/-- the values of a display -/
def aVals : List ME → MA
  | [] => aNil
  | m :: r => aCons m (aVals r)
theorem pairs_t {p0 : Addr} : ∀ {kms : List (Str × ME)} {σ : L2.St} {H : Hp} {Q : List (V × V) → Hp → Prop}, tA p WX (aVals (kms.map (·.2))) σ H (fun vs H1 => vs.length = kms.length → Q ((kms.map fun q => V.str q.1).zip vs) H1) → tPairs (kms.map fun q => (tC (.str q.1), tE p WX q.2)) σ H Q
  | [], σ, H, Q, ⟨W, e, s, re, rp, q⟩ => Post.same rp q relDs_nil rfl
  | m :: r, σ, H, Q, ⟨W, e, s, re, rp, q⟩ => by
    have q : Post p (RelDs p.K) W H (exW p WX σ) (fun vs H1 => vs.length = (m :: r).length → Q (((m :: r).map fun q => V.str q.1).zip vs) H1) ((m.2 e s).bind fun x s1 => (aVals (r.map (·.2)) e s1).bind fun xs s2 => .ok (x :: xs) s2) := q
    show tE p WX m.2 σ H fun y H2 => tPairs (r.map fun q => (tC (.str q.1), tE p WX q.2)) σ H2 fun ps H3 => Q ((V.str m.1, y) :: ps) H3
    refine ⟨W, e, s, re, rp, q.bind fun W1 H1 d v s1 l fr rp1 rv q1 => ?_⟩
    refine pairs_t (p0 := p0) (kms := r) ⟨W1, e, s1, re.mono l, rp1, ?_⟩
    refine q1.bind fun W2 H2 ds vs s2 l2 fr2 rp2 rvs q2 => ?_
    intro hl
    refine q2 W2 H2 (v :: vs) (Wd.le.refl W2) (Fr.refl W2 H2) rp2 (relDs_cons (rv.mono l2) rvs) ?_
    rw [List.length_cons, List.length_cons, hl]
theorem kms_pps : ∀ {kms : List (Str × ME)} {keys : List (Option Expr)} {values : List Expr} {pos : Pos}, Paired (fun (k : Option Expr) (q : Str × ME) => ∃ j kp, k = some (.Constant (.str q.1) j kp)) keys kms → Paired (fun (e : Expr) (q : Str × ME) => PE X e (tE p WX q.2)) values kms → PPs X pos keys values (kms.map fun q => (tC (.str q.1), tE p WX q.2))
  | _, _, _, _, .nil, .nil => pps_nil
  | _, _, _, _, .cons ⟨j, kp, e⟩ t, .cons h t2 => by
    subst e
    exact pps_cons (pe_str) h (kms_pps t t2)
theorem zip_kV : ∀ {ks : List Str} {vs : List V}, (ks.map V.str).zip vs = (ks.zip vs).map (fun q => (kV (.inr q.1 : Key), q.2))
  | [], vs => by rw [List.map_nil, List.zip_nil_left, List.zip_nil_left]; rfl
  | k :: r, [] => by rw [List.zip_nil_right, List.zip_nil_right]; rfl
  | k :: r, v :: vs => by rw [List.map_cons, List.zip_cons_cons, List.zip_cons_cons, List.map_cons, zip_kV]; rfl
/-- a thing that nobody knows is frozen -/
theorem Rep.freeze {W : Wd} {st : Sto} {H : Hp} {a : Addr} {u o : HO} (r : Rep p W st H) (hu : H a = some u) (hs : isSt u = true) (nf : W.fz a = none) (nio : a ∉ W.io) (ht : ∀ ps, o ≠ .tbl ps) : W.le ⟨upd W.fz a o, W.io, W.lf⟩ ∧ Rep p ⟨upd W.fz a o, W.io, W.lf⟩ st (upd H a o) := by
  have le : W.le ⟨upd W.fz a o, W.io, W.lf⟩ := ⟨fun b x e => by
    show upd W.fz a o b = some x
    rw [upd_ne (ne_of_none e nf)]; exact e, ⟨[], by simp⟩, rfl⟩
  refine ⟨le, ⟨r.tab.put hu hs, fun b x e => ?_, fun b ps e => ?_, r.len, r.nd, fun b hb => ?_, fun k ob b e1 e2 => ?_⟩⟩
  · have e' : upd W.fz a o b = some x := e
    by_cases hb : b = a
    · rw [hb, upd_same] at e' ⊢; exact e'
    · rw [upd_ne hb] at e' ⊢; exact r.fz b x e'
  · have e' : upd W.fz a o b = some (.tbl ps) := e
    by_cases hb : b = a
    · rw [hb, upd_same] at e'; exact ht ps (Option.some.inj e')
    · rw [upd_ne hb] at e'; exact r.nt b ps e'
  · have hba : b ≠ a := fun z => nio (z ▸ hb)
    rw [upd_ne hba]; exact r.tr b hb
  · have hba : b ≠ a := fun z => nio (z ▸ List.mem_of_getElem? e2)
    exact (r.obs k ob b e1 e2).keep le (upd_ne hba) (fun z => by
      show upd W.fz a o b = none
      rw [upd_ne hba]; exact z)
theorem r_disp {kms : List (Str × ME)} {keys : List (Option Expr)} {values : List Expr} {pos : Pos} (hk : Paired (fun (k : Option Expr) (q : Str × ME) => ∃ j kp, k = some (.Constant (.str q.1) j kp)) keys kms) (hv : Paired (fun (e : Expr) (q : Str × ME) => PE X e (tE p WX q.2)) values kms)
    (h0 : keys ≠ []) (h15 : keys.length ≤ 15) (hnd : (kms.map (·.1)).Nodup) : PE X (.Dict keys values pos) (tE p WX (mDisp (kms.map (·.1)) (aVals (kms.map (·.2))))) := by
  have lk := Paired.length hk
  have lv := Paired.length hv
  have hall : keys.all (·.isSome) = true := by
    clear lk lv hv h0 h15 hnd
    induction hk with
    | nil => rfl
    | cons h t ih =>
      obtain ⟨j, kp, e⟩ := h
      subst e
      rw [List.all_cons, ih]; rfl
  refine ⟨fun pins s σ H Q I ⟨W, e, st, re, rp, q⟩ => ?_⟩
  refine wpAny_mono ((pe_disp (kms_pps hk hv) hall (lk.trans lv.symm) h0 h15).run pins s σ H (fun v H1 => ∃ a kws W1 st1 ds, v = .ref a ∧ H1 a = some (.dK kws) ∧ kws.map (·.1) = (kms.map (·.1)).map Sum.inr ∧ W.le W1 ∧ ∃ H2, H2 a = some (.dK []) ∧ H1 = upd H2 a (.dK kws) ∧ Fr W W1 H H2 ∧ Rep p W1 st1 H2 ∧ RelDs p.K W1 ds (kws.map (·.2)) ∧ H a = none ∧ W1.fz a = none ∧ a ∉ W1.io ∧ Post p (RelD p.K) W H (exW p WX σ) Q (.ok (.dic ((kms.map (·.1)).map Sum.inr) ds) st1)) I ?_) (fun u s1 ⟨v, H1, I1, r1, a, kws, W1, st1, ds, ev, ha, hks, l, H2, hb, eH, fr, rp1, rds, hn, nf, nio, q1⟩ => ?_) fun _ _ z => z
  · intro a ha
    obtain ⟨f1, r1⟩ := rp.aside (o := .dK []) ha
    refine pairs_t (p0 := a) ⟨W, e, st, re, r1, ?_⟩
    have q : Post p (RelD p.K) W H (exW p WX σ) Q ((aVals (kms.map (·.2)) e st).bind fun ds s1 => if ds.length = (kms.map (·.1)).length then .ok (.dic ((kms.map (·.1)).map Sum.inr) ds) s1 else .bad) := q
    show Post p (RelDs p.K) W (upd H a (.dK [])) (exW p WX σ) _ (aVals (kms.map (·.2)) e st)
    cases hr : aVals (kms.map (·.2)) e st with
    | bad => rw [hr] at q; exact q.elim
    | exc c s1 =>
      rw [hr] at q
      exact fun W' H' l fr rp' => q W' H' l (f1.trans fr) rp'
    | ok ds s1 =>
    rw [hr] at q
    intro W1 H2 vs l fr rp1 rds hlen
    have hds : ds.length = kms.length := by rw [rds.length, hlen]
    have q1 : Post p (RelD p.K) W H (exW p WX σ) Q (if ds.length = (kms.map (·.1)).length then .ok (.dic ((kms.map (·.1)).map Sum.inr) ds) s1 else .bad) := q
    rw [if_pos (by rw [hds, List.length_map])] at q1
    have hio : a ∉ W.io := fun z => rp.tr a z ha
    have hb : H2 a = some (.dK []) := fr.keep a _ upd_same hio (fun ps z => by cases z)
    have e1 : ((kms.map fun q => V.str q.1).zip vs) = ((kms.map (·.1)).zip vs).map (fun q => (kV (.inr q.1 : Key), q.2)) := by
      have e0 : (kms.map fun q => V.str q.1) = (kms.map (·.1)).map V.str := by rw [List.map_map]; rfl
      rw [e0, zip_kV]
    have nf : W1.fz a = none := by
      cases hz : W1.fz a with
      | none => rfl
      | some o =>
        exfalso
        rcases fr.new a (by rw [hz]; simp) with z | z | z | ⟨o2, z, z2⟩
        · cases hw : W.fz a with
          | none => exact z hw
          | some o3 => have := rp.fz a o3 hw; rw [ha] at this; cases this
        · rw [upd_same] at z; cases z
        · exact hio z
        · rw [upd_same] at z; cases z; cases z2
    have nio : a ∉ W1.io := fun z => by
      rcases fr.io a z with z | z
      · exact hio z
      · rw [upd_same] at z; cases z
    have ek : (((kms.map (·.1)).zip vs).map fun q => ((.inr q.1 : Key), q.2)).map (·.1) = (kms.map (·.1)).map Sum.inr := by
      have hl2 : (kms.map (·.1)).length ≤ vs.length := by rw [List.length_map, hlen]; exact Nat.le_refl _
      rw [List.map_map]
      have : ((fun q : Key × V => q.1) ∘ fun q : Str × V => ((.inr q.1 : Key), q.2)) = (fun x : Str => (Sum.inr x : Key)) ∘ Prod.fst := rfl
      rw [this, ← List.map_map, List.map_fst_zip hl2]
    have ev : (((kms.map (·.1)).zip vs).map fun q => ((.inr q.1 : Key), q.2)).map (·.2) = vs := by
      have hl2 : vs.length ≤ (kms.map (·.1)).length := by rw [List.length_map, hlen]; exact Nat.le_refl _
      rw [List.map_map]
      have : ((fun q : Key × V => q.2) ∘ fun q : Str × V => ((.inr q.1 : Key), q.2)) = Prod.snd := rfl
      rw [this, List.map_snd_zip hl2]
    refine ⟨hb, ((kms.map (·.1)).zip vs).map fun q => ((.inr q.1 : Key), q.2), ?_, ?_, a, _, W1, s1, ds, rfl, upd_same, ?_, l, H2, hb, rfl, f1.trans fr, rp1, ?_, ha, nf, nio, q1⟩
    · rw [e1, List.map_map]; rfl
    · rw [List.length_map, List.length_zip, List.length_map, hlen, Nat.min_self, ← lk]; exact h15
    · have hm : (([] : List (Key × V)) ++ (((kms.map (·.1)).zip vs).map fun q => ((.inr q.1 : Key), q.2))).map (·.1) = (kms.map (·.1)).map Sum.inr := by rw [List.nil_append, ek]
      rw [merge_nd (by rw [hm]; exact List.Pairwise.map _ (fun a b hab z => hab (Sum.inr.inj z)) hnd), List.nil_append, ek]
    · have hm : (([] : List (Key × V)) ++ (((kms.map (·.1)).zip vs).map fun q => ((.inr q.1 : Key), q.2))).map (·.1) = (kms.map (·.1)).map Sum.inr := by rw [List.nil_append, ek]
      rw [merge_nd (by rw [hm]; exact List.Pairwise.map _ (fun a b hab z => hab (Sum.inr.inj z)) hnd), List.nil_append, ev]
      exact rds
  · subst ev
    obtain rfl : u = Value.ref a := r1
    obtain ⟨od, I2⟩ := I1.lock ha trivial
    subst eH
    rw [upd_upd] at I2
    obtain ⟨l2, rp2⟩ := rp1.freeze (o := .frz od (.dK kws)) hb rfl nf nio (fun ps z => by cases z)
    refine ⟨.ref a, _, I2, rfl, q1 _ _ _ (l.trans l2) ⟨fun b x e hb2 hx => ?_, fun b hb2 => ?_, fun b hb2 => ?_, fun b hb2 => fr.io b hb2⟩ rp2 ?_⟩
    · rw [upd_ne (ne_of_none e hn)]; exact fr.keep b x e hb2 hx
    · by_cases z : b = a
      · rw [z, upd_same]; simp
      · rw [upd_ne z]; exact fr.sm b hb2
    · by_cases z : b = a
      · rw [z]; exact .inr (.inl hn)
      · have h' : upd W1.fz a (.frz od (.dK kws)) b ≠ none := hb2
        rw [upd_ne z] at h'
        exact fr.new b h'
    · unfold RelD
      exact ⟨a, od, kws, rfl, upd_same, hks, rds.mono l2⟩
/-! ### reading them -/
theorem dic_rd {W : Wd} {st : Sto} {H : Hp} {ks : List Key} {ds : List Z.D} {v : V} (rp : Rep p W st H) (rv : RelD p.K W (.dic ks ds) v) : ∃ a kws, v = .ref a ∧ Rd H a (.dK kws) ∧ kws.map (·.1) = ks ∧ RelDs p.K W ds (kws.map (·.2)) := by
  unfold RelD at rv
  obtain ⟨a, o, kws, rfl, h1, h2, h3⟩ := rv
  exact ⟨a, kws, rfl, .inr ⟨o, rp.fz _ _ h1⟩, h2, h3⟩
def keyOf : Z.D → Option Key
  | .str x => some (.inr x)
  | .int i => some (.inl i)
  | _ => none
theorem keyOf_rel {W : Wd} {d : Z.D} {k : Key} {v : V} (h : keyOf d = some k) (rv : RelD p.K W d v) : v = kV k := by
  cases d with
  | str x => cases h; cases relD_str rv; rfl
  | int i => cases h; cases relD_int rv; rfl
  | _ => cases h
theorem dIx_eq {d k : Z.D} {st : Sto} {r : Prop} (h : ∀ ks ds k', d = .dic ks ds → keyOf k = some k' → dIxR d k st = (match lookK k' ks ds with | some v => .ok v st | none => .bad) → r) (hb : dIxR d k st = .bad → r) : r := by
  cases d with
  | dic ks ds =>
    cases k with
    | str x => exact h ks ds (.inr x) rfl rfl rfl
    | int x => exact h ks ds (.inl x) rfl rfl rfl
    | _ => exact hb rfl
  | _ => exact hb rfl
theorem r_dIx {a b : ME} {ea eb : Expr} {pos : Pos} (hu : X.A.units + 1 < cLine) (ha : PE X ea (tE p WX a)) (hb : PE X eb (tE p WX b)) (hs : NoSl eb) : PE X (.Subscript ea eb pos) (tE p WX (mDIx a b)) :=
  PE.imp (pe_dget hu ha hb hs) fun σ H Q ⟨W, e, st, re, rp, q⟩ => ⟨W, e, st, re, rp, q.bind fun W1 H1 d v s1 l fr rp1 rv q1 => ⟨W1, e, s1, re.mono l, rp1, q1.bind fun W2 H2 k w s2 l2 fr2 rp2 rw2 q2 => by
    refine dIx_eq (d := d) (k := k) (st := s2) (fun ks ds k' ed ek eq => ?_) fun eb => by rw [eb] at q2; exact q2.elim
    rw [eq] at q2
    subst ed
    obtain ⟨x, kws, rfl, hx, hks, hds⟩ := dic_rd rp2 (rv.mono l2)
    obtain ⟨i1, i2⟩ := lookK_ok (k := k') hds
    rw [hks] at i1
    cases hl : lookK k' ks ds with
    | none => rw [hl] at q2; exact q2.elim
    | some d2 =>
      rw [hl] at q2
      obtain ⟨v2, e2, r2⟩ := i1 d2 hl
      exact ⟨x, v2, rfl, .inl ⟨kws, k', hx, keyOf_rel ek rw2, e2.symm⟩, Post.same rp2 q2 r2⟩⟩⟩
theorem dGet_eq {d k z : Z.D} {st : Sto} {r : Prop} (h : ∀ ks ds k', d = .dic ks ds → keyOf k = some k' → dGetR d k z st = .ok ((lookK k' ks ds).getD z) st → r) (hb : dGetR d k z st = .bad → r) : r := by
  cases d with
  | dic ks ds =>
    cases k with
    | str x => exact h ks ds (.inr x) rfl rfl rfl
    | int x => exact h ks ds (.inl x) rfl rfl rfl
    | _ => exact hb rfl
  | _ => exact hb rfl
theorem r_dGet {a b c : ME} {ea eb ec : Expr} {apos cpos : Pos} (hu : X.A.units + 1 < cLine) (ha : PE X ea (tE p WX a)) (hb : PE X eb (tE p WX b)) (hc : PE X ec (tE p WX c)) (m : M2 X ea "get" apos eb ec cpos) : PE X (.Call (.Attribute ea "get" apos) [eb, ec] [] cpos) (tE p WX (mDGet a b c)) :=
  PE.imp (pe_dget2 hu ha hb hc m) fun σ H Q ⟨W, e, st, re, rp, q⟩ => ⟨W, e, st, re, rp, q.bind fun W1 H1 d v s1 l fr rp1 rv q1 => by
    cases d with
    | dic ks ds =>
      obtain ⟨x, kws, rfl, hx, hks, hds⟩ := dic_rd rp1 rv
      refine ⟨x, rfl, .inl ⟨kws, hx⟩, W1, e, s1, re.mono l, rp1, ?_⟩
      have q1 : Post p (RelD p.K) W1 H1 (exW p WX σ) Q ((b e s1).bind fun k s2 => (c e s2).bind fun z s3 => dGetR (.dic ks ds) k z s3) := q1
      refine q1.bind fun W2 H2 k w s2 l2 fr2 rp2 rw2 q2 => ⟨W2, e, s2, (re.mono l).mono l2, rp2, q2.bind fun W3 H3 z w3 s3 l3 fr3 rp3 rw3 q3 => ?_⟩
      refine dGet_eq (d := .dic ks ds) (k := k) (z := z) (st := s3) (fun ks' ds' k' ed ek eq => ?_) fun eb => by rw [eb] at q3; exact q3.elim
      cases ed
      rw [eq] at q3
      obtain ⟨x', kws', ex', hx', hks', hds'⟩ := dic_rd rp3 ((rv.mono l2).mono l3)
      cases ex'
      obtain ⟨i1, i2⟩ := lookK_ok (k := k') hds'
      rw [hks'] at i1 i2
      refine ⟨valV kws' k', .inl ⟨kws', k', hx', keyOf_rel ek (rw2.mono l3), rfl⟩, ?_⟩
      cases hl : lookK k' ks ds with
      | none =>
        rw [hl] at q3
        rw [i2 hl]
        exact Post.same rp3 q3 rw3
      | some d2 =>
        rw [hl] at q3
        obtain ⟨v2, e2, r2⟩ := i1 d2 hl
        rw [e2]
        exact Post.same rp3 q3 r2
    | _ => exact q1.elim⟩
end
end Z

set_option Elab.async false
set_option linter.all false
set_option maxRecDepth 100000
set_option maxHeartbeats 1000000
/-! Y38: == of a written dict, len(dict(pairs)). -/
namespace Z
open PySem PySem.Spec PyProof.Rows L2
section
variable {X : Cx} {p : Pl} {WX : L2.WX} {pins : List (Addr × Obj)} {σ : L2.St} {H : Hp} {s : Shared}
theorem hits_ok (hK : p.K = X.K) (hu : X.A.units + 65 < cLine) (I : L2.Inv X pins σ H s) {W : Wd} {st : Sto} (rp : Rep p W st H) {ks : List Key} {ds : List Z.D} {kwb : List (Key × V)} {vsb : List (Key × Value)} (hks : kwb.map (·.1) = ks) (hds : RelDs p.K W ds (kwb.map (·.2))) (relb : KV kwb vsb) :
    ∀ {kvs : List (Str × Z.D)} {kws : List (Key × V)} {vs : List (Key × Value)} {r : Bool}, KV kws vs → kws.map (·.1) = kvs.map (fun q => (.inr q.1 : Key)) → RelDs p.K W (kvs.map (·.2)) (kws.map (·.2)) → hitsB st ks ds kvs = some r → PySem.W.KeqHits X.A.in1 s vsb vs r
  | [], _, _, r, .nil, _, _, h => by cases h; exact .nil
  | q :: kvs, _, _, _, .nil, h, _, _ => by cases h
  | [], _, _, _, .cons _ _, h, _, _ => by cases h
  | (k, d) :: kvs, _, _, r, .cons (a := kw) (b := vv) (l₁ := kws) (l₂ := vs) hkv t, h, hd, hh => by
    have h : kw.1 :: kws.map (·.1) = (.inr k : Key) :: kvs.map (fun q => (.inr q.1 : Key)) := h
    injection h with h1 h2
    have hd : RelDs p.K W (d :: kvs.map (·.2)) (kw.2 :: kws.map (·.2)) := hd
    unfold RelDs at hd
    obtain ⟨v, vr, e, r1, r2⟩ := hd
    injection e with e1 e2
    subst e1 e2
    obtain ⟨i1, i2⟩ := lookK_ok (k := .inr k) hds
    rw [hks] at i1 i2
    have rel := relb.val (.inr k)
    obtain ⟨vk, vval⟩ := vv
    have ek : vk = .inr k := by rw [← h1]; exact hkv.1.symm
    subst ek
    have hh : (match lookK (.inr k) ks ds with
      | none => some false
      | some y => match pyOf st 12 d, pyOf st 12 y, hitsB st ks ds kvs with
        | some a, some b, some c => some (PyData.eqv a b && c)
        | _, _, _ => none) = some r := hh
    cases hl : lookK (.inr k) ks ds with
    | none =>
      rw [hl] at hh
      cases hh
      rw [i2 hl] at rel
      refine .miss ?_
      cases hv : valueAt vsb (.inr k : Key) with
      | none => rfl
      | some u => rw [hv] at rel; cases rel
    | some y =>
      rw [hl] at hh
      obtain ⟨w, ew, rw1⟩ := i1 y hl
      rw [ew] at rel
      cases hv : valueAt vsb (.inr k : Key) with
      | none => rw [hv] at rel; cases rel
      | some u =>
        rw [hv] at rel
        have rel : RelV w u := rel
        have hh : (match pyOf st 12 d, pyOf st 12 y, hitsB st ks ds kvs with
          | some a, some b, some c => some (PyData.eqv a b && c)
          | _, _, _ => none) = some r := hh
        cases ha : pyOf st 12 d with
        | none => rw [ha] at hh; cases hh
        | some a =>
          cases hb : pyOf st 12 y with
          | none => rw [ha, hb] at hh; cases hh
          | some b =>
            cases hc : hitsB st ks ds kvs with
            | none => rw [ha, hb, hc] at hh; cases hh
            | some c =>
              rw [ha, hb, hc] at hh
              cases hh
              have da : Dp X.K H kw.2 a := hK ▸ py_dp rp 12 d _ a ha r1
              have db : Dp X.K H w b := hK ▸ py_dp rp 12 y _ b hb rw1
              obtain ⟨as, q1⟩ := Dp.reads I a _ _ da hkv.2
              obtain ⟨bs, q2⟩ := Dp.reads I b _ _ db rel
              exact .hit hv (PySem.W.keq_at q1 q2 (py_shaped ha (by decide)) (py_shaped hb (by decide)) (by show X.A.units + 1 + 64 < cLine; omega)) (hits_ok hK hu I rp hks hds relb t h2 r2 hc)
/-- what == of a written dict and another gives -/
def rKEq (p : Pl) (neg : Bool) (a : Addr) (kvs : List (Str × Z.D)) : R2 := fun x y H Q => x = .ref a ∧ ∃ W st ks ds r, Rep p W st H ∧ RelD p.K W (.dic ks ds) y ∧ hitsB st ks ds kvs = some r ∧ Q (.bl (xor neg (kvs.length == ds.length && r))) H
theorem op_kEq (neg : Bool) (hK : p.K = X.K) (hu : X.A.units + 65 < cLine) {a : Addr} {kvs : List (Str × Z.D)} (R : KdR X.K X.w a kvs) : OpR X (compareOp (if neg then .NotEq else .Eq)) (rKEq p neg a kvs) := by
  intro pins s σ H x y v u Q I rx ry ⟨ex, W, st, ks, ds, r, rp, rd, hr, q⟩
  subst ex
  obtain rfl : v = Value.ref a := rx
  obtain ⟨b, kwb, rfl, hb, hks, hds⟩ := dic_rd rp rd
  obtain rfl : u = Value.ref b := ry
  obtain ⟨kws, vs, r1, dd, r3, r4, low⟩ := R.dict (P := X.prog) I.kIn
  obtain ⟨zb, lowb, vsb, relb, ddb⟩ := dk_rd I.hok hb
  have el : (vs.length == vsb.length) = (kvs.length == ds.length) := by
    have e1 : vs.length = kvs.length := by rw [← r1.length, ← List.length_map (f := (·.1)), r3, List.length_map]
    have e2 : vsb.length = ds.length := by rw [← relb.length, hds.length, List.length_map]
    rw [e1, e2]
  have hits := fun _ : vs.length = vsb.length => hits_ok hK hu I rp hks hds relb r1 r3 (hK ▸ r4 W) hr
  cases neg with
  | true =>
    refine PySem.W.keq_ne low lowb dd ddb (by omega) hits ⟨.bl _, H, I, rfl, ?_⟩
    rw [el]
    rw [Bool.true_xor] at q
    exact q
  | false =>
    refine PySem.W.keq_eq low lowb dd ddb (by omega) hits ⟨.bl _, H, I, rfl, ?_⟩
    rw [el]
    rw [Bool.false_xor] at q
    exact q
theorem kEq_t {neg : Bool} {a : Addr} {kvs : List (Str × Z.D)} {b : ME} {σ : L2.St} {H : Hp} {Q : VK} {W : Wd} {e : Env} {st : Sto} (re : RelE p W e σ) (rp : Rep p W st H) (q : Post p (RelD p.K) W H (exW p WX σ) Q (mKEq neg kvs b e st)) : tOp (rKEq p neg a kvs) (tC (.ref a)) (tE p WX b) σ H Q := by
  show tE p WX b σ H fun y H2 => rKEq p neg a kvs (.ref a) y H2 Q
  refine ⟨W, e, st, re, rp, q.bind fun W1 H1 d v s1 l fr rp1 rv q1 => ?_⟩
  cases d with
  | dic ks ds =>
    have q1 : Post p (RelD p.K) W1 H1 (exW p WX σ) Q (match hitsB s1 ks ds kvs with | some r => .ok (.bl (xor neg (kvs.length == ds.length && r))) s1 | none => .bad) := q1
    cases hr : hitsB s1 ks ds kvs with
    | none => rw [hr] at q1; exact q1.elim
    | some r =>
      rw [hr] at q1
      exact ⟨rfl, W1, s1, ks, ds, r, rp1, rv, hr, Post.same rp1 q1 rel_bl⟩
  | _ => exact q1.elim
theorem r_kEq (neg : Bool) (hK : p.K = X.K) (hu : X.A.units + 65 < cLine) {a : Addr} {kvs : List (Str × Z.D)} {b : ME} {ea eb : Expr} {pos : Pos} (R : KdR X.K X.w a kvs) (ha : PE X ea (tC (.ref a))) (hb : PE X eb (tE p WX b)) (hm : behindInMarks (if neg then .NotEq else .Eq) eb = false) : PE X (.Compare ea [if neg then .NotEq else .Eq] [eb] pos) (tE p WX (mKEq neg kvs b)) :=
  PE.imp (pe_cmpR (op_kEq neg hK hu R) ha hb hm) fun _ _ _ ⟨_, _, _, re, rp, q⟩ => kEq_t re rp q
theorem r_kEqT (neg : Bool) (hK : p.K = X.K) (hu : X.A.units + 65 < cLine) {a : Addr} {kvs : List (Str × Z.D)} {b : ME} {ea eb : Expr} {pos : Pos} (R : KdR X.K X.w a kvs) (ha : PE X ea (tC (.ref a))) (hb : PE X eb (tE p WX b)) (hm : behindInMarks (if neg then .NotEq else .Eq) eb = false) : PT X (.Compare ea [if neg then .NotEq else .Eq] [eb] pos) (tB p WX (mB (mKEq neg kvs b))) :=
  PT.imp (pt_cmpR (op_kEq neg hK hu R) ha hb hm) fun _ _ _ ⟨_, _, _, re, rp, q⟩ => kEq_t re rp (Post.isB q)
/-! ### len(dict(pairs)), keys that are tuples -/
def leafN : Z.D → Option NestedKey
  | .str x => some (.text x)
  | .int i => some (.num i)
  | _ => none
def pairKey : Z.D → Option NestedKey
  | .tup [.tup ks, _] => (optAll leafN ks).map .tup
  | _ => none
def ndk (ks : List NestedKey) : List NestedKey := ks.foldl (fun acc k => if k ∈ acc then acc else acc ++ [k]) []
def mLenD (a : ME) : ME := fun e s => (a e s).bind fun d s1 => match lstOf d s1 with
  | some xs => (match optAll pairKey xs with | some ks => .ok (.int ((ndk ks).length : Nat)) s1 | none => .bad)
  | none => .bad
theorem merged_keys {κ : Type} [DecidableEq κ] : ∀ (kvs acc : List (κ × Value)), (merged acc kvs).map (·.1) = (kvs.map (·.1)).foldl (fun acc k => if k ∈ acc then acc else acc ++ [k]) (acc.map (·.1))
  | [], acc => rfl
  | q :: r, acc => by
    show (merged (stored acc q.1 q.2) r).map (·.1) = _
    rw [merged_keys r, keys_stored]
    rfl
structure PairL where
  key : NestedKey
  T : Addr
  ka : Addr
  val : Value
theorem leaf_ok : ∀ {ks : List Z.D} {ns : List NestedKey} {vs : List V} {us : List Value} {W : Wd} {K : PySem.W.Frag} {h : Heap}, optAll leafN ks = some ns → RelDs K W ks vs → Vals vs us → NestedAll h ns us ∧ NestedKey.depthAll ns ≤ 1
  | [], ns, vs, us, W, K, h, e, r, rv => by
    cases e
    unfold RelDs at r
    subst r
    cases rv
    exact ⟨.nil, by simp [NestedKey.depthAll]⟩
  | d :: ks, ns, vs, us, W, K, h, e, r, rv => by
    rw [optAll_cons'] at e
    unfold RelDs at r
    obtain ⟨v, vr, rfl, r1, r2⟩ := r
    cases rv with
    | cons ru rt =>
      rename_i u ur
      cases h1 : leafN d with
      | none => rw [h1] at e; cases e
      | some n =>
        cases h2 : optAll leafN ks with
        | none => rw [h1, h2] at e; cases e
        | some nr =>
          rw [h1, h2] at e
          cases e
          obtain ⟨q1, q2⟩ := leaf_ok (h := h) h2 r2 rt
          have key : NestedIs h n u ∧ n.depth ≤ 1 := by
            cases d with
            | str x =>
              cases h1
              cases relD_str r1
              obtain ⟨t, rfl⟩ := ru
              exact ⟨.text x t, by simp [NestedKey.depth]⟩
            | int i =>
              cases h1
              cases relD_int r1
              obtain ⟨t, rfl⟩ := ru
              exact ⟨.int i t, by simp [NestedKey.depth]⟩
            | _ => cases h1
          refine ⟨.cons key.1 q1, ?_⟩
          have h3 := key.2
          simp only [NestedKey.depthAll]
          omega
where optAll_cons' {α β : Type} {f : α → Option β} {a : α} {r : List α} : optAll f (a :: r) = match f a, optAll f r with
    | some b, some bs => some (b :: bs)
    | _, _ => none := rfl
theorem pairsL_ok (hK : p.K = X.K) (I : L2.Inv X pins σ H s) {W : Wd} {st : Sto} (rp : Rep p W st H) : ∀ {xs : List Z.D} {ks : List NestedKey} {vs : List V} {us : List Value}, optAll pairKey xs = some ks → RelDs p.K W xs vs → Vals vs us →
    ∃ L : List PairL, us = L.map (fun q => Value.ref q.T) ∧ ks = L.map (·.key) ∧ ∀ q ∈ L, PairAt s.heap q.T (.ref q.ka) q.val ∧ NestedIs s.heap q.key (.ref q.ka) ∧ q.key.depth ≤ 8
  | [], ks, vs, us, e, r, rv => by
    cases e
    unfold RelDs at r
    subst r
    cases rv
    exact ⟨[], rfl, rfl, fun q h => by cases h⟩
  | d :: xs, ks, vs, us, e, r, rv => by
    rw [leaf_ok.optAll_cons'] at e
    unfold RelDs at r
    obtain ⟨v, vr, rfl, r1, r2⟩ := r
    cases rv with
    | cons ru rt =>
      rename_i u ur
      cases h1 : pairKey d with
      | none => rw [h1] at e; cases e
      | some n =>
        cases h2 : optAll pairKey xs with
        | none => rw [h1, h2] at e; cases e
        | some nr =>
          rw [h1, h2] at e
          cases e
          obtain ⟨L, e1, e2, e3⟩ := pairsL_ok hK I rp h2 r2 rt
          unfold pairKey at h1
          split at h1
          · rename_i kds y
            obtain ⟨T, ws, rfl, hT, rws⟩ := tup_rd rp r1
            obtain rfl : u = Value.ref T := ru
            obtain ⟨w1, w2, rfl, rk, ry⟩ := relDs_2 rws
            obtain ⟨ka, kws, rfl, hka, rkws⟩ := tup_rd rp rk
            obtain ⟨its, ri, ti, _⟩ := I.tuple (hK ▸ hT)
            obtain ⟨kits, rki, tki, _⟩ := I.tuple (hK ▸ hka)
            obtain ⟨uk, uy, rfl, ruk, ruy⟩ := vals2 ri
            obtain rfl : uk = Value.ref ka := ruk
            cases hn : optAll leafN kds with
            | none => rw [hn] at h1; cases h1
            | some ns =>
              rw [hn] at h1
              cases h1
              obtain ⟨q1, q2⟩ := leaf_ok (h := s.heap) hn rkws rki
              obtain ⟨o, ho, hc, n, hd⟩ := tki
              refine ⟨⟨.tup ns, T, ka, uy⟩ :: L, by rw [e1]; rfl, by rw [e2]; rfl, fun q hq => ?_⟩
              rcases List.mem_cons.mp hq with z | z
              · subst z
                exact ⟨.inl ti, .tup ho hc hd (by simpa using q1), by simp only [NestedKey.depth]; omega⟩
              · exact e3 q z
          · cases h1
theorem r_lenD {a : ME} {ea : Expr} {p1 p2 q2 pos : Pos} (hK : p.K = X.K) (hc : X.calm = true) (hu : X.A.units + 65 < cLine) (hg : Gl X "len") (hm : X.mg "len" = none) (hg2 : Gl X "dict") (hm2 : X.mg "dict" = none) (ha : PE X ea (tE p WX a))
    (na : starEach [ea] X.env = (false, eval ea X.env) :: starEach [] X.env) : PE X (.Call (.Name "len" p1) [.Call (.Name "dict" p2) [ea] [] q2] [] pos) (tE p WX (mLenD a)) := by
  refine ⟨fun pins s σ H Q I ⟨W, e, st, re, rp, q⟩ => ?_⟩
  refine Call_ (ld_blt I hg hm boot_len ?_)
  refine PyProof.Rows.callWith_builtin1 (PyProof.Rows.args_cons ?_ rfl) rfl rfl
  refine Call_ (ld_blt I hg2 hm2 PyProof.Rows.boot_dict ?_ (by decide) (by decide))
  refine PyProof.Rows.callWith_type1 (PyProof.Rows.args_cons (thn (ha.run pins s σ H (fun v H1 => ∃ W1 s1 xs ks, (∃ a vs, v = .ref a ∧ H1 a = some (.lst vs) ∧ RelDs p.K W1 xs vs) ∧ Rep p W1 s1 H1 ∧ optAll pairKey xs = some ks ∧ Q (.int ((ndk ks).length : Nat)) H1) I ⟨W, e, st, re, rp, ?_⟩) fun v s1 ⟨x, H1, I1, r1, q1⟩ => PyProof.Rows.args_nil ?_) na) na rfl
  · unfold mLenD at q
    refine q.bind fun W1 H1 d v s1 l fr rp1 rv q1 => ?_
    cases hl : lstOf d s1 with
    | none => rw [hl] at q1; exact q1.elim
    | some xs =>
      rw [hl] at q1
      have q1 : Post p (RelD p.K) W1 H1 (exW p WX σ) Q (match optAll pairKey xs with | some ks => .ok (.int ((ndk ks).length : Nat)) s1 | none => .bad) := q1
      cases hk : optAll pairKey xs with
      | none => rw [hk] at q1; exact q1.elim
      | some ks =>
        rw [hk] at q1
        exact ⟨W1, s1, xs, ks, lst_rd rp1 hl rv, rp1, hk, Post.same rp1 q1 rel_int⟩
  · obtain ⟨W1, st1, xs, ks, ⟨l, vs, rfl, hl, rvs⟩, rp1, hks, q1⟩ := q1
    obtain rfl : v = Value.ref l := r1
    obtain ⟨its, ri, ⟨o, n, ho, hco, hdo, hdat⟩, hz⟩ := I1.list (SqL.of hl)
    obtain ⟨L, e1, e2, e3⟩ := pairsL_ok hK I1 rp1 hks rvs ri
    have get : ∀ {i : Nat} {k v : Value}, (L.map fun q => ((Value.ref q.ka, q.val) : Value × Value))[i]? = some (k, v) → ∃ q, L[i]? = some q ∧ k = .ref q.ka ∧ v = q.val := fun {i k v} h => by
      rw [List.getElem?_map] at h
      cases hq : L[i]? with
      | none => rw [hq] at h; cases h
      | some q => rw [hq] at h; cases h; exact ⟨q, rfl, rfl, rfl⟩
    have hlen : its.length = L.length := by rw [e1, List.length_map]
    refine dict_keyed (knd := nestedKind X.prog X.w) nestedKind_stays (PairArg.list l its.toArray (fun j => ((L[j]?).map (·.T)).getD 0) (L.map fun q => (.ref q.ka, q.val))) (I1.ok.hd hc) (by show X.A.units + 1 + 1 + 8 < cLine; omega) ⟨⟨o, n, ho, hco, hdo, hdat⟩, by simp [hlen], fun j k v h => ?_⟩
      ⟨L.map fun q => (q.key, q.ka, q.val), rfl, ⟨by simp, fun i k v h => ?_⟩, fun x hx => ?_⟩ nestedKind_stays.all (by
        rw [List.length_map, ← hlen, ← ri.length]
        exact hz) fun h' tk hm' hk => ?_
    · obtain ⟨q, hq, rfl, rfl⟩ := get h
      refine ⟨?_, ?_⟩
      · rw [e1]
        simp [hq]
      · show PairAt s1.heap ((Option.map (fun x => x.T) L[j]?).getD 0) _ _
        rw [hq]
        exact (e3 q (List.mem_of_getElem? hq)).1
    · obtain ⟨q, hq, rfl, rfl⟩ := get h
      exact ⟨q.key, q.ka, by rw [List.getElem?_map, hq]; rfl, rfl⟩
    · obtain ⟨q, hq, rfl⟩ := List.mem_map.mp hx
      exact (e3 q hq).2
    · refine PyProof.Rows.args_nil ?_
      have I2 : L2.Inv X pins σ H1 { s1 with heap := h', toks := tk } := I1.kept (t' := tk) fun b o e => hk b o (by simp) e
      have hlow : (s1.heap.objs.size == sysModules) = false := beq_eq_false_iff_ne.mpr (Nat.ne_of_gt I1.big)
      have el : (merged [] (pairsH (L.map fun q => (q.key, q.ka, q.val)))).length = (ndk ks).length := by
        have := merged_keys (pairsH (L.map fun q => (q.key, q.ka, q.val))) []
        rw [← List.length_map (f := (·.1)), this, e2]
        unfold ndk pairsH
        rw [List.map_map, List.map_map]
        rfl
      have hz2 : (merged [] (pairsH (L.map fun q => (q.key, q.ka, q.val)))).length ≤ sizeLine := by
        rw [el]
        have : ∀ (l acc : List NestedKey), (l.foldl (fun acc k => if k ∈ acc then acc else acc ++ [k]) acc).length ≤ acc.length + l.length := fun l => by
          induction l with
          | nil => intro acc; exact Nat.le_refl _
          | cons k r ih =>
            intro acc
            rw [List.foldl_cons, List.length_cons]
            refine Nat.le_trans (ih _) ?_
            split
            · omega
            · rw [List.length_append, List.length_singleton]; omega
        have h1 := this ks []
        have h2 : ks.length = L.length := by rw [e2, List.length_map]
        have h3 : its.length = vs.length := ri.length.symm
        unfold ndk
        simp only [List.length_nil, Nat.zero_add] at h1
        omega
      rw [sizeLine_eq] at hz2
      refine PyProof.Rows.call_len_slot (n := ((merged [] (pairsH (L.map fun q => (q.key, q.ka, q.val)))).length : Nat)) hm'.typeIs PySem.F.slot_dict_len (fun Q' hq => len_keyed hlow hm' hq) (by omega) (by omega) ?_
      rw [el]
      exact ⟨.int ((ndk ks).length : Nat), H1, I2.tok _, ⟨_, rfl⟩, q1⟩
/-! ### list.append -/
def mtAppend : FMt := fun x ys s => match x, ys with
  | .ref n, [d] => (match s[n]? with | some (.lst xs) => if xs.length < line then some (.non, s.set n (.lst (xs ++ [d]))) else none | _ => none)
  | _, _ => none
theorem mt_appendR : MtR X "list.append" (rMt p mtAppend) := fun pins s σ H x xs v us Q I rx rs ⟨W, st, d, ds, rp, rd, rds, q⟩ => by
  unfold mtAppend at q
  split at q
  · rename_i n d
    split at q
    · rename_i xs hn
      split at q
      · rename_i hz
        obtain ⟨a, rfl, hio⟩ := relD_ref rd
        obtain ⟨w, rfl, h1⟩ := relDs_1 rds
        obtain ⟨hf, vs, hl, rv⟩ := rp.obs n _ a hn hio
        obtain ⟨fr, rp2⟩ := rp.put (o := .lst (vs ++ [w])) (ob := .lst (xs ++ [d])) hio hf hl rfl ⟨hf, vs ++ [w], upd_same, rv.append (relDs_cons h1 relDs_nil)⟩
        refine mt_append pins s σ H _ _ v us Q I rx rs ⟨a, vs, w, rfl, rfl, hl, ?_, q W _ _ (Wd.le.refl W) fr rp2 rel_non⟩
        rw [sizeLine_eq, ← rv.length]
        exact hz
      · exact q.elim
    · exact q.elim
  · exact q.elim
/-! ### list(range(..)) -/
def mRgL1 (m : Bool) (a : ME) : ME := fun e s => (a e s).bind fun d s1 => match d with
  | .int j => if decide (-(2 ^ 62) ≤ j) && decide (j ≤ 16777216) then R.of (mkL m (rngL 0 1 j.toNat) s1) else .bad
  | _ => .bad
def rgR2 (m : Bool) (d d2 : Z.D) (s : Sto) : Z.R Z.D := match d, d2 with
  | .int i, .int j => if decide (0 ≤ i) && decide (i ≤ 16777216) && decide (0 ≤ j) && decide (j ≤ 16777216) then R.of (mkL m (rngL i 1 (j - i).toNat) s) else .bad
  | _, _ => .bad
def mRgL2 (m : Bool) (a b : ME) : ME := fun e s => (a e s).bind fun d s1 => (b e s1).bind fun d2 s2 => rgR2 m d d2 s2
theorem rel_rg {W : Wd} {i j : Int} : RelDs p.K W (rngL i 1 (j - i).toNat) (rgV i j) := by
  unfold rngL rgV
  generalize List.range (j - i).toNat = l
  induction l with
  | nil => exact relDs_nil
  | cons k r ih => exact relDs_cons (by show RelD p.K W (.int (i + (k : Nat) * 1)) (.int (i + (k : Nat))); rw [Int.mul_one]; exact rel_int) ih
theorem r_rgL1 {m : Bool} {a : ME} {ea : Expr} {p1 p2 pos pos2 : Pos} (hc : X.calm = true) (hg : Gl X "list") (hm : X.mg "list" = none) (hg2 : Gl X "range") (hm2 : X.mg "range" = none) (ha : PE X ea (tE p WX a)) (na : starEach [ea] X.env = (false, eval ea X.env) :: starEach [] X.env) :
    PE X (.Call (.Name "list" p1) [.Call (.Name "range" p2) [ea] [] pos2] [] pos) (tE p WX (mRgL1 m a)) :=
  PE.imp (pe_listRg hc hg hm (prg_1 hg2 hm2 ha na) rfl) fun σ H Q ⟨W, e, s, re, rp, q⟩ => ⟨W, e, s, re, rp, q.bind fun W1 H1 d v s1 l fr rp1 rv q1 => by
    cases d with
    | int j =>
      cases relD_int rv
      have q1 : Post p (RelD p.K) W1 H1 (exW p WX σ) Q (if decide (-(2 ^ 62) ≤ j) && decide (j ≤ 16777216) then R.of (mkL m (rngL 0 1 j.toNat) s1) else .bad) := q1
      split at q1
      · rename_i h
        rw [Bool.and_eq_true, decide_eq_true_eq, decide_eq_true_eq] at h
        refine ⟨j, rfl, ⟨by omega, by omega, by omega, by omega, by omega⟩, fun q hq => ?_⟩
        have hr : RelDs p.K W1 (rngL 0 1 j.toNat) (rgV 0 j) := by
          have := rel_rg (p := p) (W := W1) (i := 0) (j := j)
          rw [Int.sub_zero] at this
          exact this
        exact mkL_ok rp1 q1.of hr hq
      · exact q1.elim
    | _ => exact q1.elim⟩
theorem r_rgL2 {m : Bool} {a b : ME} {ea eb : Expr} {p1 p2 pos pos2 : Pos} (hc : X.calm = true) (hg : Gl X "list") (hm : X.mg "list" = none) (hg2 : Gl X "range") (hm2 : X.mg "range" = none) (ha : PE X ea (tE p WX a)) (hb : PE X eb (tE p WX b)) (na : starEach [ea, eb] X.env = (false, eval ea X.env) :: starEach [eb] X.env) (nb : starEach [eb] X.env = (false, eval eb X.env) :: starEach [] X.env) (hp : (backTo pos2 (starEach [eb] X.env)).any (·.1) = false) :
    PE X (.Call (.Name "list" p1) [.Call (.Name "range" p2) [ea, eb] [] pos2] [] pos) (tE p WX (mRgL2 m a b)) :=
  PE.imp (pe_listRg hc hg hm (prg_2 hg2 hm2 ha hb na nb hp) rfl) fun σ H Q ⟨W, e, s, re, rp, q⟩ => ⟨W, e, s, re, rp, q.bind fun W1 H1 d v s1 l fr rp1 rv q1 => ⟨W1, e, s1, re.mono l, rp1, q1.bind fun W2 H2 d2 v2 s2 l2 fr2 rp2 rv2 q2 => by
    cases d with
    | int i =>
      cases d2 with
      | int j =>
        cases relD_int rv
        cases relD_int rv2
        have q2 : Post p (RelD p.K) W2 H2 (exW p WX σ) Q (if decide (0 ≤ i) && decide (i ≤ 16777216) && decide (0 ≤ j) && decide (j ≤ 16777216) then R.of (mkL m (rngL i 1 (j - i).toNat) s2) else .bad) := q2
        split at q2
        · rename_i h
          simp only [Bool.and_eq_true, decide_eq_true_eq] at h
          obtain ⟨⟨⟨h1, h2⟩, h3⟩, h4⟩ := h
          exact ⟨i, j, rfl, rfl, ⟨by omega, by omega, by omega, by omega, by omega⟩, fun q hq => mkL_ok rp2 q2.of rel_rg hq⟩
        · exact q2.elim
      | _ => exact q2.elim
    | _ => exact q2.elim⟩⟩
end
end Z

set_option Elab.async false
set_option linter.all false
set_option maxRecDepth 100000
/-! Z23: what a program's text means. -/
namespace Z
open PySem PySem.Spec PyProof.Rows L2
/-- a def of the program -/
structure DefI where
  name : Str
  ps : List Str
  N : List Str
  scope : Scope
  params : Arguments
  body : List Stmt
  /-- it is run without the store -/
  lone : Bool
  /-- it makes generator expressions; lambdas -/
  gx : Bool
  lm : Bool
  /-- it holds lambdas; it may reach a def that does -/
  hold : Bool
  dp : Bool
/-- a program -/
structure Prg where
  defs : List DefI
  consts : List (Str × D)
  excs : List Str
  sub : Nat → Nat → Option Bool
  /-- is the list that is made at this place the store's -/
  fresh : Pos → Bool
  dicts : List (Str × List (Str × D))
  /-- the defs that try what they get: the class, the answer -/
  tolds : List (Str × Nat × Str)
/-- a context -/
structure Gam where
  N : List Str
  sc : Scope
  calm : Bool
  /-- a def's own frame (with statements) -/
  own : Bool
  /-- its own cells -/
  oc : List Str
  qual : Str
  gx : Bool
  lm : Bool
  hold : Bool
  lfs : Bool
  dp : Bool
  top : Bool
  /-- room left -/
  x : Nat
def ixOf (x : Str) : List Str → Option Nat
  | [] => none
  | y :: r => if seq x y then some 0 else (ixOf x r).map (· + 1)
theorem ixOf_get {x : Str} : ∀ {l : List Str} {i : Nat}, ixOf x l = some i → l[i]? = some x
  | [], i, h => by cases h
  | y :: r, i, h => by
    unfold ixOf at h
    split at h
    · rename_i e
      cases h
      rw [seq_iff.mp e]; rfl
    · cases h2 : ixOf x r with
      | none => rw [h2] at h; cases h
      | some j =>
        rw [h2] at h
        cases h
        rw [List.getElem?_cons_succ]
        exact ixOf_get h2
def defIx (x : Str) : List DefI → Option (Nat × DefI)
  | [] => none
  | d :: r => if seq x d.name then some (0, d) else (defIx x r).map fun p => (p.1 + 1, p.2)
def kind (Γ : Gam) (x : Str) : Option NameKind := look x Γ.sc.names
def glob (Γ : Gam) (x : Str) : Bool := match kind Γ x with
  | some .globalImplicit => true
  | _ => false
def slot (Γ : Gam) (x : Str) : Option Nat := match kind Γ x with
  | some .local => ixOf x Γ.N
  | some .cell => ixOf x Γ.N
  | some .free => ixOf x Γ.N
  | _ => none
/-- a name that may be stored to -/
def slotW (Γ : Gam) (x : Str) : Option Nat := match kind Γ x with
  | some .local => ixOf x Γ.N
  | some .cell => if Γ.own || Γ.oc.any (seq x) then ixOf x Γ.N else none
  | _ => none
def sDebug : Str := "__debug__"
def sClsD : Str := "__classdict__"
def plainName (x : Str) : Bool := !seq x sDebug && !seq x sClsD
def notStar : Expr → Bool
  | .Starred .. => false
  | _ => true
def notComp : Expr → Bool
  | .ListComp .. => false
  | .SetComp .. => false
  | .DictComp .. => false
  | _ => true
def notSet : Expr → Bool
  | .Set .. => false
  | _ => true
def notListSet : Expr → Bool
  | .Set .. => false
  | .List .. => false
  | _ => true
def notSlice : Expr → Bool
  | .Slice .. => false
  | _ => true
/-- its truth is asked of its value -/
def valTest : Expr → Bool
  | .UnaryOp .Not _ _ => false
  | .BoolOp .. => false
  | .IfExp .. => false
  | .Compare .. => false
  | _ => true
def bBad : MB := fun _ _ => .bad
abbrev Rec := Gam → Expr → ME × MB
def aList (Γ : Gam) (rec_ : Rec) : List Expr → MA
  | [] => aNil
  | e :: es => if notStar e then aCons (rec_ Γ e).1 (aList Γ rec_ es) else fun _ _ => .bad
/-- a target by names -/
def tgOf (Γ : Gam) : Nat → Expr → Option Tg
  | 0, _ => none
  | n + 1, e => match e with
    | .Name x _ => if plainName x then (slotW Γ x).map tName else none
    | .Tuple es _ _ => if es.all notStar then (optAll (tgOf Γ n) es).map tTup else none
    | _ => none
/-- the slots that a target fills -/
def tgIx (Γ : Gam) : Nat → Expr → List Nat
  | 0, _ => []
  | n + 1, e => match e with
    | .Name x _ => (match slotW Γ x with | some i => [i] | none => [])
    | .Tuple es _ _ => (es.map (tgIx Γ n)).flatten
    | _ => []
def ownOf (N : List Str) (scope : Scope) : List (Str × Nat) := scope.names.filterMap fun y => match y.2 with
  | .local => (ixOf y.1 N).map fun i => (y.1, i)
  | .cell => (ixOf y.1 N).map fun i => (y.1, i)
  | _ => none
def sRange : Str := "range"
def sDict : Str := "dict"
def isName (x : String) (y : Str) : Bool := seq y (Str.ofString x)
/-- what is walked -/
def stepW (G : Prg) (rec_ : Rec) (Γ : Gam) (tg e : Expr) : MW := match e with
  | .Call (.Name f _) args [] _ => if glob Γ f && isName "range" f then (match args with
      | [a] => if notStar a then wRng (aList Γ rec_ [a]) else fun _ _ => .bad
      | [a, b] => if notStar a && notStar b then wRng (aList Γ rec_ [a, b]) else fun _ _ => .bad
      | [a, b, c] => if notStar a && notStar b && notStar c then wRng (aList Γ rec_ [a, b, c]) else fun _ _ => .bad
      | _ => fun _ _ => .bad)
    else if glob Γ f && isName "enumerate" f then (match args, tg with
      | [a], .Tuple _ _ _ => if notStar a then wEnuC (rec_ Γ a).1 else fun _ _ => .bad
      | _, _ => fun _ _ => .bad)
    else wVal (rec_ Γ e).1
  | e => wVal (rec_ Γ e).1
/-- the tests of a comprehension -/
def ifsOf (Γ : Gam) (rec_ : Rec) : List Expr → MB
  | [] => bYes
  | [c] => (rec_ Γ c).2
  | _ => bBad
def cellsOf (scope : Scope) : List Str := scope.names.filterMap fun y => match y.2 with
  | .cell => some y.1
  | _ => none
def blkG (Γ : Gam) (scope : Scope) : Gam := { Γ with sc := relS scope Γ.sc, own := false, oc := cellsOf scope, hold := false, top := false }
def gxG (Γ : Gam) (scope : Scope) : Gam := { Γ with sc := scope, own := false, oc := cellsOf scope, qual := Γ.qual ++ "<genexpr>.", gx := false, lm := false, hold := false, top := false, x := Γ.x - 3 }
/-- a lambda's body -/
def lamGm (Γ : Gam) (li : LamI) : Gam := { Γ with sc := li.scope, calm := true, own := false, oc := [], qual := li.qual ++ ".<locals>.", gx := false, lm := false, hold := false, lfs := false, top := false, x := Γ.x - 2 }
/-- the parts of a comprehension: the walked, the target, the test -/
structure CompM where
  vs : List Nat
  t : Tg
  w : MW
  c : MB
  el : ME
def compOf (G : Prg) (rec_ : Rec) (Γ Γ' : Gam) (scope : Scope) (ok : Bool) (elt tg iter : Expr) (ifs : List Expr) : Option CompM :=
  match tgOf Γ' 4 tg with
  | some t => if ok && Γ.calm && (tgIx Γ' 4 tg).all (fun i => ((ownOf Γ.N scope).map (·.2)).contains i) then some ⟨(ownOf Γ.N scope).map (·.2), t, stepW G rec_ Γ tg iter, ifsOf Γ' rec_ ifs, (rec_ Γ' elt).1⟩ else none
  | none => none
def genOf (G : Prg) (rec_ : Rec) (Γ : Gam) : Expr → Option CompM
  | .GeneratorExp elt [⟨tg, iter, ifs, 0⟩] scope _ => compOf G rec_ Γ (gxG Γ scope) scope (gxOkB Γ.N Γ.sc scope (ownOf Γ.N scope) && Γ.gx && decide (3 ≤ Γ.x) && notListSet iter) elt tg iter ifs
  | _ => none
def slOpt (Γ : Gam) (rec_ : Rec) : Option Expr → MO
  | none => oNone
  | some e => oSome (rec_ Γ e).1
/-! lambdas that are told -/
def noFree (scope : Scope) : Bool := scope.names.all fun y => !decide (y.2 = .free)
def okL (Γ : Gam) (li : LamI) : Bool := noArgs li.params && LamX.lamSB Γ.sc li.scope && seq li.qual (Γ.qual ++ "<lambda>") && (noFree li.scope || Γ.hold)
def liOf (Γ : Gam) : Expr → Option LamI
  | .Lambda params body scope _ => if noArgs params && LamX.lamSB Γ.sc scope then some ⟨Γ.qual ++ "<lambda>", params, body, scope⟩ else none
  | _ => none
def catchOf (G : Prg) (j : Nat) : Nat → Option Bool := fun i => if decide (i < G.excs.length) then G.sub i j else none
def stepTold (G : Prg) (rec_ : Rec) (Γ : Gam) (j : Nat) (ret : Str) : List Expr → ME
  | [a] => (match liOf Γ a with
    | some li => if Γ.lm && decide (2 ≤ Γ.x) && Γ.calm then mTold1 (catchOf G j) ret (rec_ (lamGm Γ li) li.body).1 else mBad
    | none => if notStar a && Γ.lfs && decide (2 ≤ Γ.x) && Γ.calm then mTold (catchOf G j) ret (fun li => if okL Γ li then (rec_ (lamGm Γ li) li.body).1 else mBad) (rec_ Γ a).1 else mBad)
  | _ => mBad
/-! dicts and tuples of the module -/
def kdOf (G : Prg) (Γ : Gam) : Expr → Option (List (Str × D))
  | .Name x _ => if plainName x && glob Γ x then look x G.dicts else none
  | _ => none
def ktOf (G : Prg) (Γ : Gam) : Expr → Option (List D)
  | .Name x _ => if plainName x && glob Γ x then (match look x G.consts with | some (.tup xs) => some xs | _ => none) else none
  | _ => none
def isDisp : Expr → Bool
  | .Dict _ _ _ => true
  | _ => false
def strKey : Option Expr → Option Str
  | some (.Constant (.str x) _ _) => some x
  | _ => none
def nodupS : List Str → Bool
  | [] => true
  | x :: r => !r.any (seq x) && nodupS r
def dispE (Γ : Gam) (rec_ : Rec) (keys : List (Option Expr)) (values : List Expr) : ME := match optAll strKey keys with
  | some ks => if decide (keys.length = values.length) && decide (0 < keys.length) && decide (keys.length ≤ 15) && nodupS ks then mDisp ((ks.zip (values.map fun e => (rec_ Γ e).1)).map (·.1)) (aVals ((ks.zip (values.map fun e => (rec_ Γ e).1)).map (·.2))) else mBad
  | none => mBad
def dictArg : Expr → Option (Expr)
  | .Call (.Name f _) [e] [] _ => if isName "dict" f then some e else none
  | _ => none
def rngArg : Expr → Option (List Expr)
  | .Call (.Name f _) l [] _ => if isName "range" f then some l else none
  | _ => none
def listE (G : Prg) (rec_ : Rec) (Γ : Gam) (a : Expr) (pos : Pos) : ME := match rngArg a with
  | some [x] => if Γ.calm && notStar x && glob Γ sRange then mRgL1 (G.fresh pos) (rec_ Γ x).1 else mBad
  | some [x, y] => if Γ.calm && notStar x && notStar y && glob Γ sRange then mRgL2 (G.fresh pos) (rec_ Γ x).1 (rec_ Γ y).1 else mBad
  | some _ => mBad
  | none => mB1 (bList (G.fresh pos)) (aList Γ rec_ [a])
/-- calls by name -/
def stepCall (G : Prg) (F : Nat → FM) (rec_ : Rec) (Γ : Gam) (f : Str) (args : List Expr) (pos : Pos) : ME :=
  if !plainName f then mBad else
  match slot Γ f with
  | some _ => mBad
  | none => if !glob Γ f then mBad else
    match look f G.tolds with
    | some (j, ret) => stepTold G rec_ Γ j ret args
    | none => match defIx f G.defs with
    | some (i, d) => if Γ.calm && args.all notStar && (!d.dp || Γ.dp) then mCall d.ps.length (F i) (aList Γ rec_ args) else mBad
    | none => match args with
      | [] => mBad
      | [a] => (match genOf G rec_ Γ a with
        | some m => if !Γ.calm then mBad
          else if isName "any" f then mQn true m.vs m.t m.w m.c m.el
          else if isName "all" f then mQn false m.vs m.t m.w m.c m.el
          else if isName "tuple" f then mGx okAny finT m.vs m.t m.w m.c m.el
          else if isName "sum" f then mGx okInt finSum m.vs m.t m.w m.c m.el
          else mBad
        | none => if !notStar a then mBad
          else if isName "len" f then (match dictArg a with
            | some e => if Γ.calm && notStar e && glob Γ sDict then mLenD (rec_ Γ e).1 else mBad
            | none => mB1 bLen (aList Γ rec_ [a]))
          else if isName "int" f then mB1 bInt (aList Γ rec_ [a])
          else if isName "abs" f then mB1 bAbs (aList Γ rec_ [a])
          else if isName "list" f then listE G rec_ Γ a pos
          else if isName "tuple" f then mB1 bTup (aList Γ rec_ [a])
          else if isName "str" f then mB1 bStr (aList Γ rec_ [a])
          else if isName "sum" f then (if Γ.calm then mB1 bSum (aList Γ rec_ [a]) else mBad)
          else mBad)
      | [a, b] => if !(notStar a && notStar b) then mBad
          else if isName "max" f then (if Γ.calm then mB1 bMax (aList Γ rec_ [a, b]) else mBad)
          else if isName "min" f then (if Γ.calm then mB1 bMin (aList Γ rec_ [a, b]) else mBad)
          else mBad
      | _ => mBad
/-- methods -/
def stepMeth (G : Prg) (rec_ : Rec) (Γ : Gam) (o : Expr) (nm : Str) (apos : Pos) (args : List Expr) (pos : Pos) : ME :=
  if !(apos.endLine == pos.line) || !notSuper o then mBad else
  match args with
  | [a] => if isName "index" nm && notStar a then (match ktOf G Γ o with
      | some xs => mTIdx xs (rec_ Γ a).1
      | none => if Γ.calm then mMt .str mtIndex (rec_ Γ o).1 (aList Γ rec_ [a]) else mBad)
    else if isName "append" nm && notStar a then mMt .list mtAppend (rec_ Γ o).1 (aList Γ rec_ [a]) else mBad
  | [a, b] => if isName "get" nm && notStar a && notStar b then (match kdOf G Γ o with
      | some kvs => mKGet kvs (rec_ Γ a).1 (rec_ Γ b).1
      | none => if isDisp o then mDGet (rec_ Γ o).1 (rec_ Γ a).1 (rec_ Γ b).1 else mBad) else mBad
  | _ => mBad
where notSuper : Expr → Bool
  | .Call (.Name id _) [] [] _ => false
  | _ => true
def chainE (G : Prg) (rec_ : Rec) (Γ : Gam) (l : Expr) (ops : List CmpOp) (es : List Expr) : ME := match ops, es with
  | [op], [b] => if behindInMarks op b then mBad else (match kdOf G Γ l with
    | some kvs => (match op with
      | .Eq => mKEq false kvs (rec_ Γ b).1
      | .NotEq => mKEq true kvs (rec_ Γ b).1
      | _ => mBad)
    | none => m2 (opC op) (rec_ Γ l).1 (rec_ Γ b).1)
  | [op, op'], [b, c] => if lastMarks [op, op'] [b, c] then mBad else mChain (opC op) (opC op') (rec_ Γ l).1 (rec_ Γ b).1 (rec_ Γ c).1
  | _, _ => mBad
def boolsE (op : BoolOp) (Γ : Gam) (rec_ : Rec) : List Expr → ME
  | [] => mBad
  | [a] => (rec_ Γ a).1
  | a :: r => match op with
    | .And => mAnd (rec_ Γ a).1 (boolsE op Γ rec_ r)
    | .Or => mOr (rec_ Γ a).1 (boolsE op Γ rec_ r)
def boolsT (op : BoolOp) (Γ : Gam) (rec_ : Rec) : List Expr → MB
  | [] => bBad
  | [a] => (rec_ Γ a).2
  | a :: r => match op with
    | .And => bAnd (rec_ Γ a).2 (boolsT op Γ rec_ r)
    | .Or => bOr (rec_ Γ a).2 (boolsT op Γ rec_ r)
def isOne : Expr → Bool
  | .UnaryOp .USub (.Constant (.int 1) _ _) _ => true
  | _ => false
def stepE (G : Prg) (F : Nat → FM) (rec_ : Rec) (Γ : Gam) (e : Expr) : ME := match e with
  | .Constant c _ _ => (match c with
    | .int i => mC (.int i)
    | .bool b => mC (.bl b)
    | .none => mC .non
    | .str x => mC (.str x)
    | _ => mBad)
  | .Name x _ => if !plainName x then mBad else (match slot Γ x with
    | some i => mVar i
    | none => if glob Γ x then (match look x G.consts with | some d => mC d | none => mBad) else mBad)
  | .BinOp a op b pos => m2 (opBin (G.fresh pos) op) (rec_ Γ a).1 (rec_ Γ b).1
  | .UnaryOp .USub a _ => m1 unNeg (rec_ Γ a).1
  | .UnaryOp .Not a _ => mNot (rec_ Γ a).1
  | .Compare l ops es _ => chainE G rec_ Γ l ops es
  | .BoolOp op es _ => boolsE op Γ rec_ es
  | .IfExp c a b _ => mIf (rec_ Γ c).2 (rec_ Γ a).1 (rec_ Γ b).1
  | .Tuple es _ _ => mTup (aList Γ rec_ es)
  | .List es pos => mLst (G.fresh pos) (aList Γ rec_ es)
  | .Subscript a i pos => (match i with
    | .Slice none none (some st) _ => if isOne st then m1 (opRev (G.fresh pos)) (rec_ Γ a).1 else mBad
    | .Slice lo hi none _ => mSl (G.fresh pos) (rec_ Γ a).1 (slOpt Γ rec_ lo) (slOpt Γ rec_ hi)
    | .Slice _ _ _ _ => mBad
    | i => (match kdOf G Γ a with
      | some kvs => mKIx kvs (rec_ Γ i).1
      | none => if isDisp a then mDIx (rec_ Γ a).1 (rec_ Γ i).1 else m2 opIx (rec_ Γ a).1 (rec_ Γ i).1))
  | .Dict keys values _ => dispE Γ rec_ keys values
  | .JoinedStr parts _ => (match parts with
    | [] => mBad
    | [e] => (rec_ Γ e).1
    | v1 :: v2 :: rest => jnE ((v1 :: v2 :: rest).map fun e => (rec_ Γ e).1) Str.empty)
  | .FormattedValue a c none _ => if c == -1 then mFmt (rec_ Γ a).1 else mBad
  | .ListComp elt [⟨tg, iter, ifs, 0⟩] scope pos => (match compOf G rec_ Γ (blkG Γ scope) scope (blkC Γ.N Γ.sc scope (ownOf Γ.N scope) && notSet iter) elt tg iter ifs with
    | some m => mLc (G.fresh pos) m.vs m.t m.w m.c m.el
    | none => mBad)
  | .Lambda params body scope pos => (match liOf Γ (.Lambda params body scope pos) with
    | some li => if Γ.lm && Γ.hold then mLam li else mBad
    | none => mBad)
  | .Call (.Name f _) args [] pos => stepCall G F rec_ Γ f args pos
  | .Call (.Attribute o nm apos) args [] pos => stepMeth G rec_ Γ o nm apos args pos
  | _ => mBad
def stepT (G : Prg) (F : Nat → FM) (rec_ : Rec) (Γ : Gam) (e : Expr) : MB := match e with
  | .UnaryOp .Not a _ => bNot (rec_ Γ a).2
  | .BoolOp op es _ => boolsT op Γ rec_ es
  | .IfExp c a b _ => bIf (rec_ Γ c).2 (rec_ Γ a).2 (rec_ Γ b).2
  | .Compare l ops es _ => mB (chainE G rec_ Γ l ops es)
  | e => mT (stepE G F rec_ Γ e)
def semE (G : Prg) (F : Nat → FM) : Nat → Rec
  | 0, _, _ => (mBad, bBad)
  | n + 1, Γ, e => (stepE G F (semE G F n) Γ e, stepT G F (semE G F n) Γ e)
/-! ### statements -/
def swN (Γ : Gam) (ts : List Expr) : List Str := ts.filterMap fun
  | .Name id pos => if Γ.sc.names.lookup id == some .local && pos.line == (ts.head?.map (·.pos.line)).getD 0 then some id else none
  | _ => none
/-- the stores of a parallel assignment from the right: none: they are not swapped -/
def swaps (Γ : Gam) (ts vs : List Expr) : Option (Option (List Str)) :=
  if !(ts.length == 2 || ts.length == 3) || vs.length != ts.length then some none
  else if !vs.all notStar then none
  else if (swN Γ ts).length != ts.length || (swN Γ ts).eraseDups.length != (swN Γ ts).length then some none
  else if vs.all (foldedForSure 8) then some none
  else if vs.all (constantsAlone 8) then none
  else some (some (swN Γ ts))
def targ (G : Prg) (rec_ : Rec) (Γ : Gam) (e : Expr) : Option Tg := match e with
  | .Subscript o i _ => if notSlice i then some (tSub (rec_ Γ o).1 (rec_ Γ i).1) else none
  | e => tgOf Γ 4 e
def sAsgO (o : Option Tg) (m : ME) : MS := match o with
  | some t => sAsg t m
  | none => sBad
def raiseX (G : Prg) (Γ : Gam) : Option Expr → Option Nat
  | some (.Call (.Name x _) [.Constant (.str _) _ _] [] _) => if glob Γ x && plainName x then ixOf x G.excs else none
  | _ => none
def coldS : Gam → Gam := fun Γ => { Γ with calm := false, top := false }
def inTry : Gam → Gam := fun Γ => { Γ with top := false }
/-- a suite of a clause that raises nothing -/
def quietS : Stmt → Bool
  | .Return (some (.Constant _ _ _)) _ => true
  | .Return none _ => true
  | .Pass _ => true
  | .Break _ => true
  | .Continue _ => true
  | .Assign [.Name _ _] (.Constant _ _ _) _ => true
  | _ => false
def stepS (G : Prg) (E : Rec) (recS : Gam → Stmt → MS) (recSs : Gam → List Stmt → MS) (Γ : Gam) (st : Stmt) : MS := match st with
  | .Pass _ => sPass
  | .Break _ => sBreak
  | .Continue _ => sCont
  | .Return none _ => sRetN
  | .Return (some e) _ => sRet (E Γ e).1
  | .Expr e _ => if notComp e then sExpr (E Γ e).1 else sBad
  | .If c a b _ => sIf (E Γ c).2 (recSs Γ a) (recSs Γ b)
  | .Assign [tg] e pos => (match tg, e with
    | .Name x px, .ListComp _ [⟨_, _, _, 0⟩] scope lpos => (match slotW Γ x with
      | some i => if plainName x && Γ.calm && (Γ.sc.names.lookup x == some .local) && px.line == lpos.line && Γ.own && decide (Γ.sc.kind = .function) && !(scope.names.any fun y => y.1 == x && (y.2 == .local || y.2 == .cell)) then sAsg (tName i) (E Γ e).1 else sBad
      | none => sBad)
    | .Tuple ts _ _, .Tuple vs _ _ => if !(notStarAll ts) then sBad else (match swaps Γ ts vs with
      | some none => if Γ.calm then sAsgO (targ G E Γ tg) (E Γ e).1 else sBad
      | some (some names) => (match ts, vs, optAll (fun x => ixOf x Γ.N) names with
        | [.Name _ _, .Name _ _], [_, _], some [i, j] => if Γ.calm && Γ.own && i != j then sPar [i, j] (aList Γ E vs) else sBad
        | [.Name _ _, .Name _ _, .Name _ _], [_, _, _], some [i, j, k] => if Γ.calm && Γ.own && i != j && i != k && j != k then sPar [i, j, k] (aList Γ E vs) else sBad
        | _, _, _ => sBad)
      | none => sBad)
    | tg, e => if notComp e && Γ.calm && notStar tg && notTupV tg e then sAsgO (targ G E Γ tg) (E Γ e).1 else sBad)
  | .AugAssign (.Name x _) op e _ => (match slotW Γ x with
    | some i => if Γ.own && plainName x then sAug i (ipOp op) (E Γ e).1 else sBad
    | none => sBad)
  | .For tg it body [] _ => (match tgOf Γ 4 tg with
    | some t => if Γ.calm && Γ.own && notSet it then sForW t (stepW G E Γ tg it) (recSs Γ body) else sBad
    | none => sBad)
  | .While c body [] _ => if Γ.own && Γ.calm then sWhile (E Γ c).2 (recSs Γ body) else sBad
  | .Raise ex none _ => (match raiseX G Γ ex with
    | some c => if Γ.calm then sRaise (2 * c) else sBad
    | none => sBad)
  | .Try body [.ExceptHandler (some (.Name x _)) none suite _] [] [] _ => (match ixOf x G.excs with
    | some j => if glob Γ x && plainName x && Γ.own && Γ.calm then (match suite with
      | [.Raise (some (.Call (.Name y _) [.Constant (.str _) _ _] [] _)) (some (.Constant .none _ _)) _] => (match ixOf y G.excs with
        | some yi => if glob Γ y && plainName y && Γ.top then sTryX (catchOf G j) yi (recSs (inTry Γ) body) else sBad
        | none => sBad)
      | b₀ :: rest => if (b₀ :: rest).all quietS then sTry (catchOf G j) (recSs (inTry Γ) body) (recSs (coldS Γ) (b₀ :: rest)) else sBad
      | [] => sBad) else sBad
    | none => sBad)
  | _ => sBad
where
  notStarAll (ts : List Expr) : Bool := ts.all notStar
  /-- not both displays (these are told apart) -/
  notTupV : Expr → Expr → Bool
    | .Tuple _ _ _, .Tuple _ _ _ => false
    | .List _ _, _ => false
    | _, _ => true
def stepSs (recS : Gam → Stmt → MS) (Γ : Gam) : List Stmt → MS
  | [] => sPass
  | st :: r => sSeq (recS Γ st) (stepSs recS Γ r)
def semS (G : Prg) (E : Rec) : Nat → Gam → Stmt → MS
  | 0, _, _ => sBad
  | n + 1, Γ, st => stepS G E (semS G E n) (stepSs (semS G E n)) Γ st
/-! ### the program -/
def fuel : Nat := 60
def defGm (d : DefI) : Gam := { N := d.N, sc := d.scope, calm := true, own := true, oc := [], qual := d.name ++ ".<locals>.", gx := d.gx, lm := d.lm, hold := d.hold, lfs := d.hold, dp := d.dp && !d.hold, top := true, x := 7 }
/-- a def by the defs of the level below -/
def defF (G : Prg) (F : Nat → FM) (d : DefI) : FM :=
  let f := runBody d.N (stepSs (semS G (semE G F fuel) fuel) (defGm d) d.body)
  if d.hold then lamly f else if d.lone then alone f else f
def badF : Nat → FM := fun _ _ _ => .bad
/-- the program at the level k -/
def prog (G : Prg) : Nat → Nat → FM
  | 0 => badF
  | k + 1 => fun i => match G.defs[i]? with | some d => defF G (prog G k) d | none => fun _ _ => .bad
end Z

set_option Elab.async false
set_option linter.all false
set_option maxRecDepth 100000
/-! Z24: what the text's form gives. -/
namespace Z
open PySem PySem.Spec PyProof.Rows L2
theorem star_cons {e : Expr} {es : List Expr} {env : PySem.Env} (h : notStar e = true) : starEach (e :: es) env = (false, eval e env) :: starEach es env := by
  cases e <;> first | rfl | (cases h)
theorem star_plain : ∀ {es : List Expr} {env : PySem.Env} {pos : Pos}, es.all notStar = true → (backTo pos (starEach es env)).any (·.1) = false
  | [], _, _, _ => rfl
  | e :: es, env, pos, h => by
    rw [List.all_cons, Bool.and_eq_true] at h
    rw [star_cons h.1]
    show (false || (backTo pos (starEach es env)).any (·.1)) = false
    rw [star_plain h.2]; rfl
theorem star_not : ∀ {es : List Expr} {env : PySem.Env} {pos : Pos}, es.all notStar = true → (backTo pos (starEach es env)).all (fun x => !x.1) = true
  | [], _, _, _ => rfl
  | e :: es, env, pos, h => by
    rw [List.all_cons, Bool.and_eq_true] at h
    rw [star_cons h.1]
    show (true && (backTo pos (starEach es env)).all (fun x => !x.1)) = true
    rw [star_not h.2]; rfl
theorem asg_cons {e : Expr} {es : List Expr} {env : PySem.Env} (h : notStar e = true) : assignEach (e :: es) env = (false, assign e env) :: assignEach es env := by
  cases e <;> first | rfl | (cases h)
theorem asg_map {e : Expr} {es : List Expr} {env : PySem.Env} (h : notStar e = true) : (assignEach (e :: es) env).map (·.2) = assign e env :: (assignEach es env).map (·.2) := by rw [asg_cons h]; rfl
theorem asg_len : ∀ {es : List Expr} {env : PySem.Env}, es.all notStar = true → (assignEach es env).length = es.length
  | [], _, _ => rfl
  | e :: es, env, h => by
    rw [List.all_cons, Bool.and_eq_true] at h
    rw [asg_cons h.1, List.length_cons, List.length_cons, asg_len h.2]
theorem asg_star : ∀ {es : List Expr} {env : PySem.Env}, es.all notStar = true → (assignEach es env).findIdx? (·.1) = none
  | [], _, _ => rfl
  | e :: es, env, h => by
    rw [List.all_cons, Bool.and_eq_true] at h
    rw [asg_cons h.1, List.findIdx?_cons]
    rw [asg_star h.2]
    rfl
theorem swap_not {e : Expr} {t : Option Expr} {l : Nat} {env : PySem.Env} (h : notComp e = true) : swapsWith e t l env = pure false := by
  cases e <;> first | rfl | (cases h)
theorem swapSole_not {tg e : Expr} {l : Nat} {env : PySem.Env} (h : notComp e = true) : swapsWithSole [tg] e l env = pure false := swap_not h
theorem fold_set {e : Expr} {env : PySem.Env} (h : notSet e = true) (x : Value) : foldedSetIterable e env x = pure x := by
  cases e <;> first | rfl | (cases h)
theorem fold_gen {e : Expr} {env : PySem.Env} (h : notListSet e = true) (x : Value) : genFold e env x = pure x := by
  cases e <;> first | rfl | (cases h)
theorem ix_plain {e : Expr} (h : notSlice e = true) : PlainIx e := by
  cases e <;> first | (exact fun _ _ => rfl) | (cases h)
theorem test_plain {e : Expr} {env : PySem.Env} (h : valTest e = true) (whole : Sem Value) : isTrue e env whole = (do let v ← whole; standAt e.pos; holding [v] (truthy v)) := by
  cases e with
  | UnaryOp op a pos =>
    cases op <;> first | rfl | (cases h)
  | BoolOp => cases h
  | IfExp => cases h
  | Compare => cases h
  | _ => rfl
theorem attr_base {o : Expr} {nm : Str} {env : PySem.Env} (h : stepMeth.notSuper o = true) : attributeBase o nm env (eval o env) = eval o env := by
  unfold attributeBase
  split
  · cases h
  · rfl
theorem name_of {x : String} {y : Str} (h : isName x y = true) : y = (x : Str) := seq_iff.mp h
theorem plain_debug {x : Str} (h : plainName x = true) : (x == ("__debug__" : Str)) = false ∧ (x == ("__classdict__" : Str)) = false := by
  unfold plainName at h
  rw [Bool.and_eq_true, Bool.not_eq_true', Bool.not_eq_true'] at h
  refine ⟨?_, ?_⟩
  · rw [beq_eq_false_iff_ne]
    intro e
    have := h.1
    rw [seq_iff.mpr (show x = sDebug from e)] at this
    cases this
  · rw [beq_eq_false_iff_ne]
    intro e
    have := h.2
    rw [seq_iff.mpr (show x = sClsD from e)] at this
    cases this
theorem cloFrom_nil {cells : List (Str × Addr)} : ∀ {names : List (Str × NameKind)}, (∀ y ∈ names, y.2 ≠ .free) → cloFrom cells names [] = []
  | [], _ => rfl
  | (n, k) :: r, h => by
    unfold cloFrom
    have hk : (k == NameKind.free) = false := by
      rw [beq_eq_false_iff_ne]
      exact h (n, k) (List.mem_cons_self ..)
    rw [hk]
    exact cloFrom_nil fun y hy => h y (List.mem_cons_of_mem _ hy)
theorem own_ix {N : List Str} {scope : Scope} : ∀ q ∈ ownOf N scope, N[q.2]? = some q.1 := by
  intro q hq
  unfold ownOf at hq
  obtain ⟨y, hy, e⟩ := List.mem_filterMap.mp hq
  split at e
  · cases h : ixOf y.1 N with
    | none => rw [h] at e; cases e
    | some i => rw [h] at e; cases e; exact ixOf_get h
  · cases h : ixOf y.1 N with
    | none => rw [h] at e; cases e
    | some i => rw [h] at e; cases e; exact ixOf_get h
  · cases e
end Z

set_option Elab.async false
set_option linter.all false
set_option maxRecDepth 100000
set_option maxHeartbeats 1000000
/-! Z25: expressions keep what they mean. -/
namespace Z
open PySem PySem.Spec PyProof.Rows L2
def bmV : List Value := [.type "ValueError", .type "Exception", .type "BaseException", .type "object"]
def bltNames : List Str := ["range", "enumerate", "any", "all", "tuple", "sum", "len", "int", "abs", "list", "str", "max", "min", "zip", "sorted", "dict"]
/-- a def that tries what it gets (ToldF by K, mg) -/
def ToldK (K : PySem.W.Frag) (mg : Str → Option Value) (g CS : Addr) (ret : Str) : Prop := ∃ (x a e : Str) (Ng : List Str) (sg : Scope) (pg : Arguments) (fd : FuncData) (j : Nat) (p1 p2 p3 p4 p5 p6 p7 p8 : Pos),
    FunD K x x pg [.Try [.Return (some (.Call (.Name a p1) [] [] p2)) p3] [.ExceptHandler (some (.Name e p4)) none [.Return (some (.Constant (.str ret) j p5)) p6] p7] [] [] p8] sg [] [] g fd ∧ FnScope Ng [a] sg ∧ L2.Binds K fd [a] [] ∧
      Ng[0]? = some a ∧ Vis sg a ∧ (a == ("__debug__" : Str)) = false ∧ (a == ("__classdict__" : Str)) = false ∧ sg.names.lookup e = some .globalImplicit ∧ mg e = some (.ref CS) ∧ (e == ("__debug__" : Str)) = false
/-- what stands behind the top, for the level k -/
structure WF (G : Prg) (p : Pl) (P : Program) (w : World) (K : PySem.W.Frag) (mg : Str → Option Value) (base : Heap) (k : Nat) (F : Nat → FM) : Prop where
  hK : p.K = K
  consts : ∀ x d, look x G.consts = some d → ∃ u, mg x = some u ∧ Wr K d u
  dicts : ∀ x kvs, look x G.dicts = some kvs → ∃ a, mg x = some (.ref a) ∧ KdR K w a kvs
  tolds : ∀ x j ret, look x G.tolds = some (j, ret) → j < G.excs.length ∧ ∃ g, mg x = some (.ref g) ∧ PySem.W.keepIn K (.ref g) = true ∧ ToldK K mg g (p.xa j) ret
  blt : ∀ x ∈ bltNames, mg x = none
  defs : ∀ x i d, defIx x G.defs = some (i, d) → ∃ fa fd, mg x = some (.ref fa) ∧ PySem.W.keepIn K (.ref fa) = true ∧ Binds K fd d.ps [] ∧ FnOk P w K mg base (CXM P w) (8 * k) fa fd d.ps (spOf p d.ps.length d.dp (F i))
  excs : ∀ x i, ixOf x G.excs = some i → mg x = some (.ref (p.xa i)) ∧ PySem.W.keepIn K (.ref (p.xa i)) = true ∧ PySem.W.excIn K (p.xa i) bmV "ValueError.__new__" = true ∧ PySem.W.subIn K (.ref (p.xa i)) (.type "BaseException") = some true ∧ PySem.W.typeIn K (.ref (p.xa i)) = some (.type "type")
  sub : ∀ i j b, i < G.excs.length → j < G.excs.length → G.sub i j = some b → PySem.W.exmOne K (.ref (p.xa i)) (.ref (p.xa j)) = some b
structure AgE (G : Prg) (p : Pl) (k : Nat) (F : Nat → FM) (Γ : Gam) (X : Cx) (WX : L2.WX) : Prop where
  wf : WF G p X.prog X.w X.K X.mg X.base k F
  room : Γ.calm = true → Room (8 * k + Γ.x) X.A
  un : X.A.units + 65 < cLine
  N : X.N = Γ.N
  nd : Γ.N.Nodup
  sc : X.env.scope = Γ.sc
  calm : X.calm = Γ.calm
  qual : X.env.qual = Γ.qual
  fn : ∀ x, Γ.own = true ∨ x ∈ Γ.oc → X.fn x = true
  tk : TakesM X WX
  gx : Γ.gx = true → ∃ c P, GxR.TabB X.base X.mg c P ∧ X.env.code = .ref c ∧ P ∈ p.tg ∧ ∀ q ∈ p.tl, q.1 ≠ P
  lm : Γ.lm = true → ∃ c P, LamX.TabB X.base X.mg c P ∧ X.env.code = .ref c ∧ (P, Γ.qual ++ "<lambda>") ∈ p.tl ∧ (∀ q ∈ p.tl, q.1 = P → q.2 = Γ.qual ++ "<lambda>") ∧ ∀ b ∈ p.tg, b ≠ P
  lfs : Γ.lfs = true → ∀ o, p.lfc o → ∃ cells, o = some cells
  hold : Γ.hold = true → ∀ o, p.lfc o → o = some X.env.cells
  dp : Γ.dp = true → ∀ o, p.lfc o → o = none
section
variable {G : Prg} {p : Pl} {k : Nat} {F : Nat → FM} {Γ : Gam} {X : Cx} {WX : L2.WX}
theorem AgE.kindOf (a : AgE G p k F Γ X WX) (x : Str) : X.env.kindOf x = kind Γ x := by
  unfold kind
  rw [look_lookup, ← a.sc]; rfl
theorem AgE.gl (a : AgE G p k F Γ X WX) {x : Str} (h : glob Γ x = true) : Gl X x := by
  show X.env.kindOf x = some .globalImplicit
  rw [a.kindOf]
  unfold glob at h
  split at h
  · rename_i e; exact e
  · cases h
theorem AgE.slot (a : AgE G p k F Γ X WX) {x : Str} {i : Nat} (h : slot Γ x = some i) : X.N[i]? = some x ∧ Vis X.env.scope x := by
  have hk : X.env.scope.names.lookup x = kind Γ x := a.kindOf x
  unfold Z.slot at h
  rw [a.N]
  split at h
  · rename_i e; exact ⟨ixOf_get h, .inl (hk.trans e)⟩
  · rename_i e; exact ⟨ixOf_get h, .inr (.inl (hk.trans e))⟩
  · rename_i e; exact ⟨ixOf_get h, .inr (.inr (hk.trans e))⟩
  · cases h
theorem AgE.slotW (a : AgE G p k F Γ X WX) {x : Str} {i : Nat} (h : slotW Γ x = some i) : X.N[i]? = some x ∧ Loc X.env.scope x ∧ (X.fn x = true ∨ X.env.scope.names.lookup x = some .local) := by
  have hk : X.env.scope.names.lookup x = kind Γ x := a.kindOf x
  unfold Z.slotW at h
  rw [a.N]
  split at h
  · rename_i e; exact ⟨ixOf_get h, .inl (hk.trans e), .inr (hk.trans e)⟩
  · rename_i e
    split at h
    · rename_i e2
      refine ⟨ixOf_get h, .inr (hk.trans e), .inl (a.fn x ?_)⟩
      rcases Bool.or_eq_true_iff.mp e2 with z | z
      · exact .inl z
      · obtain ⟨y, hy, hs⟩ := List.any_eq_true.mp z
        rw [seq_iff.mp hs]
        exact .inr hy
    · cases h
  · cases h
theorem AgE.ndX (a : AgE G p k F Γ X WX) : X.N.Nodup := by rw [a.N]; exact a.nd
theorem AgE.hK (a : AgE G p k F Γ X WX) : p.K = X.K := a.wf.hK
theorem AgE.blt (a : AgE G p k F Γ X WX) {x : Str} (h : x ∈ bltNames) : X.mg x = none := a.wf.blt x h
/-! ### changes of the context -/
theorem cells_lookup {scope : Scope} {x : Str} (hu : ∀ y ∈ scope.names, scope.names.lookup y.1 = some y.2) (h : x ∈ cellsOf scope) : scope.names.lookup x = some .cell := by
  unfold cellsOf at h
  obtain ⟨y, hy, e⟩ := List.mem_filterMap.mp h
  split at e
  · rename_i ek
    cases e
    rw [hu y hy, ek]
  · cases e
theorem AgE.blk (a : AgE G p k F Γ X WX) {scope : Scope} {s : Shared} {H : Hp} {C : Addr} {cl : List (Str × Addr)} {fp : List Addr} (hu : ∀ y ∈ scope.names, scope.names.lookup y.1 = some y.2) : AgE G p k F (blkG Γ scope) (X.blk s H scope (compEnvC scope cl C X.env) fp) W0x where
  wf := a.wf
  room := a.room
  un := a.un
  N := a.N
  nd := a.nd
  sc := by show relS scope X.env.scope = relS scope Γ.sc; rw [a.sc]
  calm := a.calm
  qual := a.qual
  fn := fun x h => by
    rcases h with h | h
    · cases h
    · show (scope.names.lookup x == some .cell) = true
      rw [cells_lookup hu h]
      rfl
  tk := takesM0
  gx := a.gx
  lm := a.lm
  lfs := a.lfs
  hold := fun h => by cases h
  dp := a.dp
theorem AgE.gxc (a : AgE G p k F Γ X WX) {scope : Scope} {A : Around} {s : Shared} {H : Hp} {L : Addr} {cd : Value} {fp : List Addr} (hu : ∀ y ∈ scope.names, scope.names.lookup y.1 = some y.2) (hx : 3 ≤ Γ.x) (hr : Room (8 * k + (Γ.x - 3)) (A.deeper (gxEnv X scope L cd))) :
    AgE G p k F (gxG Γ scope) (gxCx X A s H (gxEnv X scope L cd) fp) W0x where
  wf := a.wf
  room := fun _ => hr
  un := by
    have := hr.un
    show (A.deeper (gxEnv X scope L cd)).units + 65 < cLine
    omega
  N := a.N
  nd := a.nd
  sc := rfl
  calm := a.calm
  qual := by show X.env.qual ++ "<genexpr>." = Γ.qual ++ "<genexpr>."; rw [a.qual]
  fn := fun x h => by
    rcases h with h | h
    · cases h
    · show (scope.names.lookup x == some .cell) = true
      rw [cells_lookup hu h]
      rfl
  tk := takesM0
  gx := fun h => by cases h
  lm := fun h => by cases h
  lfs := a.lfs
  hold := fun h => by cases h
  dp := a.dp
theorem takes_lamCx {X : Cx} {A : Around} {outer : List PySem.Env} {s : Shared} {H : Hp} {E : XK} {scope : Scope} {f c' : Addr} : L2.Takes (LamX.lamCx X A outer s H E scope f c') (fun cls d _ H => E cls d H) := takes_of rfl rfl rfl rfl
theorem AgE.lamc (a : AgE G p k F Γ X WX) {li : LamI} {A : Around} {outer : List PySem.Env} {s : Shared} {H : Hp} {E : XK} {f c' : Addr} (hq : li.qual = X.env.qual ++ "<lambda>") (hr : Room (8 * k + (Γ.x - 2)) (A.deeper (LamX.lamEnv X li.scope s.heap.objs.size f c'))) :
    AgE G p k F (lamGm Γ li) (LamX.lamCx X A outer s H E li.scope f c') (fun cls _ _ H => E cls none H) where
  wf := a.wf
  room := fun _ => hr
  un := by
    have := hr.un
    show (A.deeper (LamX.lamEnv X li.scope s.heap.objs.size f c')).units + 65 < cLine
    omega
  N := a.N
  nd := a.nd
  sc := rfl
  calm := rfl
  qual := by show X.env.qual ++ "<lambda>" ++ ".<locals>." = li.qual ++ ".<locals>."; rw [hq]
  fn := fun x h => by
    rcases h with h | h
    · cases h
    · cases h
  tk := takesM_any takes_lamCx
  gx := fun h => by cases h
  lm := fun h => by cases h
  lfs := fun h => by cases h
  hold := fun h => by cases h
  dp := a.dp
theorem AgE.tr (a : AgE G p k F Γ X WX) {pn : List (Addr × Obj)} {xe : Value → Shared → Prop} {W : L2.WX} (tk : TakesM (X.tr pn xe) W) : AgE G p k F (inTry Γ) (X.tr pn xe) W := ⟨a.wf, a.room, a.un, a.N, a.nd, a.sc, a.calm, a.qual, a.fn, tk, a.gx, a.lm, a.lfs, a.hold, a.dp⟩
theorem AgE.suite (a : AgE G p k F Γ X WX) {b : Addr} {pn : List (Addr × Obj)} : AgE G p k F (coldS Γ) (X.suite b pn) W0x := ⟨a.wf, fun h => Bool.noConfusion h, a.un, a.N, a.nd, a.sc, rfl, a.qual, a.fn, takesM0, a.gx, a.lm, a.lfs, a.hold, a.dp⟩
/-! ### lists of expressions, targets -/
/-- what is known of the parts -/
abbrev RecOk (G : Prg) (p : Pl) (k : Nat) (F : Nat → FM) (rec_ : Rec) : Prop := ∀ (Γ : Gam) (X : Cx) (WX : L2.WX) (e : Expr), AgE G p k F Γ X WX → PE X e (tE p WX (rec_ Γ e).1) ∧ PT X e (tB p WX (rec_ Γ e).2)
variable {rec_ : Rec}
theorem pa_bad {es : List Expr} : PA X es (tA p WX fun _ _ => .bad) := ⟨fun _ _ _ _ _ _ _ ⟨_, _, _, _, _, q⟩ => q.elim⟩
theorem aList_ok (hr : RecOk G p k F rec_) (a : AgE G p k F Γ X WX) : ∀ es, PA X es (tA p WX (aList Γ rec_ es))
  | [] => r_nil
  | e :: es => by
    unfold aList
    split
    · rename_i h
      exact r_cons (hr Γ X WX e a).1 (aList_ok hr a es) (star_cons h)
    · exact pa_bad
theorem aList_len (e : Env) (s : Sto) : ∀ {es : List Expr} {ds : List D} {s1 : Sto}, aList Γ rec_ es e s = .ok ds s1 → ds.length = es.length ∧ es.all notStar = true := by
  intro es
  induction es generalizing s with
  | nil => intro ds s1 h; cases h; exact ⟨rfl, rfl⟩
  | cons x es ih =>
    intro ds s1 h
    unfold aList at h
    split at h
    · rename_i hx
      unfold aCons at h
      cases h1 : (rec_ Γ x).1 e s with
      | ok d s2 =>
        rw [h1] at h
        cases h2 : aList Γ rec_ es e s2 with
        | ok ds2 s3 =>
          have h' : ((aList Γ rec_ es e s2).bind fun xs s2 => (.ok (d :: xs) s2 : R (List D))) = .ok ds s1 := h
          rw [h2] at h'
          cases h'
          obtain ⟨q1, q2⟩ := ih s2 h2
          exact ⟨by rw [List.length_cons, List.length_cons, q1], by rw [List.all_cons, hx, q2]; rfl⟩
        | exc c s3 =>
          have h' : ((aList Γ rec_ es e s2).bind fun xs s2 => (.ok (d :: xs) s2 : R (List D))) = .ok ds s1 := h
          rw [h2] at h'
          cases h'
        | bad =>
          have h' : ((aList Γ rec_ es e s2).bind fun xs s2 => (.ok (d :: xs) s2 : R (List D))) = .ok ds s1 := h
          rw [h2] at h'
          cases h'
      | exc c s2 => rw [h1] at h; cases h
      | bad => rw [h1] at h; cases h
    · cases h
theorem opt_all_len {α β : Type} {f : α → Option β} : ∀ {xs : List α} {ys : List β}, optAll f xs = some ys → ys.length = xs.length := fun h => (Paired.length (opt_all h)).symm
theorem tg_ok (a : AgE G p k F Γ X WX) (hc : Γ.calm = true) : ∀ (n : Nat) (e : Expr) (t : Tg), tgOf Γ n e = some t → PG X e (gT p t)
  | 0, _, _, h => by cases h
  | n + 1, e, t, h => by
    cases e with
    | Name x pos =>
      have h : (if plainName x then (slotW Γ x).map tName else none) = some t := h
      split at h
      · cases h2 : slotW Γ x with
        | none => rw [h2] at h; cases h
        | some i =>
          rw [h2] at h
          cases h
          obtain ⟨q1, q2, q3⟩ := a.slotW h2
          exact r_tName a.ndX q1 q2 q3
      · cases h
    | Tuple es kk pos =>
      have h : (if es.all notStar then (optAll (tgOf Γ n) es).map tTup else none) = some t := h
      split at h
      · rename_i hs
        cases h2 : optAll (tgOf Γ n) es with
        | none => rw [h2] at h; cases h
        | some ts =>
          rw [h2] at h
          cases h
          have key : ∀ {es : List Expr} {ts : List Tg}, es.all notStar = true → optAll (tgOf Γ n) es = some ts → PGs X es (gTs p ts) := fun {es} => by
            induction es with
            | nil => intro ts _ h; cases h; exact r_tNil
            | cons e es ih =>
              intro ts hs h
              rw [List.all_cons, Bool.and_eq_true] at hs
              unfold optAll at h
              cases h3 : tgOf Γ n e with
              | none => rw [h3] at h; cases h
              | some t1 =>
                cases h4 : optAll (tgOf Γ n) es with
                | none => rw [h3, h4] at h; cases h
                | some ts1 =>
                  rw [h3, h4] at h
                  cases h
                  exact r_tCons (tg_ok a hc n e t1 h3) (ih hs.2 h4) (asg_map hs.1)
          exact r_tTup a.hK (a.calm.trans hc) (key hs h2) (by rw [asg_len hs, opt_all_len h2]) (asg_star hs)
      · cases h
    | _ => cases h
theorem tgw_ok (a : AgE G p k F Γ X WX) (hc : Γ.calm = true) {vs : List Nat} : ∀ (n : Nat) (e : Expr) (t : Tg), tgOf Γ n e = some t → (∀ i ∈ tgIx Γ n e, i ∈ vs) → PG X e (gTw p vs t)
  | 0, _, _, h, _ => by cases h
  | n + 1, e, t, h, hv => by
    cases e with
    | Name x pos =>
      have h : (if plainName x then (slotW Γ x).map tName else none) = some t := h
      split at h
      · cases h2 : slotW Γ x with
        | none => rw [h2] at h; cases h
        | some i =>
          rw [h2] at h
          cases h
          obtain ⟨q1, q2, q3⟩ := a.slotW h2
          refine r_wName a.ndX q1 q2 q3 (hv i ?_)
          show i ∈ (match slotW Γ x with | some i => [i] | none => [])
          rw [h2]
          exact List.mem_singleton.mpr rfl
      · cases h
    | Tuple es kk pos =>
      have h : (if es.all notStar then (optAll (tgOf Γ n) es).map tTup else none) = some t := h
      split at h
      · rename_i hs
        cases h2 : optAll (tgOf Γ n) es with
        | none => rw [h2] at h; cases h
        | some ts =>
          rw [h2] at h
          cases h
          have hv : ∀ i ∈ (es.map (tgIx Γ n)).flatten, i ∈ vs := hv
          have key : ∀ {es : List Expr} {ts : List Tg}, es.all notStar = true → optAll (tgOf Γ n) es = some ts → (∀ i ∈ (es.map (tgIx Γ n)).flatten, i ∈ vs) → PGs X es (gTws p vs ts) := fun {es} => by
            induction es with
            | nil => intro ts _ h _; cases h; exact r_wNil
            | cons e es ih =>
              intro ts hs h hv
              rw [List.all_cons, Bool.and_eq_true] at hs
              unfold optAll at h
              cases h3 : tgOf Γ n e with
              | none => rw [h3] at h; cases h
              | some t1 =>
                cases h4 : optAll (tgOf Γ n) es with
                | none => rw [h3, h4] at h; cases h
                | some ts1 =>
                  rw [h3, h4] at h
                  cases h
                  rw [List.map_cons, List.flatten_cons] at hv
                  exact r_wCons (tgw_ok a hc n e t1 h3 fun i hi => hv i (List.mem_append_left _ hi)) (ih hs.2 h4 fun i hi => hv i (List.mem_append_right _ hi)) (asg_map hs.1)
          exact r_wTup a.hK (a.calm.trans hc) (key hs h2 hv) (by rw [asg_len hs, opt_all_len h2]) (asg_star hs)
      · cases h
    | _ => cases h
end
end Z

set_option Elab.async false
set_option linter.all false
set_option maxRecDepth 100000
set_option maxHeartbeats 1000000
/-! Z26: expressions keep what they mean (the steps). -/
namespace Z
open PySem PySem.Spec PyProof.Rows L2
section
variable {G : Prg} {p : Pl} {k : Nat} {F : Nat → FM} {Γ : Gam} {X : Cx} {WX : L2.WX} {rec_ : Rec}
theorem pi_bad {tg e : Expr} : PI X tg e (tI p WX fun _ _ => .bad) := ⟨fun _ _ _ _ _ _ ⟨_, _, _, _, _, q⟩ => q.elim⟩
theorem pt_bad {e : Expr} : PT X e (tB p WX bBad) := ⟨fun _ _ _ _ _ _ ⟨_, _, _, _, _, q⟩ => q.elim⟩
theorem pw_bad {e : Expr} : PW X e (tB p WX bBad) := ⟨fun _ _ _ _ _ _ _ ⟨_, _, _, _, _, q⟩ => q.elim⟩
theorem and_t {a b : Bool} (h : (a && b) = true) : a = true ∧ b = true := by cases a <;> cases b <;> first | exact ⟨rfl, rfl⟩ | cases h
theorem stepW_ok (hr : RecOk G p k F rec_) (a : AgE G p k F Γ X WX) (tg e : Expr) : PI X tg e (tI p WX (stepW G rec_ Γ tg e)) := by
  have val : PI X tg e (tI p WX (wVal (rec_ Γ e).1)) := pi_val a.hK (hr Γ X WX e a).1
  unfold stepW
  split
  · rename_i f pp args pos
    split
    · rename_i h
      obtain ⟨hg, hn⟩ := and_t h
      have hn := name_of hn
      subst hn
      have hm : X.mg "range" = none := a.blt (by unfold bltNames; simp)
      split
      · rename_i x
        split
        · rename_i h1
          exact r_rng1 (a.gl hg) hm (aList_ok hr a [x]) (fun e s ds s1 h => (aList_len e s h).1) (by rw [star_cons h1]; rfl)
        · exact pi_bad
      · rename_i x y
        split
        · rename_i h1
          obtain ⟨h1, h2⟩ := and_t h1
          exact r_rng2 (a.gl hg) hm (aList_ok hr a [x, y]) (fun e s ds s1 h => (aList_len e s h).1) (by rw [star_cons h1, star_cons h2]; rfl) (by rw [star_cons h2]; rfl)
        · exact pi_bad
      · rename_i x y z
        split
        · rename_i h1
          obtain ⟨h1, h3⟩ := and_t h1
          obtain ⟨h1, h2⟩ := and_t h1
          exact r_rng3 (a.gl hg) hm (aList_ok hr a [x, y, z]) (fun e s ds s1 h => (aList_len e s h).1) (star_cons h1) (star_plain (by rw [List.all_cons, List.all_cons, h2, h3]; rfl))
        · exact pi_bad
      · exact pi_bad
    · split
      · rename_i h
        obtain ⟨hg, hn⟩ := and_t h
        have hn := name_of hn
        subst hn
        have hm : X.mg "enumerate" = none := a.blt (by unfold bltNames; simp)
        split
        · rename_i x es kk tpos
          split
          · rename_i h1
            exact r_enu a.hK (a.gl hg) hm (hr Γ X WX x a).1 (star_cons h1) rfl
          · exact pi_bad
        · exact pi_bad
      · exact val
  · exact val
/-! ### comprehensions -/
theorem ifs_ok (hr : RecOk G p k F rec_) (a : AgE G p k F Γ X WX) (ifs : List Expr) : ∃ tt : TT, PTs X ifs tt ∧ ∀ σ H Q, tB p WX (ifsOf Γ rec_ ifs) σ H Q → tt σ H Q := by
  cases ifs with
  | nil => exact ⟨tYes, pts_nil, fun σ H Q ⟨W, e, s, re, rp, q⟩ => Post.same rp q rfl⟩
  | cons c r =>
    cases r with
    | nil => exact ⟨_, pts_one (hr Γ X WX c a).2, fun σ H Q h => h⟩
    | cons c2 r => exact ⟨fun _ _ _ => False, ⟨fun _ _ _ _ _ _ z => z.elim⟩, fun σ H Q ⟨_, _, _, _, _, q⟩ => q.elim⟩
/-- the reading of a comprehension's tests -/
def ttOf (p : Pl) (WX : L2.WX) (Γ : Gam) (rec_ : Rec) : List Expr → TT
  | [] => tYes
  | [c] => tB p WX (rec_ Γ c).2
  | _ => fun _ _ _ => False
theorem tt_pts (hr : RecOk G p k F rec_) (a : AgE G p k F Γ X WX) : ∀ ifs, PTs X ifs (ttOf p WX Γ rec_ ifs)
  | [] => pts_nil
  | [c] => pts_one (hr Γ X WX c a).2
  | _ :: _ :: _ => ⟨fun _ _ _ _ _ _ z => z.elim⟩
theorem tt_imp {ifs : List Expr} : ∀ σ H Q, tB p WX (ifsOf Γ rec_ ifs) σ H Q → ttOf p WX Γ rec_ ifs σ H Q := by
  intro σ H Q h
  match ifs, h with
  | [], ⟨W, e, s, re, rp, q⟩ => exact Post.same rp q rfl
  | [c], h => exact h
  | _ :: _ :: _, ⟨_, _, _, _, _, q⟩ => exact q.elim
theorem compOf_eq {Γ' : Gam} {scope : Scope} {ok : Bool} {elt tg iter : Expr} {ifs : List Expr} {m : CompM} (h : compOf G rec_ Γ Γ' scope ok elt tg iter ifs = some m) :
    ok = true ∧ Γ.calm = true ∧ m.vs = (ownOf Γ.N scope).map (·.2) ∧ tgOf Γ' 4 tg = some m.t ∧ (∀ i ∈ tgIx Γ' 4 tg, i ∈ (ownOf Γ.N scope).map (·.2)) ∧ m.w = stepW G rec_ Γ tg iter ∧ m.c = ifsOf Γ' rec_ ifs ∧ m.el = (rec_ Γ' elt).1 := by
  unfold compOf at h
  split at h
  · rename_i t ht
    split at h
    · rename_i hc
      obtain ⟨hc, h3⟩ := and_t hc
      obtain ⟨h1, h2⟩ := and_t hc
      cases h
      refine ⟨h1, h2, rfl, ht, fun i hi => ?_, rfl, rfl, rfl⟩
      have := List.all_eq_true.mp h3 i hi
      exact List.contains_iff_mem.mp this
    · cases h
  · cases h
theorem lc_ok (hr : RecOk G p k F rec_) (a : AgE G p k F Γ X WX) {elt tg iter : Expr} {ifs : List Expr} {scope : Scope} {pos : Pos} {b : Bool} {m : CompM}
    (h : compOf G rec_ Γ (blkG Γ scope) scope (blkC Γ.N Γ.sc scope (ownOf Γ.N scope) && notSet iter) elt tg iter ifs = some m) : PE X (.ListComp elt [⟨tg, iter, ifs, 0⟩] scope pos) (tE p WX (mLc b m.vs m.t m.w m.c m.el)) := by
  obtain ⟨h1, h2, h3, h4, h5, h6, h7, h8⟩ := compOf_eq h
  obtain ⟨h1, h9⟩ := and_t h1
  have ok : BlkOk X.N X.env.scope scope (ownOf Γ.N scope) := by rw [a.N, a.sc]; exact blkOk_by h1
  rw [h3, h6, h7, h8]
  exact r_lc (a.calm.trans h2) a.ndX (stepW_ok hr a tg iter) ok (fun s H C cl fp => tgw_ok (a.blk ok.uniq) h2 4 tg m.t h4 h5) (fun s H C cl fp => tt_pts hr (a.blk ok.uniq) ifs) tt_imp (fun s H C cl fp => (hr _ _ _ elt (a.blk ok.uniq)).1) (fold_set h9)
theorem setLc_ok (hr : RecOk G p k F rec_) (a : AgE G p k F Γ X WX) {elt tg iter : Expr} {ifs : List Expr} {scope : Scope} {pos : Pos} {b : Bool} {m : CompM} {i : Nat} {y : Str} {py spos : Pos} (hy : X.N[i]? = some y) (hyl : X.env.scope.names.lookup y = some .local)
    (hsw : swapsWith (.ListComp elt [⟨tg, iter, ifs, 0⟩] scope pos) (some (.Name y py)) spos.line X.env = pure true)
    (h : compOf G rec_ Γ (blkG Γ scope) scope (blkC Γ.N Γ.sc scope (ownOf Γ.N scope) && notSet iter) elt tg iter ifs = some m) : PS X (.Assign [.Name y py] (.ListComp elt [⟨tg, iter, ifs, 0⟩] scope pos) spos) (tS p WX (sAsg (tName i) (mLc b m.vs m.t m.w m.c m.el))) := by
  obtain ⟨h1, h2, h3, h4, h5, h6, h7, h8⟩ := compOf_eq h
  obtain ⟨h1, h9⟩ := and_t h1
  have ok : BlkOk X.N X.env.scope scope (ownOf Γ.N scope) := by rw [a.N, a.sc]; exact blkOk_by h1
  rw [h3, h6, h7, h8]
  exact r_setLc (a.calm.trans h2) a.ndX hy hyl hsw (stepW_ok hr a tg iter) ok (fun s H C cl fp => tgw_ok (a.blk ok.uniq) h2 4 tg m.t h4 h5) (fun s H C cl fp => tt_pts hr (a.blk ok.uniq) ifs) tt_imp (fun s H C cl fp => (hr _ _ _ elt (a.blk ok.uniq)).1) (fold_set h9)
/-- a generator expression's parts -/
theorem gen_ok (hr : RecOk G p k F rec_) (a : AgE G p k F Γ X WX) {e : Expr} {m : CompM} (h : genOf G rec_ Γ e = some m) :
    ∃ (elt tg iter : Expr) (ifs : List Expr) (scope : Scope) (gpos : Pos) (c P : Addr) (own : List (Str × Nat)) (tt : TT), e = .GeneratorExp elt [⟨tg, iter, ifs, 0⟩] scope gpos ∧ Γ.calm = true ∧ m.vs = own.map (·.2) ∧ Room (8 * k + (Γ.x - 3) + 3) X.A ∧
      GxH X p c P scope own ∧ GxE X p WX (8 * k + (Γ.x - 3)) scope own tg iter elt ifs m.t m.w m.c tt m.el := by
  unfold genOf at h
  split at h
  · rename_i elt tg iter ifs scope gpos
    obtain ⟨h1, h2, h3, h4, h5, h6, h7, h8⟩ := compOf_eq h
    obtain ⟨h1, h9⟩ := and_t h1
    obtain ⟨h1, h10⟩ := and_t h1
    obtain ⟨h1, h11⟩ := and_t h1
    have h10 := of_decide_eq_true h10
    have ok : GxOk X.N X.env.scope scope (ownOf Γ.N scope) := by rw [a.N, a.sc]; exact gxOk_by h1
    obtain ⟨c, P, tb, hcode, htg, htl⟩ := a.gx h11
    have room := a.room h2
    refine ⟨elt, tg, iter, ifs, scope, gpos, c, P, ownOf Γ.N scope, ttOf p W0x (gxG Γ scope) rec_ ifs, rfl, h2, h3, room.mono (by omega), ⟨room.depth, a.calm.trans h2, a.ndX, tb, hcode, ok, htg, htl⟩, ?_⟩
    rw [h6, h7, h8]
    exact ⟨stepW_ok hr a tg iter, fun A s H L cd fp hr' => tgw_ok (a.gxc ok.blk.uniq h10 hr') h2 4 tg m.t h4 h5, fun A s H L cd fp hr' => tt_pts hr (a.gxc ok.blk.uniq h10 hr') ifs, tt_imp, fun A s H L cd fp hr' => (hr _ _ _ elt (a.gxc ok.blk.uniq h10 hr')).1, fold_gen h9⟩
  · cases h
end
end Z

set_option Elab.async false
set_option linter.all false
set_option maxRecDepth 100000
set_option maxHeartbeats 1000000
/-! Z27: expressions keep what they mean (all). -/
namespace Z
open PySem PySem.Spec PyProof.Rows L2
section
variable {G : Prg} {p : Pl} {k : Nat} {F : Nat → FM} {Γ : Gam} {X : Cx} {WX : L2.WX} {rec_ : Rec}
theorem pt_ifExp {X : Cx} {c a b : Expr} {tc ta tb : TT} {pos : Pos} (hc : PT X c tc) (ha : PT X a ta) (hb : PT X b tb) : PT X (.IfExp c a b pos) (fun σ H Q => tc σ H fun z H1 => if z = true then ta σ H1 Q else tb σ H1 Q) := by
  refine ⟨fun pins s σ H Q I h => ?_⟩
  refine isTrue_IfExp (thn (hc.run pins s σ H _ I h) fun z s1 ⟨H1, I1, q1⟩ => ?_)
  cases z with
  | true => exact ha.run pins s1 σ H1 Q I1 q1
  | false => exact hb.run pins s1 σ H1 Q I1 q1
theorem r_bIf {c a b : MB} {ec ea eb : Expr} {pos : Pos} (hc : PT X ec (tB p WX c)) (ha : PT X ea (tB p WX a)) (hb : PT X eb (tB p WX b)) : PT X (.IfExp ec ea eb pos) (tB p WX (bIf c a b)) :=
  PT.imp (pt_ifExp hc ha hb) fun _ _ _ ⟨W, e, s, re, rp, q⟩ => ⟨W, e, s, re, rp, q.fold fun W1 H1 d v s1 l fr rp1 rv q1 => by
    subst rv
    cases v with
    | true => rw [if_pos rfl]; exact ⟨W1, e, s1, re.mono l, rp1, q1⟩
    | false => rw [if_neg Bool.false_ne_true]; exact ⟨W1, e, s1, re.mono l, rp1, q1⟩⟩
theorem r_mTbad {m : ME} {e : Expr} (h : ∀ en s, m en s = .bad) : PT X e (tB p WX (mT m)) := ⟨fun _ _ _ _ _ _ ⟨_, en, s, _, _, q⟩ => by
  unfold mT at q
  rw [h] at q
  exact q.elim⟩
theorem plain_of' {x : Str} (h : plainName x = true) : (x == ("__debug__" : Str)) = false := (plain_debug h).1
theorem kd_of (a : AgE G p k F Γ X WX) {e : Expr} {kvs : List (Str × Z.D)} (h : kdOf G Γ e = some kvs) : ∃ ad, PE X e (tC (.ref ad)) ∧ KdR X.K X.w ad kvs := by
  unfold kdOf at h
  split at h
  · rename_i x pos
    split at h
    · rename_i h1
      obtain ⟨h1, h2⟩ := and_t h1
      obtain ⟨ad, q1, q2⟩ := a.wf.dicts _ _ h
      exact ⟨ad, pe_glob (a.gl h2) q1 rfl (plain_of' h1), q2⟩
    · cases h
  · cases h
theorem kt_of (a : AgE G p k F Γ X WX) {e : Expr} {xs : List Z.D} (h : ktOf G Γ e = some xs) : ∃ ad, PE X e (tC (.ref ad)) ∧ (∀ W, RelD p.K W (.tup xs) (.ref ad)) ∧ ∃ o, X.K.lookup ad = some o ∧ o.cls = .type "tuple" ∧ o.dict = none := by
  unfold ktOf at h
  split at h
  · rename_i x pos
    split at h
    · rename_i h1
      obtain ⟨h1, h2⟩ := and_t h1
      split at h
      · rename_i ys hc
        cases h
        obtain ⟨u, q1, v, q2, q3, q4⟩ := a.wf.consts _ _ hc
        obtain ⟨ad, vs, e, _, _⟩ := relD_tup (q3 ⟨fun _ => none, [], none⟩)
        subst e
        exact ⟨ad, pe_glob (a.gl h2) q1 q2 (plain_of' h1), fun W => a.hK ▸ q3 W, q4 ad rfl⟩
      · cases h
    · cases h
  · cases h
theorem chain_ok (hr : RecOk G p k F rec_) (a : AgE G p k F Γ X WX) (l : Expr) (ops : List CmpOp) (es : List Expr) (pos : Pos) : PE X (.Compare l ops es pos) (tE p WX (chainE G rec_ Γ l ops es)) ∧ PT X (.Compare l ops es pos) (tB p WX (mB (chainE G rec_ Γ l ops es))) := by
  have bad : PE X (.Compare l ops es pos) (tE p WX mBad) ∧ PT X (.Compare l ops es pos) (tB p WX (mB mBad)) := ⟨r_bad, ⟨fun _ _ _ _ _ _ ⟨_, en, s, _, _, q⟩ => q.elim⟩⟩
  unfold chainE
  split
  · rename_i op b
    split
    · exact bad
    · rename_i hm
      rw [Bool.not_eq_true] at hm
      split
      · rename_i kvs hk
        obtain ⟨ad, q1, q2⟩ := kd_of a hk
        split
        · exact ⟨r_kEq false a.hK a.un q2 q1 (hr Γ X WX b a).1 hm, r_kEqT false a.hK a.un q2 q1 (hr Γ X WX b a).1 hm⟩
        · exact ⟨r_kEq true a.hK a.un q2 q1 (hr Γ X WX b a).1 hm, r_kEqT true a.hK a.un q2 q1 (hr Γ X WX b a).1 hm⟩
        · exact bad
      · exact ⟨r_cmp (cmp_R a.hK a.un op) (hr Γ X WX l a).1 (hr Γ X WX b a).1 hm, r_cmpT (cmp_R a.hK a.un op) (hr Γ X WX l a).1 (hr Γ X WX b a).1 hm⟩
  · rename_i op op' b c
    split
    · exact bad
    · rename_i hm
      rw [Bool.not_eq_true] at hm
      exact ⟨r_chain (cmp_R a.hK a.un op) (cmp_R a.hK a.un op') (hr Γ X WX l a).1 (hr Γ X WX b a).1 (hr Γ X WX c a).1 hm, r_chainT (cmp_R a.hK a.un op) (cmp_R a.hK a.un op') (hr Γ X WX l a).1 (hr Γ X WX b a).1 (hr Γ X WX c a).1 hm⟩
  · exact bad
theorem boolsE_ok (hr : RecOk G p k F rec_) (a : AgE G p k F Γ X WX) {op : BoolOp} {pos : Pos} : ∀ es, PE X (.BoolOp op es pos) (tE p WX (boolsE op Γ rec_ es))
  | [] => r_bad
  | [x] => pe_one (hr Γ X WX x a).1
  | x :: y :: r => by
    have ih := boolsE_ok hr a (op := op) (pos := pos) (y :: r)
    cases op with
    | And => exact r_and a.hK (hr Γ X WX x a).1 ih
    | Or => exact r_or a.hK (hr Γ X WX x a).1 ih
theorem boolsT_ok (hr : RecOk G p k F rec_) (a : AgE G p k F Γ X WX) {op : BoolOp} {pos : Pos} : ∀ es, PW X (.BoolOp op es pos) (tB p WX (boolsT op Γ rec_ es))
  | [] => pw_bad
  | [x] => by
    cases op with
    | And => exact pw_and1 (hr Γ X WX x a).2
    | Or => exact pw_or1 (hr Γ X WX x a).2
  | x :: y :: r => by
    have ih := boolsT_ok hr a (op := op) (pos := pos) (y :: r)
    cases op with
    | And => exact r_bAnd (hr Γ X WX x a).2 ih
    | Or => exact r_bOr (hr Γ X WX x a).2 ih
theorem slOpt_ok (hr : RecOk G p k F rec_) (a : AgE G p k F Γ X WX) : ∀ o, PO X o (tO p WX (slOpt Γ rec_ o))
  | none => r_oNone
  | some e => r_oSome (hr Γ X WX e a).1
theorem one_is {st : Expr} (h : isOne st = true) : ∃ j p1 p2, st = .UnaryOp .USub (.Constant (.int 1) j p1) p2 := by
  unfold isOne at h
  split at h
  · exact ⟨_, _, _, rfl⟩
  · cases h
theorem meth_ok (hr : RecOk G p k F rec_) (a : AgE G p k F Γ X WX) (o : Expr) (nm : Str) (apos : Pos) (args : List Expr) (pos : Pos) : PE X (.Call (.Attribute o nm apos) args [] pos) (tE p WX (stepMeth G rec_ Γ o nm apos args pos)) := by
  unfold stepMeth
  split
  · exact r_bad
  · rename_i h
    rw [Bool.not_eq_true, Bool.or_eq_false_iff, Bool.not_eq_false', Bool.not_eq_false'] at h
    split
    · rename_i x
      split
      · rename_i hn
        obtain ⟨hn, hx⟩ := and_t hn
        have hn := name_of hn
        subst hn
        have few : ((backTo pos (starEach [x] X.env)).all (fun x => !x.1) && (backToKw pos (keywordEach [] X.env)).all (fun x => x.1.isSome) && decide (([x] : List Expr).length + ([] : List Keyword).length + (if ([] : List Keyword).isEmpty then 0 else 1) < 30)) = true := by
          rw [star_not (by rw [List.all_cons, hx]; rfl)]; rfl
        split
        · rename_i xs hk
          obtain ⟨ad, q1, q2, q3⟩ := kt_of a hk
          exact r_tIdx a.hK q1 q2 q3 a.un (hr Γ X WX x a).1 (attr_base h.2) few h.1 (star_cons hx)
        · split
          · rename_i hc
            exact r_Mt (id := "str.index") a.hK PySem.F.plainAttrs_str PySem.F.slot_str_index PySem.F.type_str_index (mt_indexS (a.calm.trans hc)) (hr Γ X WX o a).1 (aList_ok hr a [x]) (attr_base h.2) few h.1 (star_cons hx) rfl
          · exact r_bad
      · split
        · rename_i hn
          obtain ⟨hn, hx⟩ := and_t hn
          have hn := name_of hn
          subst hn
          have few : ((backTo pos (starEach [x] X.env)).all (fun x => !x.1) && (backToKw pos (keywordEach [] X.env)).all (fun x => x.1.isSome) && decide (([x] : List Expr).length + ([] : List Keyword).length + (if ([] : List Keyword).isEmpty then 0 else 1) < 30)) = true := by
            rw [star_not (by rw [List.all_cons, hx]; rfl)]; rfl
          exact r_Mt (id := "list.append") a.hK PySem.F.plainAttrs_list PySem.F.slot_list_append PySem.F.type_list_append mt_appendR (hr Γ X WX o a).1 (aList_ok hr a [x]) (attr_base h.2) few h.1 (star_cons hx) rfl
        · exact r_bad
    · rename_i x y
      split
      · rename_i hn
        obtain ⟨hn, hy⟩ := and_t hn
        obtain ⟨hn, hx⟩ := and_t hn
        have hn := name_of hn
        subst hn
        have m : M2 X o "get" apos x y pos := ⟨attr_base h.2, by rw [star_not (by rw [List.all_cons, List.all_cons, hx, hy]; rfl)]; rfl, h.1, by rw [star_cons hx, star_cons hy]; rfl⟩
        split
        · rename_i kvs hk
          obtain ⟨ad, q1, q2⟩ := kd_of a hk
          exact r_kGet a.hK q1 q2 (hr Γ X WX x a).1 (hr Γ X WX y a).1 m
        · split
          · exact r_dGet (by have := a.un; omega) (hr Γ X WX o a).1 (hr Γ X WX x a).1 (hr Γ X WX y a).1 m
          · exact r_bad
      · exact r_bad
    · exact r_bad
theorem lamF_of (a : AgE G p k F Γ X WX) (hl : Γ.lm = true) {e : Expr} {li : LamI} (h : liOf Γ e = some li) : ∃ pos c P, e = .Lambda li.params li.body li.scope pos ∧ LamF X p li c P := by
  unfold liOf at h
  split at h
  · rename_i params body scope pos
    split at h
    · rename_i h1
      obtain ⟨h1, h2⟩ := and_t h1
      cases h
      obtain ⟨c, P, tb, hcode, hm, hu, hg⟩ := a.lm hl
      exact ⟨pos, c, P, rfl, ⟨tb, hcode, hm, hu, hg, by rw [a.qual], noArgs_iff h1, by rw [a.sc]; exact LamX.lamS_by h2⟩⟩
    · cases h
  · cases h
theorem catch_ok (a : AgE G p k F Γ X WX) {j : Nat} (hj : j < G.excs.length) : ∀ i b, catchOf G j i = some b → PySem.W.exmOne X.K (.ref (p.xa i)) (.ref (p.xa j)) = some b := fun i b hb => by
  unfold catchOf at hb
  split at hb
  · rename_i hi
    exact a.wf.sub i j b (of_decide_eq_true hi) hj hb
  · cases hb
theorem told_ok (hr : RecOk G p k F rec_) (a : AgE G p k F Γ X WX) {f : Str} {j : Nat} {ret : Str} (hf : look f G.tolds = some (j, ret)) (hgl : Gl X f) (hdb : (f == ("__debug__" : Str)) = false) (pp : Pos) (args : List Expr) (pos : Pos) : PE X (.Call (.Name f pp) args [] pos) (tE p WX (stepTold G rec_ Γ j ret args)) := by
  obtain ⟨hj, g, hm, hk, T⟩ := a.wf.tolds f j ret hf
  have T : ToldF X g (p.xa j) ret := ⟨T⟩
  have hs : ∀ c, catchOf G j c = some true → PySem.W.exmOne p.K (.ref (p.xa c)) (.ref (p.xa j)) = some true := fun c hc => by rw [a.hK]; exact catch_ok a hj c true hc
  unfold stepTold
  split
  · rename_i x
    split
    · rename_i li hli
      split
      · rename_i h
        obtain ⟨h, h3⟩ := and_t h
        obtain ⟨h1, h2⟩ := and_t h
        have h2 := of_decide_eq_true h2
        obtain ⟨lpos, c, P, e, LF⟩ := lamF_of a h1 hli
        subst e
        refine r_told1 (k := 8 * k + (Γ.x - 2)) a.hK LF T hgl hm hk hs ((a.room h3).mono (by omega)) hdb fun A outer s H E f c' hr' => ?_
        exact (hr _ _ _ li.body (a.lamc LF.qual hr')).1
      · exact r_bad
    · split
      · rename_i h
        obtain ⟨h, h3⟩ := and_t h
        obtain ⟨h, h2⟩ := and_t h
        obtain ⟨h0, h1⟩ := and_t h
        have h2 := of_decide_eq_true h2
        have hst : notStarX x = true := by cases x <;> first | rfl | (cases h0)
        have okq : ∀ li, okL Γ li = true → LamX.LamS X.env.scope li.scope ∧ li.qual = X.env.qual ++ "<lambda>" ∧ li.params = ⟨[], [], none, [], [], none, []⟩ ∧ ∀ o, p.lfc o → ∃ cells, o = some cells ∧ cloFrom X.env.cells li.scope.names [] = cloFrom cells li.scope.names [] := fun li hli => by
          unfold okL at hli
          obtain ⟨hli, q4⟩ := and_t hli
          obtain ⟨hli, q3⟩ := and_t hli
          obtain ⟨q1, q2⟩ := and_t hli
          refine ⟨by rw [a.sc]; exact LamX.lamS_by q2, by rw [a.qual]; exact seq_iff.mp q3, noArgs_iff q1, fun o ho => ?_⟩
          rcases Bool.or_eq_true_iff.mp q4 with z | z
          · obtain ⟨cells, e⟩ := a.lfs h1 o ho
            have hfree : ∀ y ∈ li.scope.names, y.2 ≠ .free := fun y hy e => by
              have := List.all_eq_true.mp z y hy
              rw [decide_eq_true e] at this
              cases this
            exact ⟨cells, e, by rw [cloFrom_nil hfree, cloFrom_nil hfree]⟩
          · exact ⟨X.env.cells, a.hold z o ho, rfl⟩
        refine r_told (k := 8 * k + (Γ.x - 2)) (b := fun li => (rec_ (lamGm Γ li) li.body).1) (ok := okL Γ) a.hK T hgl hm hk hs ((a.room h3).mono (by omega)) hdb (hr Γ X WX x a).1 hst okq fun li hli A outer s H E f c' hr' => ?_
        exact (hr _ _ _ li.body (a.lamc (okq li hli).2.1 hr')).1
      · exact r_bad
  · exact r_bad
theorem blt_ne {x : Str} (h : plainName x = true) : (x == ("__debug__" : Str)) = false := (plain_debug h).1
theorem listE_ok (hr : RecOk G p k F rec_) (a : AgE G p k F Γ X WX) {pp : Pos} (x : Expr) (pos : Pos) (hgl : Gl X "list") (hst : notStar x = true) : PE X (.Call (.Name "list" pp) [x] [] pos) (tE p WX (listE G rec_ Γ x pos)) := by
  have hm : X.mg "list" = none := a.blt (by unfold bltNames; simp)
  have hm2 : X.mg "range" = none := a.blt (by unfold bltNames; simp)
  have he : starEach [x] X.env = (false, eval x X.env) :: starEach [] X.env := star_cons hst
  unfold listE
  have rn : ∀ l, rngArg x = some l → ∃ p2 pos2, x = .Call (.Name "range" p2) l [] pos2 := fun l h => by
    unfold rngArg at h
    split at h
    · split at h
      · rename_i h1
        cases h
        have := name_of h1
        subst this
        exact ⟨_, _, rfl⟩
      · cases h
    · cases h
  split
  · rename_i y h
    obtain ⟨p2, pos2, e⟩ := rn _ h
    subst e
    split
    · rename_i h
      obtain ⟨h, h3⟩ := and_t h
      obtain ⟨h1, h2⟩ := and_t h
      exact r_rgL1 (a.calm.trans h1) hgl hm (a.gl h3) hm2 (hr Γ X WX y a).1 (star_cons h2)
    · exact r_bad
  · rename_i y z h
    obtain ⟨p2, pos2, e⟩ := rn _ h
    subst e
    split
    · rename_i h
      obtain ⟨h, h4⟩ := and_t h
      obtain ⟨h, h3⟩ := and_t h
      obtain ⟨h1, h2⟩ := and_t h
      exact r_rgL2 (a.calm.trans h1) hgl hm (a.gl h4) hm2 (hr Γ X WX y a).1 (hr Γ X WX z a).1 (star_cons h2) (star_cons h3) (star_plain (by rw [List.all_cons, h3]; rfl))
    · exact r_bad
  · exact r_bad
  · exact r_Ty (b_list a.hK _) hgl hm rfl (aList_ok hr a [x]) (by decide) (by decide) he rfl
theorem call_ok (hr : RecOk G p k F rec_) (a : AgE G p k F Γ X WX) (f : Str) (pp : Pos) (args : List Expr) (pos : Pos) : PE X (.Call (.Name f pp) args [] pos) (tE p WX (stepCall G F rec_ Γ f args pos)) := by
  unfold stepCall
  split
  · exact r_bad
  · rename_i hpn
    have hpn : plainName f = true := by
      cases h : plainName f with
      | true => rfl
      | false => rw [h] at hpn; exact absurd rfl hpn
    obtain ⟨hdb, hcd⟩ := plain_debug hpn
    split
    · exact r_bad
    · split
      · exact r_bad
      · rename_i hg
        have hg : glob Γ f = true := by
          cases h : glob Γ f with
          | true => rfl
          | false => rw [h] at hg; exact absurd rfl hg
        have hgl := a.gl hg
        split
        · rename_i jt rett htd
          exact told_ok hr a htd hgl hdb pp args pos
        split
        · rename_i i d hd
          split
          · rename_i h
            obtain ⟨h, hdp⟩ := and_t h
            obtain ⟨hc, hst⟩ := and_t h
            obtain ⟨fa, fd, h1, h2, h3, h4⟩ := a.wf.defs f i d hd
            have hdp : d.dp = true → ∀ o, p.lfc o → o = none := fun z => a.dp (by
              rw [z] at hdp
              exact hdp)
            have room : Room (8 * k) X.A := (a.room hc).mono (by omega)
            cases args with
            | nil => exact r_call0 h4 hdp room hgl h1 h2 h3 a.tk hdb
            | cons x xs =>
              rw [List.all_cons, Bool.and_eq_true] at hst
              exact r_call h4 hdp room hgl h1 h2 h3 a.tk (aList_ok hr a (x :: xs)) hdb (star_cons hst.1) (star_plain hst.2)
          · exact r_bad
        · split
          · exact r_bad
          · rename_i x
            split
            · rename_i m hm
              obtain ⟨elt, tg, iter, ifs, scope, gpos, c, P, own, tt, he, hc, hvs, hroom, GH, GE⟩ := gen_ok hr a hm
              subst he
              rw [hvs]
              split
              · exact r_bad
              · split
                · rename_i hn
                  have hn := name_of hn
                  subst hn
                  exact pe_qnG (st := true) GH GE hroom hgl (a.blt (by unfold bltNames; simp)) rfl (by decide) hdb rfl rfl
                · split
                  · rename_i hn
                    have hn := name_of hn
                    subst hn
                    exact pe_qnG (st := false) GH GE hroom hgl (a.blt (by unfold bltNames; simp)) rfl (by decide) hdb rfl rfl
                  · split
                    · rename_i hn
                      have hn := name_of hn
                      subst hn
                      exact pe_tupleG GH GE hroom hgl (a.blt (by unfold bltNames; simp)) rfl (by decide) hdb rfl rfl
                    · split
                      · rename_i hn
                        have hn := name_of hn
                        subst hn
                        exact pe_sumG GH GE hroom hgl (a.blt (by unfold bltNames; simp)) rfl (by decide) hdb rfl rfl
                      · exact r_bad
            · split
              · exact r_bad
              · rename_i hst
                have hst : notStar x = true := by
                  cases h : notStar x with
                  | true => rfl
                  | false => rw [h] at hst; exact absurd rfl hst
                have ha := aList_ok hr a [x]
                have he : starEach [x] X.env = (false, eval x X.env) :: starEach [] X.env := star_cons hst
                split
                · rename_i hn
                  have hn := name_of hn
                  subst hn
                  split
                  · rename_i e2 he2
                    split
                    · rename_i h
                      obtain ⟨h, h3⟩ := and_t h
                      obtain ⟨h1, h2⟩ := and_t h
                      unfold dictArg at he2
                      split at he2
                      · rename_i f2 pp2 e3 pos2
                        split at he2
                        · rename_i hn2
                          cases he2
                          have hn2 := name_of hn2
                          subst hn2
                          exact r_lenD a.hK (a.calm.trans h1) a.un hgl (a.blt (by unfold bltNames; simp)) (a.gl h3) (a.blt (by unfold bltNames; simp)) (hr Γ X WX _ a).1 (star_cons h2)
                        · cases he2
                      · cases he2
                    · exact r_bad
                  · exact r_B (b_len a.hK) hgl (a.blt (by unfold bltNames; simp)) rfl ha (by decide) hdb he rfl
                · split
                  · rename_i hn
                    have hn := name_of hn
                    subst hn
                    exact r_Ty b_int hgl (a.blt (by unfold bltNames; simp)) rfl ha (by decide) hdb he rfl
                  · split
                    · rename_i hn
                      have hn := name_of hn
                      subst hn
                      exact r_B b_abs hgl (a.blt (by unfold bltNames; simp)) rfl ha (by decide) hdb he rfl
                    · split
                      · rename_i hn
                        have hn := name_of hn
                        subst hn
                        exact listE_ok hr a x pos hgl hst
                      · split
                        · rename_i hn
                          have hn := name_of hn
                          subst hn
                          exact r_Ty (b_tup a.hK) hgl (a.blt (by unfold bltNames; simp)) rfl ha (by decide) hdb he rfl
                        · split
                          · rename_i hn
                            have hn := name_of hn
                            subst hn
                            exact r_Ty b_str hgl (a.blt (by unfold bltNames; simp)) rfl ha (by decide) hdb he rfl
                          · split
                            · rename_i hn
                              have hn := name_of hn
                              subst hn
                              split
                              · rename_i hc
                                exact r_B (b_sum a.hK (a.calm.trans hc)) hgl (a.blt (by unfold bltNames; simp)) rfl ha (by decide) hdb he rfl
                              · exact r_bad
                            · exact r_bad
          · rename_i x y
            split
            · exact r_bad
            · rename_i hst
              have hst : (notStar x && notStar y) = true := by
                cases h : (notStar x && notStar y) with
                | true => rfl
                | false => rw [h] at hst; exact absurd rfl hst
              obtain ⟨hx, hy⟩ := and_t hst
              have ha := aList_ok hr a [x, y]
              have he : starEach [x, y] X.env = (false, eval x X.env) :: starEach [y] X.env := star_cons hx
              have hpl : (backTo pos (starEach [y] X.env)).any (·.1) = false := star_plain (by rw [List.all_cons, hy]; rfl)
              split
              · rename_i hn
                have hn := name_of hn
                subst hn
                split
                · rename_i hc
                  exact r_B (b_max (a.calm.trans hc)) hgl (a.blt (by unfold bltNames; simp)) rfl ha (by decide) hdb he hpl
                · exact r_bad
              · split
                · rename_i hn
                  have hn := name_of hn
                  subst hn
                  split
                  · rename_i hc
                    exact r_B (b_min (a.calm.trans hc)) hgl (a.blt (by unfold bltNames; simp)) rfl ha (by decide) hdb he hpl
                  · exact r_bad
                · exact r_bad
          · exact r_bad
theorem pj_ok (hr : RecOk G p k F rec_) (a : AgE G p k F Γ X WX) : ∀ es : List Expr, PJ X es ((es.map fun e => (rec_ Γ e).1).map (tE p WX))
  | [] => .nil
  | e :: es => .cons (hr Γ X WX e a).1 (pj_ok hr a es)
theorem nodupS_ok : ∀ {l : List Str}, nodupS l = true → l.Nodup
  | [], _ => List.nodup_nil
  | x :: r, h => by
    obtain ⟨h1, h2⟩ := and_t (show (!r.any (seq x) && nodupS r) = true from h)
    refine List.nodup_cons.mpr ⟨fun hx => ?_, nodupS_ok h2⟩
    rw [Bool.not_eq_true'] at h1
    have := List.any_eq_false.mp h1 x hx
    exact this (seq_iff.mpr rfl)
theorem disp_keys : ∀ {keys : List (Option Expr)} {ks : List Str} {ms : List ME}, optAll strKey keys = some ks → keys.length = ms.length → Paired (fun (k : Option Expr) (q : Str × ME) => ∃ j kp, k = some (.Constant (.str q.1) j kp)) keys (ks.zip ms)
  | [], ks, ms, h, hl => by
    cases h
    cases ms with
    | nil => exact .nil
    | cons a b => cases hl
  | x :: keys, ks, ms, h, hl => by
    unfold optAll at h
    cases h1 : strKey x with
    | none => rw [h1] at h; cases h
    | some y =>
      cases h2 : optAll strKey keys with
      | none => rw [h1, h2] at h; cases h
      | some ys =>
        rw [h1, h2] at h
        cases h
        cases ms with
        | nil => cases hl
        | cons m ms =>
          refine .cons ?_ (disp_keys h2 (Nat.succ.inj hl))
          unfold strKey at h1
          split at h1
          · cases h1
            exact ⟨_, _, rfl⟩
          · cases h1
theorem disp_vals (hr : RecOk G p k F rec_) (a : AgE G p k F Γ X WX) : ∀ {values : List Expr} {ks : List Str}, ks.length = values.length → Paired (fun (e : Expr) (q : Str × ME) => PE X e (tE p WX q.2)) values (ks.zip (values.map fun e => (rec_ Γ e).1))
  | [], ks, hl => by
    cases ks with
    | nil => exact .nil
    | cons a b => cases hl
  | e :: es, ks, hl => by
    cases ks with
    | nil => cases hl
    | cons k r => exact .cons (hr Γ X WX e a).1 (disp_vals hr a (Nat.succ.inj hl))
theorem disp_ok (hr : RecOk G p k F rec_) (a : AgE G p k F Γ X WX) (keys : List (Option Expr)) (values : List Expr) (pos : Pos) : PE X (.Dict keys values pos) (tE p WX (dispE Γ rec_ keys values)) := by
  unfold dispE
  split
  · rename_i ks hks
    split
    · rename_i h
      obtain ⟨h, h4⟩ := and_t h
      obtain ⟨h, h3⟩ := and_t h
      obtain ⟨h1, h2⟩ := and_t h
      have h1 := of_decide_eq_true h1
      have h2 := of_decide_eq_true h2
      have h3 := of_decide_eq_true h3
      have hl : ks.length = keys.length := opt_all_len hks
      refine r_disp (disp_keys hks (by rw [List.length_map]; exact h1)) (disp_vals hr a (hl.trans h1)) (fun z => by rw [z] at h2; cases h2) h3 ?_
      rw [List.map_fst_zip (by rw [List.length_map]; omega)]
      exact nodupS_ok h4
    · exact r_bad
  · exact r_bad
theorem stepE_ok (hr : RecOk G p k F rec_) (a : AgE G p k F Γ X WX) (e : Expr) : PE X e (tE p WX (stepE G F rec_ Γ e)) := by
  unfold stepE
  split
  · rename_i c _ _
    split
    · exact r_C pe_int fun W => rel_int
    · exact r_C pe_bl fun W => rel_bl
    · exact r_C pe_non fun W => rel_non
    · exact r_C pe_str fun W => rel_str
    · exact r_bad
  · rename_i x pos
    split
    · exact r_bad
    · rename_i hpn
      have hpn : plainName x = true := by
        cases h : plainName x with
        | true => rfl
        | false => rw [h] at hpn; exact absurd rfl hpn
      obtain ⟨hdb, hcd⟩ := plain_debug hpn
      split
      · rename_i i hi
        obtain ⟨hN, hv⟩ := a.slot hi
        exact r_var hN hv hdb hcd
      · split
        · rename_i hg
          split
          · rename_i d hd
            obtain ⟨u, h1, v, h2, h3, _⟩ := a.wf.consts x d hd
            exact r_C (pe_glob (a.gl hg) h1 h2 hdb) fun W => a.hK ▸ h3 W
          · exact r_bad
        · exact r_bad
  · rename_i x op y pos
    exact r_bin (bin_R a.hK _ op) (hr Γ X WX x a).1 (hr Γ X WX y a).1
  · rename_i x pos
    exact r_m1 (fun h => pe_un un_negR h) (hr Γ X WX x a).1
  · rename_i x pos
    exact r_not a.hK (hr Γ X WX x a).1
  · rename_i l ops es pos
    exact (chain_ok hr a l ops es pos).1
  · rename_i op es pos
    exact boolsE_ok hr a es
  · rename_i c x y pos
    exact r_if (hr Γ X WX c a).2 (hr Γ X WX x a).1 (hr Γ X WX y a).1
  · rename_i es kk pos
    exact r_tup (aList_ok hr a es)
  · rename_i es pos
    exact r_lst (aList_ok hr a es)
  · rename_i x i pos
    split
    · rename_i st _
      split
      · rename_i h
        obtain ⟨j, p1, p2, rfl⟩ := one_is h
        exact r_back a.hK (hr Γ X WX x a).1
      · exact r_bad
    · rename_i lo hi _
      exact r_sl a.hK (hr Γ X WX x a).1 (slOpt_ok hr a lo) (slOpt_ok hr a hi)
    · exact r_bad
    · rename_i hne
      have hns : notSlice i = true := by
        cases i with
        | Slice lo hi st p2 => exact absurd rfl (hne lo hi st p2)
        | _ => rfl
      have hno : NoSl i := fun v w => by
        cases i <;> first | rfl | (cases hns)
      split
      · rename_i kvs hk
        obtain ⟨ad, q1, q2⟩ := kd_of a hk
        exact r_kIx a.hK q1 q2 (hr Γ X WX i a).1 hno
      · split
        · exact r_dIx (by have := a.un; omega) (hr Γ X WX x a).1 (hr Γ X WX i a).1 hno
        · exact r_ix a.hK (hr Γ X WX x a).1 (hr Γ X WX _ a).1 (ix_plain hns)
  · rename_i keys values pos
    exact disp_ok hr a keys values pos
  · rename_i parts pos
    split
    · exact r_bad
    · rename_i x
      exact pe_joined1 (hr Γ X WX x a).1
    · rename_i v1 v2 rest
      exact r_join (pj_ok hr a (v1 :: v2 :: rest))
  · rename_i x c pos
    split
    · rename_i h
      have h : c = -1 := by simpa using h
      subst h
      exact r_fmt (hr Γ X WX x a).1
    · exact r_bad
  · rename_i elt tg iter ifs scope pos
    split
    · rename_i m hm
      exact lc_ok hr a hm
    · exact r_bad
  · rename_i params body scope pos
    split
    · rename_i li hli
      split
      · rename_i h
        obtain ⟨h1, h2⟩ := and_t h
        obtain ⟨lpos, c, P, e, LF⟩ := lamF_of a h1 hli
        cases e
        exact r_lamMk LF fun o ho cells e2 => by
          have := a.hold h2 o ho
          rw [this] at e2
          cases e2
          rfl
      · exact r_bad
    · exact r_bad
  · rename_i f pp args pos
    exact call_ok hr a f pp args pos
  · rename_i o nm apos args pos
    exact meth_ok hr a o nm apos args pos
  · exact r_bad
theorem stepT_ok (hr : RecOk G p k F rec_) (a : AgE G p k F Γ X WX) (e : Expr) : PT X e (tB p WX (stepT G F rec_ Γ e)) := by
  unfold stepT
  split
  · rename_i x pos
    exact r_bNot (hr Γ X WX x a).2
  · rename_i op es pos
    exact (boolsT_ok hr a es).pt
  · rename_i c x y pos
    exact r_bIf (hr Γ X WX c a).2 (hr Γ X WX x a).2 (hr Γ X WX y a).2
  · rename_i l ops es pos
    exact (chain_ok hr a l ops es pos).2
  · rename_i h1 h2 h3 h4
    refine r_T a.hK (stepE_ok hr a e) (test_plain ?_)
    cases e with
    | UnaryOp op x pos => cases op <;> first | rfl | exact absurd rfl (h1 x pos)
    | BoolOp op es pos => exact absurd rfl (h2 op es pos)
    | IfExp c x y pos => exact absurd rfl (h3 c x y pos)
    | Compare l ops es pos => exact absurd rfl (h4 l ops es pos)
    | _ => rfl
theorem semE_ok : ∀ n, RecOk G p k F (semE G F n)
  | 0 => fun Γ X WX e a => ⟨r_bad, pt_bad⟩
  | n + 1 => fun Γ X WX e a => ⟨stepE_ok (semE_ok n) a e, stepT_ok (semE_ok n) a e⟩
end
end Z

set_option Elab.async false
set_option linter.all false
set_option maxRecDepth 100000
set_option maxHeartbeats 1000000
/-! Z28: statements keep what they mean. -/
namespace Z
open PySem PySem.Spec PyProof.Rows L2
/-- a def's own frame too -/
structure AgS (G : Prg) (p : Pl) (k : Nat) (F : Nat → FM) (Γ : Gam) (X : Cx) (WX : L2.WX) : Prop where
  e : AgE G p k F Γ X WX
  kind : X.env.scope.kind = .function
  stk : X.stack = X.env :: X.outer
  frm : X.env.frame = some X.env.locals
  hp : PassesOwn (model X.prog X.w) X.A X.env X.xe
  hpa : Γ.top = true → ∀ hd : Option Value, PassesOwnAt (model X.prog X.w) (X.A.mark hd) X.A X.env X.xe
theorem not_t {b : Bool} (h : ¬ b = true) : b = false := by
  cases b
  · rfl
  · exact absurd rfl h
theorem nf {b : Bool} (h : ¬ (!b) = true) : b = true := by
  cases b
  · exact absurd rfl h
  · rfl
theorem any_star : ∀ vs : List Expr, (vs.any fun | .Starred .. => true | _ => false) = !vs.all notStar
  | [] => rfl
  | a :: r => by
    rw [List.any_cons, List.all_cons, any_star r, Bool.not_and]
    congr 1
    cases a <;> rfl
theorem swapped_ok {Γ : Gam} {env : PySem.Env} {ts vs : List Expr} {k k2 : Nat} {p1 p2 : Pos} {r : Option (List Str)} (hk : env.scope.kind = .function) (hs : env.scope = Γ.sc) (h : swaps Γ ts vs = some r) : swappedStores [.Tuple ts k p1] (.Tuple vs k2 p2) env = pure r := by
  have hb : env.blockKind = .function := by unfold PySem.Env.blockKind; rw [hk]; rfl
  have hko : ∀ x, env.kindOf x = Γ.sc.names.lookup x := fun x => by rw [← hs]; rfl
  unfold swaps at h
  unfold swappedStores
  have hb2 : (env.blockKind != .function) = false := by rw [hb]; rfl
  simp only [hb2, Bool.or_false, hko]
  have hstar := any_star vs
  split at h
  · rename_i h1
    cases h
    rw [if_pos h1]
  · rename_i h1
    rw [if_neg h1]
    split at h
    · cases h
    · rename_i h2
      refine Eq.trans (if_neg fun z => h2 (hstar.symm.trans z)) ?_
      split at h
      · rename_i h3
        cases h
        exact if_pos h3
      · rename_i h3
        refine Eq.trans (if_neg h3) ?_
        split at h
        · rename_i h4
          cases h
          exact if_pos h4
        · rename_i h4
          refine Eq.trans (if_neg h4) ?_
          split at h
          · cases h
          · rename_i h5
            cases h
            exact if_neg h5
theorem swapped_none {tg e : Expr} {env : PySem.Env} (h : stepS.notTupV tg e = true) (h2 : ∀ ts k p1 vs k2 p2, tg = .Tuple ts k p1 → e = .Tuple vs k2 p2 → False) : swappedStores [tg] e env = pure none := by
  unfold swappedStores
  cases tg with
  | Tuple ts k p1 =>
    cases e with
    | Tuple vs k2 p2 => exact (h2 _ _ _ _ _ _ rfl rfl).elim
    | _ => rfl
  | List ts p1 => cases e <;> cases h
  | _ => cases e <;> rfl
section
variable {G : Prg} {p : Pl} {k : Nat} {F : Nat → FM} {Γ : Gam} {X : Cx} {WX : L2.WX} {E : Rec} {recS : Gam → Stmt → MS} {recSs : Gam → List Stmt → MS}
abbrev SOk (G : Prg) (p : Pl) (k : Nat) (F : Nat → FM) (recS : Gam → Stmt → MS) : Prop := ∀ (Γ : Gam) (X : Cx) (WX : L2.WX) (st : Stmt), AgS G p k F Γ X WX → PS X st (tS p WX (recS Γ st))
abbrev SsOk (G : Prg) (p : Pl) (k : Nat) (F : Nat → FM) (recSs : Gam → List Stmt → MS) : Prop := ∀ (Γ : Gam) (X : Cx) (WX : L2.WX) (l : List Stmt), AgS G p k F Γ X WX → PSs X l (tS p WX (recSs Γ l))
theorem s_bad {st : Stmt} : PS X st (tS p WX sBad) := ⟨fun _ _ _ _ _ _ ⟨_, _, _, _, _, q⟩ => q.elim⟩
theorem suites_ok (h : SOk G p k F recS) : SsOk G p k F (stepSs recS) := fun Γ X WX l a => by
  induction l with
  | nil => exact r_snil
  | cons st r ih => exact r_seq (h Γ X WX st a) ih
theorem targ_ok (he : RecOk G p k F E) (a : AgE G p k F Γ X WX) (hc : Γ.calm = true) {tg : Expr} {t : Tg} (h : targ G E Γ tg = some t) : PG X tg (gT p t) := by
  unfold targ at h
  split at h
  · rename_i o i pos
    split at h
    · rename_i hs
      cases h
      refine r_tSub (he Γ X WX o a).1 (he Γ X WX i a).1 fun v => ?_
      cases i <;> first | rfl | (cases hs)
    · cases h
  · exact tg_ok a hc 4 _ _ h
theorem asgO_ok (he : RecOk G p k F E) (a : AgE G p k F Γ X WX) (hc : Γ.calm = true) {tg e : Expr} {pos : Pos} (hn : notStar tg = true) (hs : notComp e = true) (hw : swappedStores [tg] e X.env = pure none) : PS X (.Assign [tg] e pos) (tS p WX (sAsgO (targ G E Γ tg) (E Γ e).1)) := by
  unfold sAsgO
  split
  · rename_i t ht
    exact r_asg (he Γ X WX e a).1 (targ_ok he a hc ht) (swapSole_not hs) hw (asg_map hn)
  · exact s_bad
/-- no exception comes of it -/
def NoEx (m : MS) : Prop := ∀ e s c e' s', m e s ≠ .ex c e' s'
def QuietE (E : Rec) : Prop := ∀ Γ c kk pos e s x s', (E Γ (.Constant c kk pos)).1 e s ≠ .exc x s'
def QuietS (recS : Gam → Stmt → MS) : Prop := ∀ Γ st, Γ.calm = false → quietS st = true → NoEx (recS Γ st)
theorem quiet_Ss (h : QuietS recS) : ∀ l, Γ.calm = false → l.all quietS = true → NoEx (stepSs recS Γ l)
  | [], _, _ => fun e s c e' s' z => by cases z
  | st :: r, hc, hq => fun e s c e' s' z => by
    rw [List.all_cons, Bool.and_eq_true] at hq
    have z : sSeq (recS Γ st) (stepSs recS Γ r) e s = .ex c e' s' := z
    unfold sSeq at z
    cases h1 : recS Γ st e s with
    | nx e1 s1 => rw [h1] at z; exact quiet_Ss h r hc hq.2 _ _ _ _ _ z
    | ex c1 e1 s1 => exact h Γ st hc hq.1 _ _ _ _ _ h1
    | rt d s1 => rw [h1] at z; cases z
    | bk e1 s1 => rw [h1] at z; cases z
    | ct e1 s1 => rw [h1] at z; cases z
    | bad => rw [h1] at z; cases z
end
end Z

set_option Elab.async false
set_option linter.all false
set_option maxRecDepth 100000
set_option maxHeartbeats 1000000
/-! Z29: statements keep what they mean (all). -/
namespace Z
open PySem PySem.Spec PyProof.Rows L2
section
variable {G : Prg} {p : Pl} {k : Nat} {F : Nat → FM} {Γ : Gam} {X : Cx} {WX : L2.WX} {E : Rec} {recS : Gam → Stmt → MS} {recSs : Gam → List Stmt → MS}
abbrev LcSetOk (G : Prg) (p : Pl) (k : Nat) (F : Nat → FM) (E : Rec) : Prop := ∀ (Γ : Gam) (X : Cx) (WX : L2.WX) (x : Str) (i : Nat) (py spos lpos : Pos) (elt tg iter : Expr) (ifs : List Expr) (scope : Scope), AgE G p k F Γ X WX → X.N[i]? = some x → X.env.scope.names.lookup x = some .local →
  swapsWith (.ListComp elt [⟨tg, iter, ifs, 0⟩] scope lpos) (some (.Name x py)) spos.line X.env = pure true → PS X (.Assign [.Name x py] (.ListComp elt [⟨tg, iter, ifs, 0⟩] scope lpos) spos) (tS p WX (sAsg (tName i) (E Γ (.ListComp elt [⟨tg, iter, ifs, 0⟩] scope lpos)).1))
theorem semE_lc : ∀ n, LcSetOk G p k F (semE G F n)
  | 0 => fun Γ X WX x i py spos lpos elt tg iter ifs scope a h1 h2 h3 => ⟨fun _ _ _ _ _ _ ⟨_, _, _, _, _, q⟩ => q.elim⟩
  | n + 1 => fun Γ X WX x i py spos lpos elt tg iter ifs scope a h1 h2 h3 => by
    show PS X _ (tS p WX (sAsg (tName i) (match compOf G (semE G F n) Γ (blkG Γ scope) scope (blkC Γ.N Γ.sc scope (ownOf Γ.N scope) && notSet iter) elt tg iter ifs with
      | some m => mLc (G.fresh lpos) m.vs m.t m.w m.c m.el
      | none => mBad)))
    split
    · rename_i m hm
      exact setLc_ok (semE_ok n) a h1 h2 h3 hm
    · exact ⟨fun _ _ _ _ _ _ ⟨_, _, _, _, _, q⟩ => q.elim⟩
theorem raise_of {G : Prg} {Γ : Gam} {ex : Option Expr} {c : Nat} (h : raiseX G Γ ex = some c) : ∃ x m j p1 p2 p3, ex = some (.Call (.Name x p1) [.Constant (.str m) j p2] [] p3) ∧ glob Γ x = true ∧ plainName x = true ∧ ixOf x G.excs = some c := by
  unfold raiseX at h
  split at h
  · split at h
    · rename_i h1
      obtain ⟨h1, h2⟩ := and_t h1
      exact ⟨_, _, _, _, _, _, rfl, h1, h2, h⟩
    · cases h
  · cases h
theorem ixOf_lt {x : Str} : ∀ {l : List Str} {i : Nat}, ixOf x l = some i → i < l.length := fun h => by
  have := ixOf_get h
  exact (List.getElem?_eq_some_iff.mp this).1
theorem stepS_ok (he : RecOk G p k F E) (hl : LcSetOk G p k F E) (hS : SOk G p k F recS) (hQ : QuietS recS) (a : AgS G p k F Γ X WX) (st : Stmt) : PS X st (tS p WX (stepS G E recS (stepSs recS) Γ st)) := by
  have hSs : SsOk G p k F (stepSs recS) := suites_ok hS
  unfold stepS
  split
  · exact r_pass
  · exact r_break
  · exact r_cont
  · exact r_retN
  · rename_i e _
    exact r_ret (he Γ X WX e a.e).1
  · rename_i e pos
    split
    · rename_i h
      exact r_expr (he Γ X WX e a.e).1 (swap_not h)
    · exact s_bad
  · rename_i c b1 b2 pos
    exact r_ifS (he Γ X WX c a.e).2 (hSs Γ X WX b1 a) (hSs Γ X WX b2 a)
  · rename_i tg e pos
    split
    · rename_i x px elt ctg iter ifs scope lpos
      split
      · rename_i i hi
        split
        · rename_i h
          simp only [Bool.and_eq_true, beq_iff_eq, Bool.not_eq_true', decide_eq_true_eq] at h
          obtain ⟨⟨⟨⟨⟨⟨h1, h2⟩, h3⟩, h4⟩, h5⟩, h6⟩, h7⟩ := h
          obtain ⟨q1, q2, q3⟩ := a.e.slotW hi
          have hx : X.env.scope.names.lookup x = some .local := by rw [a.e.sc]; exact h3
          exact hl Γ X WX x i px pos lpos elt ctg iter ifs scope a.e q1 hx (sw_true a.kind hx (beq_iff_eq.mpr h4) h7)
        · exact s_bad
      · exact s_bad
    · rename_i ts kt pt vs kv pv
      split
      · exact s_bad
      · rename_i hst
        have hst : ts.all notStar = true := nf hst
        split
        · rename_i hsw
          split
          · rename_i hc
            exact asgO_ok he a.e hc rfl rfl (swapped_ok a.kind a.e.sc hsw)
          · exact s_bad
        · rename_i names hsw
          have hsw' := swapped_ok (k := kt) (k2 := kv) (p1 := pt) (p2 := pv) a.kind a.e.sc hsw
          have hn : names = swN Γ ts := by
            unfold swaps at hsw
            split at hsw
            · cases hsw
            · split at hsw
              · cases hsw
              · split at hsw
                · cases hsw
                · split at hsw
                  · cases hsw
                  · split at hsw
                    · cases hsw
                    · cases hsw; rfl
          have hlen : names.length = ts.length := by
            rw [hn]
            unfold swaps at hsw
            split at hsw
            · cases hsw
            · split at hsw
              · cases hsw
              · split at hsw
                · cases hsw
                · rename_i h3
                  have h3 := not_t h3
                  rw [Bool.or_eq_false_iff] at h3
                  simpa using h3.1
          have hall : ∀ (y : Str) (py : Pos), (Expr.Name y py) ∈ ts → Γ.sc.names.lookup y = some .local := by
            intro y py hy
            have key : ∀ {f : Expr → Option Str} {l : List Expr}, (l.filterMap f).length = l.length → ∀ e ∈ l, ∃ z, f e = some z := by
              intro f l
              induction l with
              | nil => intro _ e he; cases he
              | cons a r ih =>
                intro hl e he
                rw [List.filterMap_cons] at hl
                cases hfa : f a with
                | none =>
                  rw [hfa] at hl
                  have := List.length_filterMap_le f r
                  rw [List.length_cons] at hl
                  exfalso
                  have hl' : (r.filterMap f).length = r.length + 1 := hl
                  omega
                | some z =>
                  rw [hfa] at hl
                  have hl' : (z :: r.filterMap f).length = (a :: r).length := hl
                  rw [List.length_cons, List.length_cons] at hl'
                  rcases List.mem_cons.mp he with e1 | e1
                  · rw [e1]; exact ⟨z, hfa⟩
                  · exact ih (by omega) e e1
            rw [hn] at hlen
            unfold swN at hlen
            obtain ⟨z, hz⟩ := key hlen _ hy
            have hz : (if Γ.sc.names.lookup y == some .local && py.line == (ts.head?.map (·.pos.line)).getD 0 then some y else none) = some z := hz
            split at hz
            · rename_i hc
              exact beq_iff_eq.mp (and_t hc).1
            · cases hz
          have hnames : ∀ (l : List Expr), (∀ e ∈ l, ∃ y py, e = Expr.Name y py) → ts = l → names = l.filterMap (fun | .Name y _ => some y | _ => none) := by
            intro l hl e
            rw [hn]
            unfold swN
            rw [e]
            have hall' : ∀ (y : Str) (py : Pos), (Expr.Name y py) ∈ l → (Γ.sc.names.lookup y == some NameKind.local && py.line == (l.head?.map (·.pos.line)).getD 0) = true := by
              intro y py hy
              have hlen2 : (swN Γ l).length = l.length := by rw [← e, ← hn]; exact hlen
              have key : ∀ {f : Expr → Option Str} {l : List Expr}, (l.filterMap f).length = l.length → ∀ e ∈ l, ∃ z, f e = some z := by
                intro f l
                induction l with
                | nil => intro _ e he; cases he
                | cons a r ih =>
                  intro hl e he
                  rw [List.filterMap_cons] at hl
                  cases hfa : f a with
                  | none =>
                    rw [hfa] at hl
                    have := List.length_filterMap_le f r
                    rw [List.length_cons] at hl
                    exfalso
                    have hl' : (r.filterMap f).length = r.length + 1 := hl
                    omega
                  | some z =>
                    rw [hfa] at hl
                    have hl' : (z :: r.filterMap f).length = (a :: r).length := hl
                    rw [List.length_cons, List.length_cons] at hl'
                    rcases List.mem_cons.mp he with e1 | e1
                    · rw [e1]; exact ⟨z, hfa⟩
                    · exact ih (by omega) e e1
              unfold swN at hlen2
              obtain ⟨z, hz⟩ := key hlen2 _ hy
              have hz : (if Γ.sc.names.lookup y == some .local && py.line == (l.head?.map (·.pos.line)).getD 0 then some y else none) = some z := hz
              split at hz
              · rename_i hc; exact hc
              · cases hz
            have gen : ∀ (f g : Expr → Option Str) (m : List Expr), (∀ e ∈ m, f e = g e) → m.filterMap f = m.filterMap g := by
              intro f g m
              induction m with
              | nil => intro _; rfl
              | cons a r ih =>
                intro h
                rw [List.filterMap_cons, List.filterMap_cons, h a (List.mem_cons_self ..), ih fun e he => h e (List.mem_cons_of_mem _ he)]
            refine gen _ _ l fun e he => ?_
            obtain ⟨y, py, rfl⟩ := hl e he
            exact if_pos (hall' y py he)
          split
          · rename_i x1 p1 x2 p2 v1 v2 i j hij _
            split
            · rename_i h
              simp only [Bool.and_eq_true, bne_iff_ne, ne_eq] at h
              obtain ⟨⟨h1, h2⟩, h3⟩ := h
              have e := hnames [.Name x1 p1, .Name x2 p2] (fun e he => by
                rcases List.mem_cons.mp he with e1 | e1
                · exact ⟨_, _, e1⟩
                · exact ⟨_, _, List.mem_singleton.mp e1⟩) rfl
              have e : names = [x1, x2] := e
              subst e
              unfold optAll at hij
              unfold optAll at hij
              unfold optAll at hij
              cases hi : ixOf x1 Γ.N with
              | none => rw [hi] at hij; cases hij
              | some i' =>
                cases hj : ixOf x2 Γ.N with
                | none => rw [hi, hj] at hij; cases hij
                | some j' =>
                  rw [hi, hj] at hij
                  cases hij
                  refine r_par2 (a.e.calm.trans h1) a.e.ndX (by rw [a.e.N]; exact ixOf_get hi) (by rw [a.e.N]; exact ixOf_get hj) h3 (by rw [a.e.sc]; exact hall x1 p1 (List.mem_cons_self ..)) (by rw [a.e.sc]; exact hall x2 p2 (List.mem_cons_of_mem _ (List.mem_cons_self ..))) (aList_ok he a.e _) hsw' rfl
            · exact s_bad
          · rename_i x1 p1 x2 p2 x3 p3 v1 v2 v3 i j l hij _
            split
            · rename_i h
              simp only [Bool.and_eq_true, bne_iff_ne, ne_eq] at h
              obtain ⟨⟨⟨⟨h1, h2⟩, h3⟩, h4⟩, h5⟩ := h
              have e := hnames [.Name x1 p1, .Name x2 p2, .Name x3 p3] (fun e he => by
                rcases List.mem_cons.mp he with e1 | e1
                · exact ⟨_, _, e1⟩
                · rcases List.mem_cons.mp e1 with e1 | e1
                  · exact ⟨_, _, e1⟩
                  · exact ⟨_, _, List.mem_singleton.mp e1⟩) rfl
              have e : names = [x1, x2, x3] := e
              subst e
              unfold optAll at hij
              unfold optAll at hij
              unfold optAll at hij
              unfold optAll at hij
              cases hi : ixOf x1 Γ.N with
              | none => rw [hi] at hij; cases hij
              | some i' =>
                cases hj : ixOf x2 Γ.N with
                | none => rw [hi, hj] at hij; cases hij
                | some j' =>
                  cases hl : ixOf x3 Γ.N with
                  | none => rw [hi, hj, hl] at hij; cases hij
                  | some l' =>
                    rw [hi, hj, hl] at hij
                    cases hij
                    refine r_par3 (a.e.calm.trans h1) a.e.ndX (by rw [a.e.N]; exact ixOf_get hi) (by rw [a.e.N]; exact ixOf_get hj) (by rw [a.e.N]; exact ixOf_get hl) h3 h4 h5 (by rw [a.e.sc]; exact hall x1 p1 (List.mem_cons_self ..)) (by rw [a.e.sc]; exact hall x2 p2 (List.mem_cons_of_mem _ (List.mem_cons_self ..)))
                      (by rw [a.e.sc]; exact hall x3 p3 (List.mem_cons_of_mem _ (List.mem_cons_of_mem _ (List.mem_cons_self ..)))) (aList_ok he a.e _) hsw' rfl
            · exact s_bad
          · exact s_bad
        · exact s_bad
    · rename_i hn1 hn2
      split
      · rename_i h
        obtain ⟨h, h4⟩ := and_t h
        obtain ⟨h, h3⟩ := and_t h
        obtain ⟨h1, h2⟩ := and_t h
        exact asgO_ok he a.e h2 h3 h1 (swapped_none h4 fun ts k1 p1 vs k2 p2 e1 e2 => hn2 ts k1 p1 vs k2 p2 e1 e2)
      · exact s_bad
  · rename_i x px op e pos
    split
    · rename_i i hi
      split
      · rename_i h
        obtain ⟨q1, q2, q3⟩ := a.e.slotW hi
        exact r_aug a.e.hK a.e.ndX q1 q2 (he Γ X WX e a.e).1 q3
      · exact s_bad
    · exact s_bad
  · rename_i tg it body pos
    split
    · rename_i t ht
      split
      · rename_i h
        obtain ⟨h, h3⟩ := and_t h
        obtain ⟨h1, h2⟩ := and_t h
        exact r_for a.hp (a.e.calm.trans h1) (stepW_ok he a.e tg it) (tg_ok a.e h1 4 tg t ht) (hSs Γ X WX body a) (fold_set h3)
      · exact s_bad
    · exact s_bad
  · rename_i c body pos
    split
    · exact r_while a.hp (he Γ X WX c a.e).2 (hSs Γ X WX body a)
    · exact s_bad
  · rename_i ex pos
    split
    · rename_i c hc
      split
      · rename_i h
        obtain ⟨x, m, j, p1, p2, p3, rfl, h1, h2, h3⟩ := raise_of hc
        obtain ⟨g1, g2, g3, g4, g5⟩ := a.e.wf.excs x c h3
        exact r_raise (a.e.calm.trans h) a.e.tk PySem.F.excBase_ValueError g3 g1 g2 (raises_own g4 g5) (a.e.gl h1) (plain_debug h2).1
      · exact s_bad
    · exact s_bad
  · rename_i body x xp suite p1 pos
    split
    · rename_i j hj
      split
      · rename_i h
        obtain ⟨h, h4⟩ := and_t h
        obtain ⟨h, h3⟩ := and_t h
        obtain ⟨h1, h2⟩ := and_t h
        obtain ⟨g1, g2, g3, g4, g5⟩ := a.e.wf.excs x j hj
        have hc : ∀ i b, catchOf G j i = some b → PySem.W.exmOne X.K (.ref (p.xa i)) (.ref (p.xa j)) = some b := catch_ok a.e (ixOf_lt hj)
        have hbody : ∀ (W : L2.WX) (pn : List (Addr × Obj)) (xe : Value → Shared → Prop), TakesM (X.tr pn xe) W → PassesOwn (model X.prog X.w) X.A X.env xe → PSs (X.tr pn xe) body (tS p W (stepSs recS (inTry Γ) body)) :=
          fun W pn xe tk po => hSs (inTry Γ) _ W body ⟨a.e.tr tk, a.kind, a.stk, a.frm, po, fun z => by cases z⟩
        split
        · rename_i y yp m jm mp rp2 jn np rp3
          split
          · rename_i yi hyi
            split
            · rename_i h
              obtain ⟨h, q3⟩ := and_t h
              obtain ⟨q1, q2⟩ := and_t h
              obtain ⟨f1, f2, f3, f4, f5⟩ := a.e.wf.excs y yi hyi
              exact r_tryX (c := .ref (p.xa j)) a.stk a.frm ⟨a.e.gl h1, (plain_debug h2).1, .inl g1⟩ a.e.tk (a.hpa q3) hc hbody PySem.F.excBase_ValueError f3 f1 f2 (raises_own f4 f5) (a.e.gl q1) (plain_debug q2).1
            · exact s_bad
          · exact s_bad
        · rename_i b₀ rest _
          split
          · rename_i h5
            exact r_try (c := .ref (p.xa j)) a.stk a.frm ⟨a.e.gl h1, (plain_debug h2).1, .inl g1⟩ a.e.tk hc hbody (fun b pn => hSs (coldS Γ) _ _ (b₀ :: rest) ⟨a.e.suite, a.kind, a.stk, a.frm, PassesOwn.never, fun z => by cases z⟩) (quiet_Ss hQ _ rfl h5)
          · exact s_bad
        · exact s_bad
      · exact s_bad
    · exact s_bad
  · exact s_bad
end
end Z

set_option Elab.async false
set_option linter.all false
set_option maxRecDepth 100000
set_option maxHeartbeats 1000000
/-! Z30: bodies, defs, lambdas, levels. -/
namespace Z
open PySem PySem.Spec PyProof.Rows L2
section
variable {G : Prg} {p : Pl} {k : Nat} {F : Nat → FM} {Γ : Gam} {X : Cx} {WX : L2.WX} {E : Rec} {recS : Gam → Stmt → MS} {recSs : Gam → List Stmt → MS}
theorem semE_quiet : ∀ n, QuietE (semE G F n)
  | 0 => fun Γ c kk pos e s x s' z => by cases z
  | n + 1 => fun Γ c kk pos e s x s' z => by
    have z : (stepE G F (semE G F n) Γ (.Constant c kk pos)) e s = .exc x s' := z
    cases c <;> cases z
theorem semS_quiet (hE : QuietE E) : ∀ n, QuietS (semS G E n)
  | 0 => fun Γ st hc hq e s c e' s' z => by cases z
  | n + 1 => fun Γ st hc hq e s c e' s' z => by
    have z : stepS G E (semS G E n) (stepSs (semS G E n)) Γ st e s = .ex c e' s' := z
    unfold quietS at hq
    split at hq
    · rename_i cc kk pos pos2 _
      have z : sRet (E Γ (.Constant cc kk pos)).1 e s = .ex c e' s' := z
      unfold sRet R.out at z
      cases h : (E Γ (.Constant cc kk pos)).1 e s with
      | ok d s1 => rw [h] at z; cases z
      | exc c1 s1 => exact hE _ _ _ _ _ _ _ _ h
      | bad => rw [h] at z; cases z
    · cases z
    · cases z
    · cases z
    · cases z
    · rename_i x px cc kk pos pos2 _
      have z : (if notComp (.Constant cc kk pos) && Γ.calm && notStar (.Name x px) && stepS.notTupV (.Name x px) (.Constant cc kk pos) then sAsgO (targ G E Γ (.Name x px)) (E Γ (.Constant cc kk pos)).1 else sBad) e s = .ex c e' s' := z
      rw [hc] at z
      rw [if_neg (by rw [Bool.and_false]; simp)] at z
      cases z
    · cases hq
theorem semS_ok (hE : RecOk G p k F E) (hl : LcSetOk G p k F E) (hq : QuietE E) : ∀ n, SOk G p k F (semS G E n)
  | 0 => fun Γ X WX st a => s_bad
  | n + 1 => fun Γ X WX st a => stepS_ok hE hl (semS_ok hE hl hq n) (semS_quiet hq n) a st
end
theorem defIx_get {x : Str} : ∀ {l : List DefI} {i : Nat} {d : DefI}, defIx x l = some (i, d) → l[i]? = some d ∧ x = d.name
  | [], i, d, h => by cases h
  | y :: r, i, d, h => by
    unfold defIx at h
    split at h
    · rename_i e
      cases h
      exact ⟨rfl, seq_iff.mp e⟩
    · cases h2 : defIx x r with
      | none => rw [h2] at h; cases h
      | some q =>
        obtain ⟨j, d2⟩ := q
        rw [h2] at h
        cases h
        obtain ⟨q1, q2⟩ := defIx_get h2
        exact ⟨by rw [List.getElem?_cons_succ]; exact q1, q2⟩
theorem look_mem {α : Type} {x : Str} : ∀ {l : List (Str × α)} {d : α}, look x l = some d → (x, d) ∈ l
  | [], d, h => by cases h
  | (y, a) :: r, d, h => by
    unfold look at h
    split at h
    · rename_i e
      cases h
      rw [seq_iff.mp e]
      exact List.mem_cons_self ..
    · exact List.mem_cons_of_mem _ (look_mem h)
/-- a def of the module, its code -/
structure DefFact (K : PySem.W.Frag) (mg : Str → Option Value) (base : Heap) (p : Pl) (d : DefI) (fa : Addr) (fd : FuncData) : Prop where
  at_ : mg d.name = some (.ref fa)
  keep : PySem.W.keepIn K (.ref fa) = true
  bind : Binds K fd d.ps []
  fun_ : FunD K d.name d.name d.params d.body d.scope [] [] fa fd
  sc : FnScope d.N d.ps d.scope
  hdp : d.hold = true → d.dp = true
  gx : d.gx = true → ∃ c P, GxR.TabB base mg c P ∧ fd.code = .ref c ∧ P ∈ p.tg ∧ ∀ q ∈ p.tl, q.1 ≠ P
  lm : d.lm = true → ∃ c P, LamX.TabB base mg c P ∧ fd.code = .ref c ∧ (P, d.name ++ ".<locals>." ++ "<lambda>") ∈ p.tl ∧ (∀ q ∈ p.tl, q.1 = P → q.2 = d.name ++ ".<locals>." ++ "<lambda>") ∧ ∀ b ∈ p.tg, b ≠ P
/-- the form of a def that tries what it gets: its parameter, the class, the answer -/
def toldOf : List Stmt → Option (Str × Str × Str)
  | [.Try [.Return (some (.Call (.Name a _) [] [] _)) _] [.ExceptHandler (some (.Name e _)) none [.Return (some (.Constant (.str ret) _ _)) _] _] [] [] _] => some (a, e, ret)
  | _ => none
def isLoc : Option NameKind → Bool
  | some .local => true
  | some .cell => true
  | _ => false
def isGlo : Option NameKind → Bool
  | some .globalImplicit => true
  | _ => false
def toldB (G : Prg) (q : Str × Nat × Str) : Bool := match defIx q.1 G.defs with
  | some (_, d) => (match toldOf d.body, d.ps, d.N with
    | some (a, e, ret), [a'], n :: _ => seq a a' && seq a n && isLoc (look a d.scope.names) && plainName a && isGlo (look e d.scope.names) && plainName e && decide (ixOf e G.excs = some q.2.1) && seq ret q.2.2
    | _, _, _ => false)
  | none => false
structure ExcFact (K : PySem.W.Frag) (mg : Str → Option Value) (x : Str) (a : Addr) : Prop where
  at_ : mg x = some (.ref a)
  keep : PySem.W.keepIn K (.ref a) = true
  exc : PySem.W.excIn K a bmV "ValueError.__new__" = true
  sub : PySem.W.subIn K (.ref a) (.type "BaseException") = some true
  ty : PySem.W.typeIn K (.ref a) = some (.type "type")
/-- all of a program, as facts of the module -/
structure Facts (G : Prg) (p : Pl) (K : PySem.W.Frag) (w : World) (mg : Str → Option Value) (base : Heap) : Prop where
  hK : p.K = K
  consts : ∀ q ∈ G.consts, ∃ u, mg q.1 = some u ∧ Wr K q.2 u
  dicts : ∀ q ∈ G.dicts, ∃ a, mg q.1 = some (.ref a) ∧ KdR K w a q.2
  tolds : ∀ q ∈ G.tolds, toldB G q = true
  blt : ∀ x ∈ bltNames, mg x = none
  defs : ∀ d ∈ G.defs, ∃ fa fd, DefFact K mg base p d fa fd
  excs : ∀ (i : Nat) (x : Str), G.excs[i]? = some x → ExcFact K mg x (p.xa i)
  sub : ∀ i j b, i < G.excs.length → j < G.excs.length → G.sub i j = some b → PySem.W.exmOne K (.ref (p.xa i)) (.ref (p.xa j)) = some b
section
variable {G : Prg} {p : Pl} {P : Program} {w : World} {K : PySem.W.Frag} {mg : Str → Option Value} {base : Heap}
theorem told_of (f : Facts G p K w mg base) {x : Str} {j : Nat} {ret : Str} (h : look x G.tolds = some (j, ret)) : j < G.excs.length ∧ ∃ g, mg x = some (.ref g) ∧ PySem.W.keepIn K (.ref g) = true ∧ ToldK K mg g (p.xa j) ret := by
  have hb := f.tolds (x, j, ret) (look_mem h)
  unfold toldB at hb
  split at hb
  · rename_i i d hd
    obtain ⟨h1, hx⟩ := defIx_get hd
    have hx : x = d.name := hx
    obtain ⟨fa, fd, df⟩ := f.defs d (List.mem_of_getElem? h1)
    split at hb
    · rename_i a e ret' a' n N' hbody hps hN
      obtain ⟨hb, q8⟩ := and_t hb
      obtain ⟨hb, q7⟩ := and_t hb
      obtain ⟨hb, q6⟩ := and_t hb
      obtain ⟨hb, q5⟩ := and_t hb
      obtain ⟨hb, q4⟩ := and_t hb
      obtain ⟨hb, q3⟩ := and_t hb
      obtain ⟨q1, q2⟩ := and_t hb
      have q1 := seq_iff.mp q1
      have q2 := seq_iff.mp q2
      have q7 := of_decide_eq_true q7
      have q8 := seq_iff.mp q8
      subst q1 q2
      have q8 : ret' = ret := q8
      subst q8
      unfold toldOf at hbody
      split at hbody
      · rename_i a1 p1 p2 p3 e1 p4 ret1 jj p5 p6 p7 p8 hbd
        cases hbody
        have F := df.fun_
        rw [hbd] at F
        have q7 : ixOf e G.excs = some j := q7
        refine ⟨ixOf_lt q7, fa, by rw [show x = d.name from hx]; exact df.at_, df.keep, d.name, a, e, d.N, d.scope, d.params, fd, jj, p1, p2, p3, p4, p5, p6, p7, p8, F, by rw [← hps]; exact df.sc, by rw [← hps]; exact df.bind, by rw [hN]; rfl, ?_, (plain_debug q4).1, (plain_debug q4).2, ?_, (f.excs j e (ixOf_get q7)).at_, (plain_debug q6).1⟩
        · rw [look_lookup] at q3
          unfold isLoc at q3
          split at q3
          · rename_i z; exact .inl z
          · rename_i z; exact .inr (.inl z)
          · cases q3
        · rw [look_lookup] at q5
          unfold isGlo at q5
          split at q5
          · rename_i z; exact z
          · cases q5
      · cases hbody
    · cases hb
  · cases hb
theorem Facts.wf (f : Facts G p K w mg base) {k : Nat} {F : Nat → FM} (h : ∀ i d fa fd, G.defs[i]? = some d → DefFact K mg base p d fa fd → FnOk P w K mg base (CXM P w) (8 * k) fa fd d.ps (spOf p d.ps.length d.dp (F i))) : WF G p P w K mg base k F where
  hK := f.hK
  consts := fun x d h => f.consts (x, d) (look_mem h)
  dicts := fun x d h => f.dicts (x, d) (look_mem h)
  tolds := fun x j ret h => told_of f h
  blt := f.blt
  defs := fun x i d hd => by
    obtain ⟨h1, rfl⟩ := defIx_get hd
    obtain ⟨fa, fd, df⟩ := f.defs d (List.mem_of_getElem? h1)
    exact ⟨fa, fd, df.at_, df.keep, df.bind, h i d fa fd h1 df⟩
  excs := fun x i h => by
    have e := f.excs i x (ixOf_get h)
    exact ⟨e.at_, e.keep, e.exc, e.sub, e.ty⟩
  sub := f.sub
/-! ### whose lambdas: another wish of the frame -/
abbrev Pl.wlf (p : Pl) (c : Option (List (Str × Addr)) → Prop) : Pl := { p with lfc := c }
theorem Rep.wl {c : Option (List (Str × Addr)) → Prop} {W : Wd} {s : Sto} {H : Hp} (r : Rep p W s H) : Rep (p.wlf c) W s H := ⟨⟨r.tab.tl, r.tab.tg⟩, r.fz, r.nt, r.len, r.nd, r.tr, fun n ob a e1 e2 => by
  have q := r.obs n ob a e1 e2
  cases ob <;> exact q⟩
theorem Rep.lw {c : Option (List (Str × Addr)) → Prop} {W : Wd} {s : Sto} {H : Hp} (r : Rep (p.wlf c) W s H) : Rep p W s H := ⟨⟨r.tab.tl, r.tab.tg⟩, r.fz, r.nt, r.len, r.nd, r.tr, fun n ob a e1 e2 => by
  have q := r.obs n ob a e1 e2
  cases ob <;> exact q⟩
theorem Post.wl {α β : Type} {c : Option (List (Str × Addr)) → Prop} {Rl : Wd → α → β → Prop} {W : Wd} {H : Hp} {EX : Nat → Hp → Prop} {Q : β → Hp → Prop} {r : R α} (q : Post p Rl W H EX Q r) : Post (p.wlf c) Rl W H EX Q r := by
  cases r with
  | ok d s => exact fun W' H' v l fr rp rv => q W' H' v l fr rp.lw rv
  | exc x s => exact fun W' H' l fr rp => q W' H' l fr rp.lw
  | bad => exact q
theorem Post.lw {α β : Type} {c : Option (List (Str × Addr)) → Prop} {Rl : Wd → α → β → Prop} {W : Wd} {H : Hp} {EX : Nat → Hp → Prop} {Q : β → Hp → Prop} {r : R α} (q : Post (p.wlf c) Rl W H EX Q r) : Post p Rl W H EX Q r := by
  cases r with
  | ok d s => exact fun W' H' v l fr rp rv => q W' H' v l fr rp.wl rv
  | exc x s => exact fun W' H' l fr rp => q W' H' l fr rp.wl
  | bad => exact q
theorem spOf_lw {c : Option (List (Str × Addr)) → Prop} {n : Nat} {dp : Bool} {f : FM} {vs : List V} {H : Hp} {Q : VK} {E : XK} (h : spOf (p.wlf c) n dp f vs H Q E) : spOf p n dp f vs H Q E := by
  obtain ⟨hl, W, ds, s, hdp, rp, rv, q⟩ := h
  exact ⟨hl, W, ds, s, hdp, rp.lw, rv, Post.lw (c := c) q⟩
theorem WF.wl {c : Option (List (Str × Addr)) → Prop} {k : Nat} {F : Nat → FM} (f : WF G p P w K mg base k F) : WF G (p.wlf c) P w K mg base k F where
  hK := f.hK
  consts := f.consts
  dicts := f.dicts
  tolds := f.tolds
  blt := f.blt
  defs := fun x i d hd => by
    obtain ⟨fa, fd, h1, h2, h3, h4⟩ := f.defs x i d hd
    exact ⟨fa, fd, h1, h2, h3, h4.imp fun vs H Q E h => spOf_lw h⟩
  excs := f.excs
  sub := f.sub
/-- the def's own wish -/
def lfcOf (d : DefI) (cells : List (Str × Addr)) : Option (List (Str × Addr)) → Prop := fun o => if d.hold then o = some cells else if d.dp then o = none else True
theorem start_rel {N : List Str} {W : Wd} {ds : List Z.D} {vs : List V} (hlf : p.lfc W.lf) (rv : RelDs p.K W ds vs) : RelE p W (startE N ds) (L2.start N vs) := by
  have hlen := rv.length
  refine ⟨?_, fun i d h => ?_, hlf⟩
  · unfold startE L2.start
    simp only [List.length_append, List.length_map, List.length_replicate, hlen]
  · unfold startE at h
    unfold L2.start
    by_cases hi : i < ds.length
    · rw [List.getElem?_append_left (by simpa using hi), List.getElem?_map] at h
      cases e : ds[i]? with
      | none => rw [e] at h; cases h
      | some d' =>
        rw [e] at h
        cases h
        obtain ⟨v, e2, r⟩ := rv.get e
        refine ⟨v, ?_, r⟩
        rw [List.getElem?_append_left (by rw [List.length_map, ← hlen]; exact hi), List.getElem?_map, e2]
        rfl
    · rw [List.getElem?_append_right (by simpa using hi)] at h
      rw [List.getElem?_replicate] at h
      split at h <;> cases h
/-- a body's end -/
theorem body_end {N : List Str} {m : MS} {W : Wd} {H : Hp} {Q : VK} {E : XK} {ds : List Z.D} {st : Sto} (q : Post p (RelD p.K) W H (fun c H' => E (.ref (p.xa (c / 2))) (tgX c) H') Q (runBody N m ds st)) :
    PostS p W H (fun cls d _ H => E cls d H) { nx := fun _ H' => Q .non H', rt := Q } (m (startE N ds) st) := by
  unfold runBody at q
  cases h : m (startE N ds) st with
  | nx e1 s1 =>
    rw [h] at q
    exact fun W' H' σ' l fr rp' re' => q W' H' _ l fr rp' rel_non
  | rt d s1 =>
    rw [h] at q
    exact fun W' H' v l fr rp' rv' => q W' H' v l fr rp' rv'
  | ex c e1 s1 =>
    rw [h] at q
    exact fun W' H' σ' l fr rp' re' => q W' H' l fr rp'
  | bk e1 s1 => rw [h] at q; exact q.elim
  | ct e1 s1 => rw [h] at q; exact q.elim
  | bad => rw [h] at q; exact q.elim
/-- a def by its body -/
theorem fn_semC {x qual : Str} {params : Arguments} {body : List Stmt} {scope : Scope} {f : Addr} {fd : FuncData} {N ps : List Str} {k : Nat} {m : MS} {d : DefI}
    (F : FunD K x qual params body scope [] [] f fd) (S : FnScope N ps scope)
    (hb : ∀ (A : Around) (outer : List PySem.Env) (s : Shared) (H : Hp) (E : XK), Room k (A.deeper (envOfC qual scope s.heap.objs.size f fd.code)) →
      PSs (cxOf (CXM P w) P w K mg base N qual scope f fd.code A outer s H E) body (tS (p.wlf (lfcOf d (envOfC qual scope s.heap.objs.size f fd.code).cells)) (fun cls d _ H => E cls d H) m)) :
    FnOk P w K mg base (CXM P w) (k + 1) f fd ps (spOf p ps.length (d.dp || d.hold) (if d.hold then lamly (runBody N m) else runBody N m)) := by
  obtain ⟨oc, od, dV, kV, doc, pm, an, cdv, ct, osl, rfl, lk, hcd, _, _⟩ := F.ex
  refine fn_of lk hcd S (fun vs H Q E h => h.1) fun A outer s H vs Q E hr ⟨hl, W, ds, st, hdp, rp, rv, q⟩ => ⟨_, hb A outer s H E hr, ?_⟩
  cases hh : d.hold with
  | true =>
    rw [hh, if_pos rfl] at q
    have h0 := hdp (by rw [hh, Bool.or_true])
    unfold lamly at q
    split at q
    · rename_i hc
      obtain ⟨hc1, hc2⟩ := and_t hc
      have q2 := post_lamly (l := some (envOfC qual scope s.heap.objs.size f cdv).cells) h0 q
      refine ⟨W.at_ (some (envOfC qual scope s.heap.objs.size f cdv).cells), startE N ds, st, start_rel ?_ (relDs_relf 12 (by simpa using hc1) rv), (rp.relf hc2).wl, body_end (Post.wl q2)⟩
      show (if d.hold = true then _ else _)
      rw [hh]
      rfl
    · exact q.elim
  | false =>
    rw [hh, if_neg Bool.false_ne_true] at q
    refine ⟨W, startE N ds, st, start_rel ?_ rv, rp.wl, body_end (Post.wl q)⟩
    show (if d.hold = true then _ else if d.dp = true then _ else _)
    rw [hh]
    rw [if_neg Bool.false_ne_true]
    split
    · rename_i z
      exact hdp (by rw [z]; rfl)
    · trivial
/-- a def over the level below -/
theorem fn_step {k i : Nat} {d : DefI} {fa : Addr} {fd : FuncData} (ih : WF G p P w K mg base k (prog G k)) (hd : G.defs[i]? = some d) (df : DefFact K mg base p d fa fd) :
    FnOk P w K mg base (CXM P w) (8 * (k + 1)) fa fd d.ps (spOf p d.ps.length d.dp (prog G (k + 1) i)) := by
  have e : prog G (k + 1) i = defF G (prog G k) d := by
    show (match G.defs[i]? with | some d => defF G (prog G k) d | none => fun _ _ => .bad) = _
    rw [hd]
  rw [e]
  have key : FnOk P w K mg base (CXM P w) (8 * (k + 1)) fa fd d.ps (spOf p d.ps.length (d.dp || d.hold) (if d.hold then lamly (runBody d.N (stepSs (semS G (semE G (prog G k) fuel) fuel) (defGm d) d.body)) else runBody d.N (stepSs (semS G (semE G (prog G k) fuel) fuel) (defGm d) d.body))) := by
    refine fn_semC (k := 8 * k + 7) df.fun_ df.sc fun A outer s H E hr => ?_
    refine suites_ok (semS_ok (semE_ok fuel) (semE_lc fuel) (semE_quiet fuel) fuel) (defGm d) _ _ d.body (k := k) ?_
    refine ⟨⟨ih.wl, fun _ => hr, ?_, rfl, df.sc.nd, rfl, rfl, rfl, fun _ _ => rfl, takesM_of rfl rfl rfl rfl, df.gx, df.lm, fun h o ho => ?_, fun h o ho => ?_, fun h o ho => ?_⟩, df.sc.kind, rfl, rfl, PassesOwn.leaving, fun _ hd' => PassesOwnAt.leaving⟩
    · have := hr.un
      show (A.deeper _).units + 65 < cLine
      omega
    · have h : d.hold = true := h
      have ho : (if d.hold = true then o = some _ else if d.dp = true then o = none else True) := ho
      rw [if_pos h] at ho
      exact ⟨_, ho⟩
    · have h : d.hold = true := h
      have ho : (if d.hold = true then o = some _ else if d.dp = true then o = none else True) := ho
      rw [if_pos h] at ho
      exact ho
    · have h : (d.dp && !d.hold) = true := h
      obtain ⟨h1, h2⟩ := and_t h
      have ho : (if d.hold = true then o = some _ else if d.dp = true then o = none else True) := ho
      rw [if_neg (by cases hx : d.hold <;> simp_all), if_pos h1] at ho
      exact ho
  unfold defF
  have hdp : ∀ {f : FM} {vs : List V} {H : Hp} {Q : VK} {E : XK}, (d.hold = true → d.dp = true) → spOf p d.ps.length d.dp f vs H Q E → spOf p d.ps.length (d.dp || d.hold) f vs H Q E := fun hi ⟨hl, W, ds, s, h1, r⟩ => ⟨hl, W, ds, s, fun z => h1 (by
    rcases Bool.or_eq_true_iff.mp z with z | z
    · exact z
    · exact hi z), r⟩
  cases hh : d.hold with
  | true =>
    rw [hh] at key
    rw [hh] at hdp
    have hdd := df.hdp hh
    rw [hdd] at key ⊢
    exact key
  | false =>
    rw [hh, Bool.or_false] at key
    show FnOk P w K mg base (CXM P w) (8 * (k + 1)) fa fd d.ps (spOf p d.ps.length d.dp (if d.lone then alone _ else _))
    split
    · exact key.imp fun vs H Q E h => spOf_alone h
    · exact key
/-- every level keeps what it means -/
theorem levels (f : Facts G p K w mg base) : ∀ k, WF G p P w K mg base k (prog G k)
  | 0 => f.wf fun i d fa fd _ _ => ⟨fun vs H Q E h => h.1, fun A outer s H args us vs Q E _ _ _ _ h => by
      obtain ⟨_, _, _, _, _, _, _, q⟩ := h
      exact q.elim⟩
  | k + 1 => f.wf fun i d fa fd hd df => fn_step (levels f k) hd df
theorem level_fn (f : Facts G p K w mg base) {k i : Nat} {d : DefI} {fa : Addr} {fd : FuncData} (hd : G.defs[i]? = some d) (df : DefFact K mg base p d fa fd) : FnOk P w K mg base (CXM P w) (8 * (k + 1)) fa fd d.ps (spOf p d.ps.length d.dp (prog G (k + 1) i)) :=
  fn_step (levels f k) hd df
end
end Z

set_option Elab.async false
set_option linter.all false
set_option maxRecDepth 100000
set_option maxHeartbeats 1000000
/-! Z31: the head's facts, the law's end. -/
namespace Z
open PySem PySem.Spec PyProof.Rows L2
def ddOf (d : DefI) : He.DefD := ⟨(d.name, none), d.name, d.name, d.params, d.body, d.scope, [], []⟩
def lamQ (d : DefI) : Str := d.name ++ ".<locals>." ++ "<lambda>"
def gxs (G : Prg) : List DefI := G.defs.filter (·.gx)
def lms (G : Prg) : List DefI := G.defs.filter (·.lm)
def dn (d : DefI) : He.Defn := (d.name, none)
def tfOf (G : Prg) : List He.Defn := (gxs G ++ lms G).map dn
def conFa (q : Str × D) : He.Fa := match q.2 with
  | .str z => .str q.1 z
  | .int i => .int q.1 i
  | _ => .glo q.1
def faOf (G : Prg) : List He.Fa := G.defs.map (fun d => .glo d.name) ++ G.excs.flatMap (fun x => [.glo x, .exc x]) ++ G.consts.map conFa ++ G.dicts.map (fun q => .glo q.1) ++ bltNames.map .free
def tsOf (G : Prg) : List He.Tab := G.dicts.map fun q => ((fun K => He.ga K q.1), q.2.map (·.1))
def subB (G : Prg) (K : PySem.W.Frag) : Bool := (List.range G.excs.length).all fun i => (List.range G.excs.length).all fun j => match G.sub i j with
  | some b => decide (PySem.W.exmOne K (.ref (He.ga K (G.excs.getD i ""))) (.ref (He.ga K (G.excs.getD j ""))) = some b)
  | none => true
def tabX (G : Prg) (K : PySem.W.Frag) : Bool := ((gxs G).all fun a => (lms G).all fun b => decide ((He.cT K (dn a)).2 ≠ (He.cT K (dn b)).2)) && (lms G).all fun a => (lms G).all fun b => decide ((He.cT K (dn a)).2 = (He.cT K (dn b)).2 → lamQ a = lamQ b)
def conX (G : Prg) (K : PySem.W.Frag) : Bool := G.consts.all fun q => match q.2 with
  | .tup xs => wrB K 6 (.tup xs) (.ref (He.ga K q.1))
  | _ => true
def dicX (G : Prg) (K : PySem.W.Frag) : Bool := G.dicts.all fun q => kdB K (He.ga K q.1) q.2
def exOf (G : Prg) (K : PySem.W.Frag) : Bool := subB G K && tabX G K && conX G K && dicX G K
def plOf (G : Prg) (K : PySem.W.Frag) : Pl := ⟨K, (lms G).map fun d => ((He.cT K (dn d)).2, lamQ d), (gxs G).map fun d => (He.cT K (dn d)).2, fun i => He.ga K (G.excs.getD i ""), fun _ => 0, fun _ => "", fun _ => True⟩
def conB (q : Str × D) : Bool := match q.2 with
  | .str _ => true
  | .int _ => true
  | .tup _ => true
  | _ => false
/-- the text's own form -/
structure Form (G : Prg) : Prop where
  con : ∀ q ∈ G.consts, conB q = true
  sc : ∀ d ∈ G.defs, FnScope d.N d.ps d.scope
  hdp : ∀ d ∈ G.defs, d.hold = true → d.dp = true
  told : ∀ q ∈ G.tolds, toldB G q = true
  bind : ∀ d ∈ G.defs, ∀ (kV doc pm : Value) (an : Option Addr) (cdv ct : Value) (us : List Value), us.length = d.ps.length → bindArgs (PySem.W.fnOf d.name d.name d.params d.body d.scope .none kV doc pm an cdv ct) ⟨us, []⟩ = pure (d.ps.zip us)
section
variable {G : Prg} {K : PySem.W.Frag} {mg : Str → Option Value} {base h : Heap} {w : World} {P : Program}
theorem fa_in {f : He.Fa} (c : He.SaysX (faOf G) (G.defs.map ddOf) (tsOf G) (tfOf G) (exOf G) w h K) (hf : f ∈ faOf G) : f.ok K = true := He.SaysD.facts c.t.d hf
theorem def_fact (f : Form G) (X : K.In h) (N : h.Ns mainGlobals mg) (c : He.SaysX (faOf G) (G.defs.map ddOf) (tsOf G) (tfOf G) (exOf G) w h K) (hT : ∀ q ∈ (tfOf G).map (He.cT K), LamX.TabB base mg q.1 q.2) {d : DefI} {fd : FuncData} (hd : d ∈ G.defs) (F : FunD K d.name d.name d.params d.body d.scope [] [] (He.fAd K (d.name, none)) fd) :
    DefFact K mg base (plOf G K) d (He.ga K d.name) fd := by
  have hg : mg d.name = some (.ref (He.ga K d.name)) := He.glo_ok X N (fa_in c (f := .glo d.name) (List.mem_append_left _ (List.mem_append_left _ (List.mem_append_left _ (List.mem_append_left _ (List.mem_map_of_mem hd))))))
  have hcode : fd.code = .ref (He.codeOf K (dn d)) := by
    obtain ⟨oc, od, dV, kV, doc, pm, an, cdv, ct, osl, rfl, lk, hcd, _, _⟩ := F.ex
    obtain ⟨c0, rfl⟩ := He.codeIn_ref hcd
    have e := He.codeOf_eq (K := K) (p := dn d) lk (c := c0) rfl
    rw [e]
  have hx : exOf G K = true := c.more
  obtain ⟨hx, _⟩ := and_t hx
  obtain ⟨hx, _⟩ := and_t hx
  obtain ⟨hs, htx⟩ := and_t hx
  obtain ⟨hx1, hx2⟩ := and_t htx
  refine ⟨hg, F.kp, F.bindsN (f.bind d hd), F, f.sc d hd, f.hdp d hd, fun hgx => ?_, fun hlm => ?_⟩
  · have hd' : d ∈ gxs G := List.mem_filter.mpr ⟨hd, hgx⟩
    have hm : He.cT K (dn d) ∈ (tfOf G).map (He.cT K) := List.mem_map_of_mem (List.mem_map_of_mem (List.mem_append_left _ hd'))
    have tb := hT _ hm
    refine ⟨(He.cT K (dn d)).1, (He.cT K (dn d)).2, ⟨tb.code, tb.bm, tb.gP⟩, hcode, List.mem_map.mpr ⟨d, hd', rfl⟩, fun q hq => ?_⟩
    obtain ⟨b, hb, rfl⟩ := List.mem_map.mp hq
    have := of_decide_eq_true (List.all_eq_true.mp (List.all_eq_true.mp hx1 d hd') b hb)
    exact fun e => this e.symm
  · have hd' : d ∈ lms G := List.mem_filter.mpr ⟨hd, hlm⟩
    have hm : He.cT K (dn d) ∈ (tfOf G).map (He.cT K) := List.mem_map_of_mem (List.mem_map_of_mem (List.mem_append_right _ hd'))
    have tb := hT _ hm
    refine ⟨(He.cT K (dn d)).1, (He.cT K (dn d)).2, tb, hcode, List.mem_map.mpr ⟨d, hd', rfl⟩, fun q hq e => ?_, fun b hb e => ?_⟩
    · obtain ⟨b, hb, rfl⟩ := List.mem_map.mp hq
      have := of_decide_eq_true (List.all_eq_true.mp (List.all_eq_true.mp hx2 b hb) d hd')
      exact this e
    · obtain ⟨a, ha, rfl⟩ := List.mem_map.mp hb
      have := of_decide_eq_true (List.all_eq_true.mp (List.all_eq_true.mp hx1 a ha) d hd')
      exact this e
theorem facts_of (f : Form G) (X : K.In h) (N : h.Ns mainGlobals mg) (c : He.SaysX (faOf G) (G.defs.map ddOf) (tsOf G) (tfOf G) (exOf G) w h K) (hT : ∀ q ∈ (tfOf G).map (He.cT K), LamX.TabB base mg q.1 q.2) : Facts G (plOf G K) K w mg base where
  hK := rfl
  consts := fun q hq => by
    have hf : conFa q ∈ faOf G := List.mem_append_left _ (List.mem_append_left _ (List.mem_append_right _ (List.mem_map_of_mem hq)))
    have hok := fa_in c hf
    have hb := f.con q hq
    have hx : exOf G K = true := c.more
    obtain ⟨hx, _⟩ := and_t hx
    obtain ⟨_, hcx⟩ := and_t hx
    have hcq := List.all_eq_true.mp hcx q hq
    obtain ⟨x, d⟩ := q
    cases d with
    | str z =>
      obtain ⟨t, e⟩ := He.str_ok X N (x := x) (z := z) hok
      exact ⟨_, e, .str z, ⟨t, rfl⟩, fun W => rel_str, fun a z => by cases z⟩
    | int i =>
      obtain ⟨t, e⟩ := He.int_ok X N (x := x) (i := i) hok
      exact ⟨_, e, .int i, ⟨t, rfl⟩, fun W => rel_int, fun a z => by cases z⟩
    | tup xs => exact ⟨_, He.glo_ok X N (x := x) hok, wrB_ok 6 _ _ hcq⟩
    | _ => cases hb
  dicts := fun q hq => by
    have hok := fa_in c (f := .glo q.1) (List.mem_append_left _ (List.mem_append_right _ (List.mem_map.mpr ⟨q, hq, rfl⟩)))
    have hx : exOf G K = true := c.more
    obtain ⟨_, hdx⟩ := and_t hx
    obtain ⟨i, hi, ei⟩ := List.mem_iff_getElem.mp hq
    have ht : (tsOf G)[i]? = some ((fun K => He.ga K q.1), q.2.map (·.1)) := by
      unfold tsOf
      rw [List.getElem?_map, List.getElem?_eq_getElem hi, ei]
      rfl
    obtain ⟨es, n, D⟩ := He.SaysT.tab c.t i ht
    exact ⟨_, He.glo_ok X N hok, kdB_ok (List.all_eq_true.mp hdx q hq) D⟩
  tolds := f.told
  blt := fun x hx => He.free_ok X N (fa_in c (f := .free x) (List.mem_append_right _ (List.mem_map_of_mem hx)))
  defs := fun d hd => by
    obtain ⟨fd, F⟩ := He.SaysD.defs c.t.d (d := ddOf d) (List.mem_map_of_mem hd)
    exact ⟨_, fd, def_fact f X N c hT hd F⟩
  excs := fun i x hi => by
    have hx : x ∈ G.excs := List.mem_of_getElem? hi
    have e : G.excs.getD i "" = x := by rw [List.getD_eq_getElem?_getD, hi]; rfl
    have m1 : ∀ f ∈ [He.Fa.glo x, He.Fa.exc x], f ∈ faOf G := fun f hf => List.mem_append_left _ (List.mem_append_left _ (List.mem_append_left _ (List.mem_append_right _ (List.mem_flatMap.mpr ⟨x, hx, hf⟩))))
    have hg := He.glo_ok X N (fa_in c (m1 (.glo x) (List.mem_cons_self ..)))
    obtain ⟨q1, q2, q3, q4⟩ := He.exc_ok (fa_in c (m1 (.exc x) (List.mem_cons_of_mem _ (List.mem_cons_self ..))))
    show ExcFact K mg x (He.ga K (G.excs.getD i ""))
    rw [e]
    exact ⟨hg, q2, q1, q3, q4⟩
  sub := fun i j b hi hj hb => by
    have hx : exOf G K = true := c.more
    obtain ⟨hx, _⟩ := and_t hx
    obtain ⟨hx, _⟩ := and_t hx
    obtain ⟨hs, _⟩ := and_t hx
    have := List.all_eq_true.mp (List.all_eq_true.mp hs i (List.mem_range.mpr hi)) j (List.mem_range.mpr hj)
    rw [hb] at this
    exact of_decide_eq_true this
/-- the script, known from now on -/
def fz0 (H : Hp) : Hp := fun b => match H b with
  | some (.tbl _) => none
  | o => o
theorem fz0_le {H : Hp} {a : Addr} {o : HO} (e : fz0 H a = some o) : H a = some o := by
  unfold fz0 at e
  split at e
  · cases e
  · exact e
theorem fz0_of {H : Hp} {a : Addr} {o : HO} (e : H a = some o) (n : ∀ ps, o ≠ .tbl ps) : fz0 H a = some o := by
  unfold fz0
  split
  · rename_i ps z
    rw [e] at z
    exact absurd (Option.some.inj z) (n ps)
  · exact e
theorem relDs_ints {W : Wd} : ∀ ns : List Int, RelDs K W (ns.map D.int) (ns.map V.int)
  | [] => relDs_nil
  | n :: r => relDs_cons rel_int (relDs_ints r)
theorem triples_nil : TriplesOk ([] : List Value) := by first | trivial | (unfold TriplesOk; trivial)
theorem start_sp {p : Pl} {dp : Bool} {F : FM} {H : Hp} {a : Addr} {ns : List Int} {s' : Sto} (hK : p.K = K) (htl : ∀ q ∈ p.tl, H q.1 = some (.tbl #[])) (htg : ∀ q ∈ p.tg, H q = some (.tbl #[])) (hS : SqL K H a (ns.map V.int)) (hF : F [.scr (ns.map D.int)] [] = .ok (.bl true) s') :
    spOf p 1 dp F [.ref a] H (fun v _ => v = .bl true) fun _ _ _ => False := by
  refine ⟨rfl, ⟨fz0 H, [], none⟩, [.scr (ns.map D.int)], [], fun _ => rfl, ⟨⟨fun q hq => ⟨#[], htl q hq, triples_nil, fun pos cv z => ?_⟩, fun P hP => ⟨#[], htg P hP, triples_nil⟩⟩, fun b o e => fz0_le e, fun b ps z => ?_, rfl, List.nodup_nil, fun b hb => (by cases hb), fun n ob b e => (by simp at e)⟩, ?_, ?_⟩
  · have z : codeAmong pos ([] : List Value) = some cv := z
    unfold codeAmong at z
    cases z
  · have z' : fz0 H b = some (.tbl ps) := z
    have e := fz0_le z'
    unfold fz0 at z'
    rw [e] at z'
    cases z'
  · refine relDs_cons ?_ relDs_nil
    unfold RelD
    refine ⟨a, ns.map V.int, rfl, ?_, relDs_ints ns⟩
    rw [hK]
    rcases hS with (hS | ⟨o, hS⟩) | hS
    · exact .inl (.inl (fz0_of hS fun ps z => by cases z))
    · exact .inl (.inr ⟨o, fz0_of hS fun ps z => by cases z⟩)
    · exact .inr hS
  · rw [hF]
    intro W' H' v l fr rp rv
    exact relD_bl rv
/-- the law's function object -/
theorem law_at {l : PySem.W.OpenLaw} {k n i : Nat} {d : DefI} {x : Str} {fa : Addr} (f : Form G) (hd : G.defs[i]? = some d) (hps : d.ps = [x]) (X : K.In h) (N : h.Ns mainGlobals mg) (hfa : mg d.name = some (.ref fa)) (c : He.SaysX (faOf G) (G.defs.map ddOf) (tsOf G) (tfOf G) (exOf G) w h K)
    (hF : ∀ ns : List Int, ns.length ≤ n → (∀ z ∈ ns, Builtin.Int.intBits z ≤ 1048576) → ∃ s', prog G (k + 1) i [.scr (ns.map D.int)] [] = .ok (.bl true) s') : LamX.LawAtS l w K (CXM l.prog w) (8 * (k + 1)) n x mg fa h := by
  have hdm := List.mem_of_getElem? hd
  obtain ⟨fd, F⟩ := He.SaysD.defs c.t.d (d := ddOf d) (List.mem_map_of_mem hdm)
  have F : FunD K d.name d.name d.params d.body d.scope [] [] (He.fAd K (d.name, none)) fd := F
  have hg : mg d.name = some (.ref (He.ga K d.name)) := He.glo_ok X N (fa_in c (f := .glo d.name) (List.mem_append_left _ (List.mem_append_left _ (List.mem_append_left _ (List.mem_append_left _ (List.mem_map_of_mem hdm))))))
  have efa : fa = He.ga K d.name := by
    rw [hg] at hfa
    cases hfa
    rfl
  subst efa
  refine ⟨fd, (tfOf G).map (He.cT K), spOf (plOf G K) 1 d.dp (prog G (k + 1) i), fun q hq => ?_, fun q hq => ?_, fun q hq => ?_, fun s u => ?_, fun H a ns hl hb hH hS => ?_, fun base Kb Nb hT => ?_⟩
  · obtain ⟨t, ht, rfl⟩ := List.mem_map.mp hq
    exact c.empty t ht
  · obtain ⟨t, ht, rfl⟩ := List.mem_map.mp hq
    exact c.out t ht
  · obtain ⟨t, ht, rfl⟩ := List.mem_map.mp hq
    exact PySem.W.codeHd_of_K X (c.hd t ht)
  · have := FunD.bindsA (ps := d.ps) F (f.bind d hdm) s [u] (by rw [hps]; rfl)
    rw [hps] at this
    exact this
  · obtain ⟨s', e⟩ := hF ns hl hb
    refine start_sp (K := K) rfl (fun q hq => ?_) (fun q hq => ?_) hS e
    · obtain ⟨b, hb, rfl⟩ := List.mem_map.mp hq
      exact hH _ (List.mem_map_of_mem (List.mem_map_of_mem (List.mem_append_right _ hb)))
    · obtain ⟨b, hb, rfl⟩ := List.mem_map.mp hq
      exact hH _ (List.mem_map_of_mem (List.mem_map_of_mem (List.mem_append_left _ hb)))
  · have ft := facts_of f X N c hT
    have q := level_fn (P := l.prog) (w := w) (k := k) ft hd (def_fact f X N c hT hdm F)
    rw [hps] at q
    exact q
end
end Z

set_option Elab.async false
set_option linter.all false
set_option maxRecDepth 100000
set_option maxHeartbeats 1000000
/-! Z32: plain evaluation. -/
namespace Z
open PySem
/-- a body run over a frame of n slots -/
def runN (n : Nat) (m : MS) : FM := fun ds s => match m (ds.map some ++ List.replicate (n - ds.length) none) s with
  | .nx _ s' => .ok .non s'
  | .rt d s' => .ok d s'
  | .ex c _ s' => .exc c s'
  | _ => .bad
theorem runN_eq {N : List Str} {m : MS} : runBody N m = runN N.length m := by
  funext ds s
  unfold runBody runN startE
  cases m (ds.map some ++ List.replicate (N.length - ds.length) none) s <;> rfl
theorem fn_of_sh {G : Prg} {i : Nat} {d : DefI} {m : (Nat → FM) → MS} (hd : G.defs[i]? = some d) (hm : ∀ F, stepSs (semS G (semE G F fuel) fuel) (defGm d) d.body = m F) (j : Nat) : prog G (j + 1) i = if d.hold then lamly (runN d.N.length (m (prog G j))) else if d.lone then alone (runN d.N.length (m (prog G j))) else runN d.N.length (m (prog G j)) := by
  show (match G.defs[i]? with | some d => defF G (prog G j) d | none => fun _ _ => .bad) = _
  rw [hd]
  show defF G (prog G j) d = _
  unfold defF
  rw [hm, runN_eq]
/-- a value, at every store -/
def Ev (G : Prg) (j i : Nat) (ds : List D) (d : D) : Prop := ∀ s, prog G j i ds s = .ok d s
theorem ev_of {G : Prg} {i : Nat} {d : DefI} {m : (Nat → FM) → MS} {j : Nat} {ds : List D} {r : D} {s' : Sto} (hd : G.defs[i]? = some d) (hh : d.hold = false) (hl : d.lone = true) (hm : ∀ F, stepSs (semS G (semE G F fuel) fuel) (defGm d) d.body = m F) (hp : ds.all (pure? 12) = true) (hr : pure? 12 r = true)
    (h : runN d.N.length (m (prog G j)) ds [] = .ok r s') : Ev G (j + 1) i ds r := fun s => by
  rw [fn_of_sh hd hm, hh, if_neg Bool.false_ne_true, if_pos hl]
  unfold alone
  rw [if_pos hp, h]
  show (if pure? 12 r then R.ok r s else .bad) = _
  rw [if_pos hr]
theorem Ev.call {G : Prg} {j i n : Nat} {as : MA} {e : Env} {s s1 : Sto} {ds : List D} {d : D} (h : Ev G j i ds d) (ha : as e s = .ok ds s1) (hl : ds.length = n) : mCall n (prog G j i) as e s = .ok d s1 := by
  unfold mCall
  rw [ha]
  show (if ds.length = n then prog G j i ds s1 else .bad) = _
  rw [if_pos hl, h]
/-! ### data -/
section
variable {s : Sto} {k : Nat}
theorem py_non : pyOf s (k + 1) .non = some .none := rfl
theorem py_bl {b : Bool} : pyOf s (k + 1) (.bl b) = some (.bool b) := rfl
theorem py_int {i : Int} : pyOf s (k + 1) (.int i) = some (.int i) := rfl
theorem py_tup {xs : List D} : pyOf s (k + 1) (.tup xs) = (optAll (pyOf s k) xs).map .tuple := rfl
theorem py_lst {xs : List D} : pyOf s (k + 1) (.lst xs) = (optAll (pyOf s k) xs).map .list := rfl
theorem py_str {x : Str} (h : strB x = true) : pyOf s (k + 1) (.str x) = some (.str x) := if_pos h
theorem all_nil : optAll (pyOf s k) [] = some [] := rfl
theorem all_cons {d : D} {ds : List D} {a : PyData} {as : List PyData} (h : pyOf s k d = some a) (h2 : optAll (pyOf s k) ds = some as) : optAll (pyOf s k) (d :: ds) = some (a :: as) := by
  unfold optAll
  rw [h, h2]
theorem optAll_cons {α β : Type} {f : α → Option β} {a : α} {r : List α} : optAll f (a :: r) = match f a, optAll f r with
    | some b, some bs => some (b :: bs)
    | _, _ => none := rfl
theorem optAll_nil {α β : Type} {f : α → Option β} : optAll f [] = some [] := rfl
theorem all_ints : ∀ ns : List Int, optAll (pyOf s (k + 1)) (ns.map D.int) = some (ns.map PyData.int)
  | [] => rfl
  | n :: r => all_cons py_int (all_ints r)
theorem eqv_int {i j : Int} : PyData.eqv (.int i) (.int j) = decide (i = j) := by
  unfold PyData.eqv
  rfl
theorem eqv_bl {i j : Bool} : PyData.eqv (.bool i) (.bool j) = (i == j) := by unfold PyData.eqv; rfl
theorem eqv_str {i j : Str} : PyData.eqv (.str i) (.str j) = decide (i = j) := by unfold PyData.eqv; rfl
theorem eqv_tup {i j : List PyData} : PyData.eqv (.tuple i) (.tuple j) = PyData.eqvAll i j := by unfold PyData.eqv; rfl
theorem eqv_list {i j : List PyData} : PyData.eqv (.list i) (.list j) = PyData.eqvAll i j := by unfold PyData.eqv; rfl
theorem eqvA_nil : PyData.eqvAll [] [] = true := by unfold PyData.eqvAll; rfl
theorem eqvA_cons {a b : PyData} {as bs : List PyData} : PyData.eqvAll (a :: as) (b :: bs) = (PyData.eqv a b && PyData.eqvAll as bs) := by rw [PyData.eqvAll]
theorem eqvA_ints : ∀ ns ms : List Int, PyData.eqvAll (ns.map PyData.int) (ms.map PyData.int) = decide (ns = ms)
  | [], [] => by rw [List.map_nil, eqvA_nil]; rfl
  | [], m :: ms => by unfold PyData.eqvAll; simp
  | n :: ns, [] => by unfold PyData.eqvAll; simp
  | n :: ns, m :: ms => by
    rw [List.map_cons, List.map_cons, eqvA_cons, eqv_int, eqvA_ints]
    simp
theorem op_eq_int {n : Bool} {i j : Int} : opEq n (.int i) (.int j) s = some (.bl (xor n (decide (i = j))), s) := by
  unfold opEq
  rw [py_int, py_int]
  show some (D.bl (xor n (PyData.eqv (.int i) (.int j))), s) = _
  rw [eqv_int]
theorem op_eq_tt {n : Bool} {i j : List Int} : opEq n (.tup (i.map .int)) (.tup (j.map .int)) s = some (.bl (xor n (decide (i = j))), s) := by
  unfold opEq
  rw [py_tup, py_tup, all_ints, all_ints]
  show some (D.bl (xor n (PyData.eqv (.tuple _) (.tuple _))), s) = _
  rw [eqv_tup, eqvA_ints]
theorem op_eq_ll {n : Bool} {i j : List Int} : opEq n (.lst (i.map .int)) (.lst (j.map .int)) s = some (.bl (xor n (decide (i = j))), s) := by
  unfold opEq
  rw [py_lst, py_lst, all_ints, all_ints]
  show some (D.bl (xor n (PyData.eqv (.list _) (.list _))), s) = _
  rw [eqv_list, eqvA_ints]
/-- x in (0, 1) -/
theorem op_in2 {n : Bool} {i a b : Int} : opIn n (.int i) (.tup [.int a, .int b]) s = some (.bl (xor n (decide (a = i) || decide (b = i))), s) := by
  have h : pyOf s 12 (.tup [.int a, .int b]) = some (.tuple [.int a, .int b]) := rfl
  unfold opIn
  show (match pyOf s 12 (.int i), pyOf s 12 (.tup [.int a, .int b]) with
    | some a, some (.list bs) => some (D.bl (xor n (bs.any fun z => PyData.eqv z a)), s)
    | some a, some (.tuple bs) => some (D.bl (xor n (bs.any fun z => PyData.eqv z a)), s)
    | _, _ => none) = _
  rw [h, py_int]
  show some (D.bl (xor n (PyData.eqv (.int a) (.int i) || (PyData.eqv (.int b) (.int i) || false))), s) = _
  rw [eqv_int, eqv_int, Bool.or_false]
theorem op_inl2 {n : Bool} {i a b : Int} : opIn n (.int i) (.lst [.int a, .int b]) s = some (.bl (xor n (decide (a = i) || decide (b = i))), s) := by
  have h : pyOf s 12 (.lst [.int a, .int b]) = some (.list [.int a, .int b]) := rfl
  unfold opIn
  show (match pyOf s 12 (.int i), pyOf s 12 (.lst [.int a, .int b]) with
    | some a, some (.list bs) => some (D.bl (xor n (bs.any fun z => PyData.eqv z a)), s)
    | some a, some (.tuple bs) => some (D.bl (xor n (bs.any fun z => PyData.eqv z a)), s)
    | _, _ => none) = _
  rw [h, py_int]
  show some (D.bl (xor n (PyData.eqv (.int a) (.int i) || (PyData.eqv (.int b) (.int i) || false))), s) = _
  rw [eqv_int, eqv_int, Bool.or_false]
/-! ### a comprehension, a loop over items, each turn known -/
theorem lcF_map {t : Tg} {c : MB} {el : ME} {e : Env} {g : D → D} : ∀ {ds : List D}, (∀ d ∈ ds, ∃ e1, t d e s = some (e1, s) ∧ c e1 s = .ok true s ∧ el e1 s = .ok (g d) s) → lcF t c el ds e s = .ok (ds.map g) s
  | [], _ => rfl
  | d :: ds, h => by
    obtain ⟨e1, h1, h2, h3⟩ := h d (List.mem_cons_self ..)
    have ih := lcF_map (ds := ds) fun d hd => h d (List.mem_cons_of_mem _ hd)
    unfold lcF lcT
    rw [h1]
    show (c e1 s).nx.bind _ = _
    rw [h2]
    show (if true then (el e1 s).nx.bind fun v s3 => (lcF t c el ds e s3).bind fun r s4 => R.ok (v :: r) s4 else lcF t c el ds e s) = _
    rw [if_pos rfl, h3]
    show ((lcF t c el ds e s).bind fun r s4 => R.ok (g d :: r) s4) = _
    rw [ih]
    rfl
theorem qnF_none {st : Bool} {t : Tg} {c : MB} {el : ME} {e : Env} : ∀ {ds : List D}, (∀ d ∈ ds, ∃ e1, t d e s = some (e1, s) ∧ c e1 s = .ok true s ∧ el e1 s = .ok (.bl (!st)) s) → qnF st t c el ds e s = .ok (!st) s
  | [], _ => rfl
  | d :: ds, h => by
    obtain ⟨e1, h1, h2, h3⟩ := h d (List.mem_cons_self ..)
    have ih := qnF_none (ds := ds) fun d hd => h d (List.mem_cons_of_mem _ hd)
    unfold qnF qnT
    rw [h1]
    show (c e1 s).nx.bind _ = _
    rw [h2]
    show (if true then ((mB el e1 s).nx.bind fun z s3 => if z == st then R.ok st s3 else qnF st t c el ds e s3) else qnF st t c el ds e s) = _
    rw [if_pos rfl]
    have hb : mB el e1 s = .ok (!st) s := by unfold mB; rw [h3]; rfl
    rw [hb]
    show (if (!st) == st then R.ok st s else qnF st t c el ds e s) = _
    rw [if_neg (by cases st <;> decide), ih]
theorem forF_cons {t : Tg} {b : MS} {d : D} {ds : List D} {e e1 e2 : Env} {s1 s2 : Sto} (h1 : t d e s = some (e1, s1)) (h2 : b e1 s1 = .nx e2 s2) : forF t b (d :: ds) e s = forF t b ds e2 s2 := by
  show step1 t b d e s (forF t b ds) = _
  unfold step1
  rw [h1]
  show (match b e1 s1 with
    | .nx e2 s2 => forF t b ds e2 s2
    | .ct e2 s2 => forF t b ds e2 s2
    | .bk e2 s2 => .nx e2 s2
    | .rt d s2 => .rt d s2
    | .ex c e2 s2 => .ex c e2 s2
    | .bad => .bad) = _
  rw [h2]
/-- a loop kept by an invariant -/
theorem forF_inv {t : Tg} {b : MS} (P : List D → Env → Prop) (h : ∀ d ds e, P (d :: ds) e → ∃ e1 e2, t d e s = some (e1, s) ∧ b e1 s = .nx e2 s ∧ P ds e2) : ∀ (ds : List D) (e : Env), P ds e → ∃ e2, forF t b ds e s = .nx e2 s ∧ P [] e2
  | [], e, h0 => ⟨e, rfl, h0⟩
  | d :: ds, e, h0 => by
    obtain ⟨e1, e2, q1, q2, q3⟩ := h d ds e h0
    rw [forF_cons q1 q2]
    exact forF_inv P h ds e2 q3
end
end Z

set_option Elab.async false
set_option linter.all false
set_option maxRecDepth 100000
set_option maxHeartbeats 0
namespace Z
open PySem PySem.Spec PyProof.Rows L2
namespace K02
abbrev PW : Program := PySem.Challenge.pw_emustack_k02_codes_that_come_back
def top (i : Nat) : Stmt := PW.main.body.getD i (.Pass ⟨0, 0, 0, 0⟩)
def d5 : DefI := ⟨"check_byte", ["number"], ["number"], defScope (top 5), defArgs (top 5), defBody (top 5), true, false, false, false, false⟩
def d6 : DefI := ⟨"check_word", ["number"], ["number"], defScope (top 6), defArgs (top 6), defBody (top 6), true, false, false, false, false⟩
def d7 : DefI := ⟨"check_bits", ["number", "bits"], ["number", "bits"], defScope (top 7), defArgs (top 7), defBody (top 7), true, false, false, false, false⟩
def d8 : DefI := ⟨"power_of", ["bits"], ["bits", "found", "turn"], defScope (top 8), defArgs (top 8), defBody (top 8), true, false, false, false, false⟩
def d9 : DefI := ⟨"signed_of", ["number", "bits"], ["number", "bits", "half"], defScope (top 9), defArgs (top 9), defBody (top 9), true, false, false, false, false⟩
def d10 : DefI := ⟨"plain_of", ["signed", "bits"], ["signed", "bits"], defScope (top 10), defArgs (top 10), defBody (top 10), true, false, false, false, false⟩
def d11 : DefI := ⟨"halves_of", ["word"], ["word"], defScope (top 11), defArgs (top 11), defBody (top 11), true, false, false, false, false⟩
def d12 : DefI := ⟨"joined", ["high", "low"], ["high", "low"], defScope (top 12), defArgs (top 12), defBody (top 12), true, false, false, false, false⟩
def d18 : DefI := ⟨"code_of", ["name", "way"], ["name", "way"], defScope (top 18), defArgs (top 18), defBody (top 18), true, false, false, false, false⟩
def d19 : DefI := ⟨"named_code", ["code"], ["code"], defScope (top 19), defArgs (top 19), defBody (top 19), true, false, false, false, false⟩
def d20 : DefI := ⟨"ways_of", ["name"], ["name", "one", "way"], defScope (top 20), defArgs (top 20), defBody (top 20), true, true, false, false, false⟩
def d21 : DefI := ⟨"size_of", ["code"], ["code"], defScope (top 21), defArgs (top 21), defBody (top 21), true, false, false, false, false⟩
def d22 : DefI := ⟨"steps_of", ["code"], ["code", "name", "way", "found"], defScope (top 22), defArgs (top 22), defBody (top 22), true, false, false, false, false⟩
def d23 : DefI := ⟨"encoded", ["name", "way", "value"], ["name", "way", "value", "code", "high", "low"], defScope (top 23), defArgs (top 23), defBody (top 23), true, false, false, false, false⟩
def d24 : DefI := ⟨"decoded", ["numbers", "place"], ["numbers", "place", "name", "way", "size"], defScope (top 24), defArgs (top 24), defBody (top 24), true, false, false, false, false⟩
def d25 : DefI := ⟨"told_code", ["name", "way", "value"], ["name", "way", "value"], defScope (top 25), defArgs (top 25), defBody (top 25), true, false, false, false, false⟩
def d26 : DefI := ⟨"fits_near", ["name", "value"], ["name", "value"], defScope (top 26), defArgs (top 26), defBody (top 26), true, false, false, false, false⟩
def d27 : DefI := ⟨"sizes_told", ["numbers"], ["numbers", "found", "place"], defScope (top 27), defArgs (top 27), defBody (top 27), true, false, false, false, false⟩
def d28 : DefI := ⟨"steps_told", ["numbers"], ["numbers", "place"], defScope (top 28), defArgs (top 28), defBody (top 28), true, true, false, false, false⟩
def d29 : DefI := ⟨"far_between", ["place", "goal"], ["place", "goal", "found"], defScope (top 29), defArgs (top 29), defBody (top 29), true, false, false, false, false⟩
def d30 : DefI := ⟨"goal_of", ["place", "far"], ["place", "far"], defScope (top 30), defArgs (top 30), defBody (top 30), true, false, false, false, false⟩
def d32 : DefI := ⟨"_law_dice", ["cell"], ["cell"], defScope (top 32), defArgs (top 32), defBody (top 32), false, false, false, false, false⟩
def d33 : DefI := ⟨"_law_roll", ["dice", "many"], ["dice", "many", "found"], defScope (top 33), defArgs (top 33), defBody (top 33), false, false, false, false, false⟩
def d34 : DefI := ⟨"_law_rounds", ["script", "most"], ["script", "most", "cells", "cell"], defScope (top 34), defArgs (top 34), defBody (top 34), false, false, false, false, false⟩
def d35 : DefI := ⟨"_law_told", ["what"], ["what"], defScope (top 35), defArgs (top 35), defBody (top 35), false, false, false, false, false⟩
def d36 : DefI := ⟨"_law_fits", ["way", "value"], ["way", "value", "low", "high"], defScope (top 36), defArgs (top 36), defBody (top 36), false, false, false, false, false⟩
def d37 : DefI := ⟨"_law_bytes", ["number", "way", "value"], ["number", "way", "value"], defScope (top 37), defArgs (top 37), defBody (top 37), false, false, false, false, false⟩
def d38 : DefI := ⟨"_law_text", ["name", "way", "value"], ["name", "way", "value"], defScope (top 38), defArgs (top 38), defBody (top 38), false, false, false, false, false⟩
def d39 : DefI := ⟨"_law_steps", ["name", "way"], ["name", "way", "size", "more"], defScope (top 39), defArgs (top 39), defBody (top 39), false, false, false, false, false⟩
def d40 : DefI := ⟨"_law_plain", [], ["told", "bad", "k", "f"], defScope (top 40), defArgs (top 40), defBody (top 40), false, false, true, true, true⟩
def d41 : DefI := ⟨"law", ["script"], ["script", "dice", "code", "name", "way", "numbers", "begins", "steps", "rows", "k", "number", "value", "due", "shown", "place", "goal", "far", "one"], defScope (top 41), defArgs (top 41), defBody (top 41), false, false, true, false, true⟩
def defs : List DefI := [d5, d6, d7, d8, d9, d10, d11, d12, d18, d19, d20, d21, d22, d23, d24, d25, d26, d27, d28, d29, d30, d32, d33, d34, d35, d36, d37, d38, d39, d40, d41]
def fresh (p : Pos) : Bool := p.line == 103 || p.line == 126 || p.line == 127
def cWAYS_OF_TELLING : D := .tup [.str "none", .str "value", .str "near", .str "far", .str "by x", .str "jump"]
def cCODES : D := .tup [.tup [.str "stop", .str "none"], .tup [.str "idle", .str "none"], .tup [.str "load", .str "value"], .tup [.str "load", .str "near"], .tup [.str "load", .str "far"], .tup [.str "load", .str "by x"], .tup [.str "store", .str "near"], .tup [.str "store", .str "far"], .tup [.str "store", .str "by x"], .tup [.str "loadx", .str "value"], .tup [.str "loadx", .str "near"], .tup [.str "storex", .str "near"], .tup [.str "add", .str "value"], .tup [.str "add", .str "near"], .tup [.str "add", .str "far"], .tup [.str "sub", .str "value"], .tup [.str "sub", .str "near"], .tup [.str "sub", .str "far"], .tup [.str "and", .str "value"], .tup [.str "and", .str "near"], .tup [.str "or", .str "value"], .tup [.str "or", .str "near"], .tup [.str "xor", .str "value"], .tup [.str "xor", .str "near"], .tup [.str "cmp", .str "value"], .tup [.str "cmp", .str "near"], .tup [.str "cmp", .str "far"], .tup [.str "cmpx", .str "value"], .tup [.str "incx", .str "none"], .tup [.str "decx", .str "none"], .tup [.str "inc", .str "near"], .tup [.str "dec", .str "near"], .tup [.str "shl", .str "none"], .tup [.str "shr", .str "none"], .tup [.str "rol", .str "none"], .tup [.str "ror", .str "none"], .tup [.str "push", .str "none"], .tup [.str "pull", .str "none"], .tup [.str "tax", .str "none"], .tup [.str "txa", .str "none"], .tup [.str "jump", .str "far"], .tup [.str "call", .str "far"], .tup [.str "back", .str "none"], .tup [.str "leave", .str "none"], .tup [.str "bz", .str "jump"], .tup [.str "bnz", .str "jump"], .tup [.str "bc", .str "jump"], .tup [.str "bnc", .str "jump"], .tup [.str "bn", .str "jump"], .tup [.str "hold", .str "none"], .tup [.str "free", .str "none"], .tup [.str "setc", .str "none"], .tup [.str "clearc", .str "none"], .tup [.str "mul", .str "near"], .tup [.str "addx", .str "none"], .tup [.str "swap", .str "none"]]
def cSIZES_BY_WAY : List (Str × D) := [("none", .int 1), ("value", .int 2), ("near", .int 2), ("far", .int 3), ("by x", .int 3), ("jump", .int 2)]
def cMORE_STEPS : List (Str × D) := [("mul", .int 8), ("call", .int 3), ("back", .int 3), ("leave", .int 4), ("push", .int 1), ("pull", .int 2), ("inc", .int 2), ("dec", .int 2), ("stop", .int 0), ("swap", .int 1)]
def G : Prg := ⟨defs, [("WAYS_OF_TELLING", cWAYS_OF_TELLING), ("CODES", cCODES)], ["WordError", "CodeError"], fun i j => some (i == j), fresh, [("SIZES_BY_WAY", cSIZES_BY_WAY), ("MORE_STEPS", cMORE_STEPS)], [("_law_told", 1, "CodeError")]⟩
end K02
end Z

set_option Elab.async false
set_option linter.all false
set_option maxRecDepth 100000
set_option maxHeartbeats 0
namespace Z
open PySem PySem.Spec PyProof.Rows L2
namespace K02
def tWAYS_OF_TELLING : List D := [.str "none", .str "value", .str "near", .str "far", .str "by x", .str "jump"]
def tCODES : List D := [.tup [.str "stop", .str "none"], .tup [.str "idle", .str "none"], .tup [.str "load", .str "value"], .tup [.str "load", .str "near"], .tup [.str "load", .str "far"], .tup [.str "load", .str "by x"], .tup [.str "store", .str "near"], .tup [.str "store", .str "far"], .tup [.str "store", .str "by x"], .tup [.str "loadx", .str "value"], .tup [.str "loadx", .str "near"], .tup [.str "storex", .str "near"], .tup [.str "add", .str "value"], .tup [.str "add", .str "near"], .tup [.str "add", .str "far"], .tup [.str "sub", .str "value"], .tup [.str "sub", .str "near"], .tup [.str "sub", .str "far"], .tup [.str "and", .str "value"], .tup [.str "and", .str "near"], .tup [.str "or", .str "value"], .tup [.str "or", .str "near"], .tup [.str "xor", .str "value"], .tup [.str "xor", .str "near"], .tup [.str "cmp", .str "value"], .tup [.str "cmp", .str "near"], .tup [.str "cmp", .str "far"], .tup [.str "cmpx", .str "value"], .tup [.str "incx", .str "none"], .tup [.str "decx", .str "none"], .tup [.str "inc", .str "near"], .tup [.str "dec", .str "near"], .tup [.str "shl", .str "none"], .tup [.str "shr", .str "none"], .tup [.str "rol", .str "none"], .tup [.str "ror", .str "none"], .tup [.str "push", .str "none"], .tup [.str "pull", .str "none"], .tup [.str "tax", .str "none"], .tup [.str "txa", .str "none"], .tup [.str "jump", .str "far"], .tup [.str "call", .str "far"], .tup [.str "back", .str "none"], .tup [.str "leave", .str "none"], .tup [.str "bz", .str "jump"], .tup [.str "bnz", .str "jump"], .tup [.str "bc", .str "jump"], .tup [.str "bnc", .str "jump"], .tup [.str "bn", .str "jump"], .tup [.str "hold", .str "none"], .tup [.str "free", .str "none"], .tup [.str "setc", .str "none"], .tup [.str "clearc", .str "none"], .tup [.str "mul", .str "near"], .tup [.str "addx", .str "none"], .tup [.str "swap", .str "none"]]
def s5 (F : Nat → FM) : MS := (sSeq (sIf (bNot (mB (mChain (opC .LtE) (opC .LtE) (mC (.int 0)) (mVar 0) (mC (.int 255))))) (sSeq (sRaise 0) sPass) sPass) sPass)
theorem sh5 (F : Nat → FM) : stepSs (semS G (semE G F fuel) fuel) (defGm d5) d5.body = s5 F := by kernel_rfl
def s6 (F : Nat → FM) : MS := (sSeq (sIf (bNot (mB (mChain (opC .LtE) (opC .LtE) (mC (.int 0)) (mVar 0) (mC (.int 65535))))) (sSeq (sRaise 0) sPass) sPass) sPass)
theorem sh6 (F : Nat → FM) : stepSs (semS G (semE G F fuel) fuel) (defGm d6) d6.body = s6 F := by kernel_rfl
def s7 (F : Nat → FM) : MS := (sSeq (sIf (bOr (bNot (mB (mChain (opC .LtE) (opC .LtE) (mC (.int 1)) (mVar 1) (mC (.int 32))))) (bNot (mB (mChain (opC .LtE) (opC .Lt) (mC (.int 0)) (mVar 0) (mCall 1 (F 3) (aCons (mVar 1) aNil)))))) (sSeq (sRaise 0) sPass) sPass) sPass)
theorem sh7 (F : Nat → FM) : stepSs (semS G (semE G F fuel) fuel) (defGm d7) d7.body = s7 F := by kernel_rfl
def s8 (F : Nat → FM) : MS := (sSeq (sAsg (tName 1) (mC (.int 1))) (sSeq (sForW (tName 2) (wRng (aCons (mVar 0) aNil)) (sSeq (sAug 1 (ipOp .Mult) (mC (.int 2))) sPass)) (sSeq (sRet (mVar 1)) sPass)))
theorem sh8 (F : Nat → FM) : stepSs (semS G (semE G F fuel) fuel) (defGm d8) d8.body = s8 F := by kernel_rfl
def s9 (F : Nat → FM) : MS := (sSeq (sExpr (mCall 2 (F 2) (aCons (mVar 0) (aCons (mVar 1) aNil)))) (sSeq (sAsg (tName 2) (mCall 1 (F 3) (aCons (m2 (opBin false .Sub) (mVar 1) (mC (.int 1))) aNil))) (sSeq (sRet (mIf (mB (m2 (opC .GtE) (mVar 0) (mVar 2))) (m2 (opBin false .Sub) (mVar 0) (m2 (opBin false .Mult) (mC (.int 2)) (mVar 2))) (mVar 0))) sPass)))
theorem sh9 (F : Nat → FM) : stepSs (semS G (semE G F fuel) fuel) (defGm d9) d9.body = s9 F := by kernel_rfl
def s10 (F : Nat → FM) : MS := (sSeq (sIf (bOr (bNot (mB (mChain (opC .LtE) (opC .LtE) (mC (.int 1)) (mVar 1) (mC (.int 32))))) (bNot (mB (mChain (opC .LtE) (opC .Lt) (m2 (opBin false .Sub) (mC (.int 0)) (mCall 1 (F 3) (aCons (m2 (opBin false .Sub) (mVar 1) (mC (.int 1))) aNil))) (mVar 0) (mCall 1 (F 3) (aCons (m2 (opBin false .Sub) (mVar 1) (mC (.int 1))) aNil)))))) (sSeq (sRaise 0) sPass) sPass) (sSeq (sRet (m2 (opBin false .Mod) (mVar 0) (mCall 1 (F 3) (aCons (mVar 1) aNil)))) sPass))
theorem sh10 (F : Nat → FM) : stepSs (semS G (semE G F fuel) fuel) (defGm d10) d10.body = s10 F := by kernel_rfl
def s11 (F : Nat → FM) : MS := (sSeq (sExpr (mCall 1 (F 1) (aCons (mVar 0) aNil))) (sSeq (sRet (mTup (aCons (m2 (opBin false .FloorDiv) (mVar 0) (mC (.int 256))) (aCons (m2 (opBin false .Mod) (mVar 0) (mC (.int 256))) aNil)))) sPass))
theorem sh11 (F : Nat → FM) : stepSs (semS G (semE G F fuel) fuel) (defGm d11) d11.body = s11 F := by kernel_rfl
def s12 (F : Nat → FM) : MS := (sSeq (sExpr (mCall 1 (F 0) (aCons (mVar 0) aNil))) (sSeq (sExpr (mCall 1 (F 0) (aCons (mVar 1) aNil))) (sSeq (sRet (m2 (opBin false .Add) (m2 (opBin false .Mult) (mVar 0) (mC (.int 256))) (mVar 1))) sPass)))
theorem sh12 (F : Nat → FM) : stepSs (semS G (semE G F fuel) fuel) (defGm d12) d12.body = s12 F := by kernel_rfl
def s18 (F : Nat → FM) : MS := (sSeq (sIf (mB (m2 (opC .NotIn) (mTup (aCons (mVar 0) (aCons (mVar 1) aNil))) (mC cCODES))) (sSeq (sRaise 2) sPass) sPass) (sSeq (sRet (mTIdx tCODES (mTup (aCons (mVar 0) (aCons (mVar 1) aNil))))) sPass))
theorem sh18 (F : Nat → FM) : stepSs (semS G (semE G F fuel) fuel) (defGm d18) d18.body = s18 F := by kernel_rfl
def s19 (F : Nat → FM) : MS := (sSeq (sIf (bNot (mB (mChain (opC .LtE) (opC .Lt) (mC (.int 0)) (mVar 0) (mB1 bLen (aCons (mC cCODES) aNil))))) (sSeq (sRaise 2) sPass) sPass) (sSeq (sRet (m2 opIx (mC cCODES) (mVar 0))) sPass))
theorem sh19 (F : Nat → FM) : stepSs (semS G (semE G F fuel) fuel) (defGm d19) d19.body = s19 F := by kernel_rfl
def s20 (F : Nat → FM) : MS := (sSeq (sRet (mGx okAny finT [1, 2] (tTup [(tName 1), (tName 2)]) (wVal (mC cCODES)) (mB (m2 (opC .Eq) (mVar 1) (mVar 0))) (mVar 2))) sPass)
theorem sh20 (F : Nat → FM) : stepSs (semS G (semE G F fuel) fuel) (defGm d20) d20.body = s20 F := by kernel_rfl
def s21 (F : Nat → FM) : MS := (sSeq (sRet (mKIx cSIZES_BY_WAY (m2 opIx (mCall 1 (F 9) (aCons (mVar 0) aNil)) (mC (.int 1))))) sPass)
theorem sh21 (F : Nat → FM) : stepSs (semS G (semE G F fuel) fuel) (defGm d21) d21.body = s21 F := by kernel_rfl
def s22 (F : Nat → FM) : MS := (sSeq (sAsg (tTup [(tName 1), (tName 2)]) (mCall 1 (F 9) (aCons (mVar 0) aNil))) (sSeq (sAsg (tName 3) (m2 (opBin false .Add) (mKIx cSIZES_BY_WAY (mVar 2)) (mKGet cMORE_STEPS (mVar 1) (mC (.int 0))))) (sSeq (sIf (bAnd (mB (m2 (opC .In) (mVar 2) (mTup (aCons (mC (.str "near")) (aCons (mC (.str "far")) (aCons (mC (.str "by x")) aNil)))))) (mB (m2 (opC .NotIn) (mVar 1) (mTup (aCons (mC (.str "jump")) (aCons (mC (.str "call")) aNil)))))) (sSeq (sAug 3 (ipOp .Add) (mC (.int 1))) sPass) sPass) (sSeq (sRet (m2 (opBin false .Add) (mVar 3) (mIf (mB (m2 (opC .Eq) (mVar 2) (mC (.str "by x")))) (mC (.int 1)) (mC (.int 0))))) sPass))))
theorem sh22 (F : Nat → FM) : stepSs (semS G (semE G F fuel) fuel) (defGm d22) d22.body = s22 F := by kernel_rfl
def s23 (F : Nat → FM) : MS := (sSeq (sAsg (tName 3) (mCall 2 (F 8) (aCons (mVar 0) (aCons (mVar 1) aNil)))) (sSeq (sTryX (catchOf G 0) 1 (sSeq (sIf (mB (m2 (opC .In) (mVar 1) (mTup (aCons (mC (.str "value")) (aCons (mC (.str "near")) aNil))))) (sSeq (sExpr (mCall 1 (F 0) (aCons (mVar 2) aNil))) (sSeq (sRet (mTup (aCons (mVar 3) (aCons (mVar 2) aNil)))) sPass)) sPass) (sSeq (sIf (mB (m2 (opC .In) (mVar 1) (mTup (aCons (mC (.str "far")) (aCons (mC (.str "by x")) aNil))))) (sSeq (sAsg (tTup [(tName 4), (tName 5)]) (mCall 1 (F 6) (aCons (mVar 2) aNil))) (sSeq (sRet (mTup (aCons (mVar 3) (aCons (mVar 5) (aCons (mVar 4) aNil))))) sPass)) sPass) (sSeq (sIf (mB (m2 (opC .Eq) (mVar 1) (mC (.str "jump")))) (sSeq (sRet (mTup (aCons (mVar 3) (aCons (mCall 2 (F 5) (aCons (mVar 2) (aCons (mC (.int 8)) aNil))) aNil)))) sPass) sPass) sPass)))) (sSeq (sRet (mTup (aCons (mVar 3) aNil))) sPass)))
theorem sh23 (F : Nat → FM) : stepSs (semS G (semE G F fuel) fuel) (defGm d23) d23.body = s23 F := by kernel_rfl
def s24 (F : Nat → FM) : MS := (sSeq (sIf (bNot (mB (mChain (opC .LtE) (opC .Lt) (mC (.int 0)) (mVar 1) (mB1 bLen (aCons (mVar 0) aNil))))) (sSeq (sRaise 2) sPass) sPass) (sSeq (sAsg (tTup [(tName 2), (tName 3)]) (mCall 1 (F 9) (aCons (m2 opIx (mVar 0) (mVar 1)) aNil))) (sSeq (sAsg (tName 4) (mKIx cSIZES_BY_WAY (mVar 3))) (sSeq (sIf (mB (m2 (opC .Gt) (m2 (opBin false .Add) (mVar 1) (mVar 4)) (mB1 bLen (aCons (mVar 0) aNil)))) (sSeq (sRaise 2) sPass) sPass) (sSeq (sIf (mB (m2 (opC .Eq) (mVar 3) (mC (.str "none")))) (sSeq (sRet (mTup (aCons (mVar 2) (aCons (mVar 3) (aCons (mC .non) (aCons (mVar 4) aNil)))))) sPass) sPass) (sSeq (sIf (mB (m2 (opC .Eq) (mVar 3) (mC (.str "jump")))) (sSeq (sRet (mTup (aCons (mVar 2) (aCons (mVar 3) (aCons (mCall 2 (F 4) (aCons (m2 opIx (mVar 0) (m2 (opBin false .Add) (mVar 1) (mC (.int 1)))) (aCons (mC (.int 8)) aNil))) (aCons (mVar 4) aNil)))))) sPass) sPass) (sSeq (sIf (mB (m2 (opC .Eq) (mVar 4) (mC (.int 2)))) (sSeq (sRet (mTup (aCons (mVar 2) (aCons (mVar 3) (aCons (m2 opIx (mVar 0) (m2 (opBin false .Add) (mVar 1) (mC (.int 1)))) (aCons (mVar 4) aNil)))))) sPass) sPass) (sSeq (sRet (mTup (aCons (mVar 2) (aCons (mVar 3) (aCons (mCall 2 (F 7) (aCons (m2 opIx (mVar 0) (m2 (opBin false .Add) (mVar 1) (mC (.int 2)))) (aCons (m2 opIx (mVar 0) (m2 (opBin false .Add) (mVar 1) (mC (.int 1)))) aNil))) (aCons (mVar 4) aNil)))))) sPass))))))))
theorem sh24 (F : Nat → FM) : stepSs (semS G (semE G F fuel) fuel) (defGm d24) d24.body = s24 F := by kernel_rfl
def s25 (F : Nat → FM) : MS := (sSeq (sExpr (mCall 3 (F 13) (aCons (mVar 0) (aCons (mVar 1) (aCons (mVar 2) aNil))))) (sSeq (sIf (mB (m2 (opC .Eq) (mVar 1) (mC (.str "none")))) (sSeq (sRet (mVar 0)) sPass) sPass) (sSeq (sIf (mB (m2 (opC .Eq) (mVar 1) (mC (.str "value")))) (sSeq (sRet (m2 (opBin false .Add) (mVar 0) (jnE [(mC (.str " #")), (mFmt (mVar 2))] Str.empty))) sPass) sPass) (sSeq (sIf (mB (m2 (opC .Eq) (mVar 1) (mC (.str "jump")))) (sSeq (sRet (m2 (opBin false .Add) (m2 (opBin false .Add) (m2 (opBin false .Add) (mVar 0) (mC (.str " "))) (mIf (mB (m2 (opC .GtE) (mVar 2) (mC (.int 0)))) (mC (.str "+")) (mC (.str "")))) (mFmt (mVar 2)))) sPass) sPass) (sSeq (sIf (mB (m2 (opC .Eq) (mVar 1) (mC (.str "by x")))) (sSeq (sRet (m2 (opBin false .Add) (mVar 0) (jnE [(mC (.str " ")), (mFmt (mVar 2)), (mC (.str ",x"))] Str.empty))) sPass) sPass) (sSeq (sRet (m2 (opBin false .Add) (m2 (opBin false .Add) (mVar 0) (mIf (bAnd (mB (m2 (opC .Eq) (mVar 1) (mC (.str "far")))) (mB (m2 (opC .Lt) (mVar 2) (mC (.int 256))))) (mC (.str " =")) (mC (.str " ")))) (mFmt (mVar 2)))) sPass))))))
theorem sh25 (F : Nat → FM) : stepSs (semS G (semE G F fuel) fuel) (defGm d25) d25.body = s25 F := by kernel_rfl
def s26 (F : Nat → FM) : MS := (sSeq (sRet (mAnd (m2 (opC .In) (mTup (aCons (mVar 0) (aCons (mC (.str "near")) aNil))) (mC cCODES)) (mChain (opC .LtE) (opC .LtE) (mC (.int 0)) (mVar 1) (mC (.int 255))))) sPass)
theorem sh26 (F : Nat → FM) : stepSs (semS G (semE G F fuel) fuel) (defGm d26) d26.body = s26 F := by kernel_rfl
def s27 (F : Nat → FM) : MS := (sSeq (sPar [1, 2] (aCons (mLst true aNil) (aCons (mC (.int 0)) aNil))) (sSeq (sWhile (mB (m2 (opC .Lt) (mVar 2) (mB1 bLen (aCons (mVar 0) aNil)))) (sSeq (sExpr (mMt .list mtAppend (mVar 1) (aCons (mVar 2) aNil))) (sSeq (sAug 2 (ipOp .Add) (m2 opIx (mCall 2 (F 14) (aCons (mVar 0) (aCons (mVar 2) aNil))) (mC (.int 3)))) sPass))) (sSeq (sRet (mB1 bTup (aCons (mVar 1) aNil))) sPass)))
theorem sh27 (F : Nat → FM) : stepSs (semS G (semE G F fuel) fuel) (defGm d27) d27.body = s27 F := by kernel_rfl
def s28 (F : Nat → FM) : MS := (sSeq (sRet (mGx okInt finSum [1] (tName 1) (wVal (mCall 1 (F 17) (aCons (mVar 0) aNil))) bYes (mCall 1 (F 12) (aCons (m2 opIx (mVar 0) (mVar 1)) aNil)))) sPass)
theorem sh28 (F : Nat → FM) : stepSs (semS G (semE G F fuel) fuel) (defGm d28) d28.body = s28 F := by kernel_rfl
def s29 (F : Nat → FM) : MS := (sSeq (sAsg (tName 2) (m2 (opBin false .Sub) (m2 (opBin false .Sub) (mVar 1) (mVar 0)) (mC (.int 2)))) (sSeq (sIf (bNot (mB (mChain (opC .LtE) (opC .LtE) (m2 (opBin false .Sub) (mC (.int 0)) (mC (.int 128))) (mVar 2) (mC (.int 127))))) (sSeq (sRaise 2) sPass) sPass) (sSeq (sRet (mVar 2)) sPass)))
theorem sh29 (F : Nat → FM) : stepSs (semS G (semE G F fuel) fuel) (defGm d29) d29.body = s29 F := by kernel_rfl
def s30 (F : Nat → FM) : MS := (sSeq (sTryX (catchOf G 0) 1 (sSeq (sExpr (mCall 1 (F 1) (aCons (mVar 0) aNil))) sPass)) (sSeq (sIf (bNot (mB (mChain (opC .LtE) (opC .LtE) (m2 (opBin false .Sub) (mC (.int 0)) (mC (.int 128))) (mVar 1) (mC (.int 127))))) (sSeq (sRaise 2) sPass) sPass) (sSeq (sRet (m2 (opBin false .Mod) (m2 (opBin false .Add) (m2 (opBin false .Add) (mVar 0) (mC (.int 2))) (mVar 1)) (mC (.int 65536)))) sPass)))
theorem sh30 (F : Nat → FM) : stepSs (semS G (semE G F fuel) fuel) (defGm d30) d30.body = s30 F := by kernel_rfl
def s32 (F : Nat → FM) : MS := (sSeq (sIf (mB (mChain (opC .Lt) (opC .Lt) (m2 (opBin false .Sub) (mC (.int 0)) (mC (.int 10))) (mVar 0) (mC (.int 10)))) (sSeq (sRet (mLst true (aCons (mB1 bAbs (aCons (mVar 0) aNil)) (aCons (mC (.int 0)) (aCons (mC (.int 2)) aNil))))) sPass) sPass) (sSeq (sRet (mLst true (aCons (mVar 0) (aCons (m2 (opBin true .Add) (mC (.int 1)) (m2 (opBin true .Mod) (mB1 bInt (aCons (mVar 0) aNil)) (mC (.int 1009)))) (aCons (mB1 bInt (aCons (m2 (opC .GtE) (mVar 0) (m2 (opBin true .Pow) (mC (.int 10)) (mC (.int 18)))) aNil)) aNil))))) sPass))
theorem sh32 (F : Nat → FM) : stepSs (semS G (semE G F fuel) fuel) (defGm d32) d32.body = s32 F := by kernel_rfl
def s33 (F : Nat → FM) : MS := (sSeq (sIf (bOr (mB (m2 (opC .Eq) (m2 opIx (mVar 0) (mC (.int 2))) (mC (.int 2)))) (bAnd (mB (m2 (opC .Eq) (m2 opIx (mVar 0) (mC (.int 2))) (mC (.int 1)))) (mB (m2 (opC .Gt) (m2 opIx (mVar 0) (mC (.int 0))) (mC (.int 0)))))) (sSeq (sAsg (tName 2) (m2 (opBin false .Mod) (mB1 bInt (aCons (m2 opIx (mVar 0) (mC (.int 0))) aNil)) (mVar 1))) (sSeq (sAsg (tSub (mVar 0) (mC (.int 0))) (m2 (opBin false .FloorDiv) (m2 opIx (mVar 0) (mC (.int 0))) (mVar 1))) (sSeq (sRet (mVar 2)) sPass))) sPass) (sSeq (sAsg (tSub (mVar 0) (mC (.int 2))) (mC (.int 0))) (sSeq (sIf (mB (m2 (opC .Gt) (mVar 1) (mC (.int 100000000)))) (sSeq (sRet (m2 (opBin false .Mod) (mB1 bInt (aCons (m2 (opBin false .Add) (m2 (opBin false .Mult) (mCall 2 (F 22) (aCons (mVar 0) (aCons (m2 (opBin false .Add) (m2 (opBin false .FloorDiv) (mVar 1) (mC (.int 100000000))) (mC (.int 1))) aNil))) (mC (.int 100000000))) (mCall 2 (F 22) (aCons (mVar 0) (aCons (mC (.int 100000000)) aNil)))) aNil)) (mVar 1))) sPass) sPass) (sSeq (sAsg (tSub (mVar 0) (mC (.int 0))) (m2 (opBin false .Mod) (mB1 bInt (aCons (m2 (opBin false .Add) (m2 (opBin false .Add) (m2 (opBin false .Mult) (m2 opIx (mVar 0) (mC (.int 0))) (mC (.int 48271))) (m2 (opBin false .Mult) (m2 opIx (mVar 0) (mC (.int 1))) (mC (.int 69621)))) (mC (.int 11))) aNil)) (mC (.int 2147483647)))) (sSeq (sAsg (tSub (mVar 0) (mC (.int 1))) (m2 (opBin false .Add) (m2 opIx (mVar 0) (mC (.int 1))) (mC (.int 1)))) (sSeq (sRet (m2 (opBin false .Mod) (mB1 bInt (aCons (m2 (opBin false .FloorDiv) (m2 opIx (mVar 0) (mC (.int 0))) (mC (.int 7))) aNil)) (mVar 1))) sPass))))))
theorem sh33 (F : Nat → FM) : stepSs (semS G (semE G F fuel) fuel) (defGm d33) d33.body = s33 F := by kernel_rfl
def s34 (F : Nat → FM) : MS := (sSeq (sAsg (tName 2) (mSl false (mVar 0) oNone (oSome (mVar 1)))) (sSeq (sIf (mB (m2 (opC .Eq) (mVar 2) (mLst false aNil))) (sSeq (sAsg (tName 2) (mLst false (aCons (mC (.int 0)) aNil))) sPass) sPass) (sSeq (sRet (mLc false [3] (tName 3) (wVal (mVar 2)) bYes (mCall 1 (F 21) (aCons (mVar 3) aNil)))) sPass)))
theorem sh34 (F : Nat → FM) : stepSs (semS G (semE G F fuel) fuel) (defGm d34) d34.body = s34 F := by kernel_rfl
def s36 (F : Nat → FM) : MS := (sSeq (sAsg (tTup [(tName 2), (tName 3)]) (mDIx (mDisp ["none", "value", "near", "far", "by x", "jump"] (aCons (mTup (aCons (mC (.int 0)) (aCons (mC (.int 0)) aNil))) (aCons (mTup (aCons (mC (.int 0)) (aCons (mC (.int 255)) aNil))) (aCons (mTup (aCons (mC (.int 0)) (aCons (mC (.int 255)) aNil))) (aCons (mTup (aCons (mC (.int 0)) (aCons (mC (.int 65535)) aNil))) (aCons (mTup (aCons (mC (.int 0)) (aCons (mC (.int 65535)) aNil))) (aCons (mTup (aCons (m1 unNeg (mC (.int 128))) (aCons (mC (.int 127)) aNil))) aNil))))))) (mVar 0))) (sSeq (sRet (mOr (m2 (opC .Eq) (mVar 0) (mC (.str "none"))) (mChain (opC .LtE) (opC .LtE) (mVar 2) (mVar 1) (mVar 3)))) sPass))
theorem sh36 (F : Nat → FM) : stepSs (semS G (semE G F fuel) fuel) (defGm d36) d36.body = s36 F := by kernel_rfl
def s37 (F : Nat → FM) : MS := (sSeq (sIf (mB (m2 (opC .Eq) (mVar 1) (mC (.str "none")))) (sSeq (sRet (mTup (aCons (mVar 0) aNil))) sPass) sPass) (sSeq (sRet (mIf (mB (m2 (opC .In) (mVar 1) (mLst false (aCons (mC (.str "value")) (aCons (mC (.str "near")) (aCons (mC (.str "jump")) aNil)))))) (mTup (aCons (mVar 0) (aCons (m2 (opBin false .Mod) (mVar 2) (mC (.int 256))) aNil))) (mTup (aCons (mVar 0) (aCons (m2 (opBin false .Mod) (mVar 2) (mC (.int 256))) (aCons (m2 (opBin false .FloorDiv) (mVar 2) (mC (.int 256))) aNil)))))) sPass))
theorem sh37 (F : Nat → FM) : stepSs (semS G (semE G F fuel) fuel) (defGm d37) d37.body = s37 F := by kernel_rfl
def s38 (F : Nat → FM) : MS := (sSeq (sIf (mB (m2 (opC .Eq) (mVar 1) (mC (.str "none")))) (sSeq (sRet (mVar 0)) sPass) sPass) (sSeq (sIf (mB (m2 (opC .Eq) (mVar 1) (mC (.str "value")))) (sSeq (sRet (m2 (opBin false .Add) (m2 (opBin false .Add) (mVar 0) (mC (.str " #"))) (mB1 bStr (aCons (mVar 2) aNil)))) sPass) sPass) (sSeq (sIf (mB (m2 (opC .Eq) (mVar 1) (mC (.str "jump")))) (sSeq (sRet (m2 (opBin false .Add) (m2 (opBin false .Add) (m2 (opBin false .Add) (mVar 0) (mC (.str " "))) (mIf (mB (m2 (opC .GtE) (mVar 2) (mC (.int 0)))) (mC (.str "+")) (mC (.str "")))) (mB1 bStr (aCons (mVar 2) aNil)))) sPass) sPass) (sSeq (sIf (mB (m2 (opC .Eq) (mVar 1) (mC (.str "by x")))) (sSeq (sRet (m2 (opBin false .Add) (m2 (opBin false .Add) (m2 (opBin false .Add) (mVar 0) (mC (.str " "))) (mB1 bStr (aCons (mVar 2) aNil))) (mC (.str ",x")))) sPass) sPass) (sSeq (sRet (m2 (opBin false .Add) (m2 (opBin false .Add) (mVar 0) (mIf (bAnd (mB (m2 (opC .Eq) (mVar 1) (mC (.str "far")))) (mB (m2 (opC .Lt) (mVar 2) (mC (.int 256))))) (mC (.str " =")) (mC (.str " ")))) (mB1 bStr (aCons (mVar 2) aNil)))) sPass)))))
theorem sh38 (F : Nat → FM) : stepSs (semS G (semE G F fuel) fuel) (defGm d38) d38.body = s38 F := by kernel_rfl
def s39 (F : Nat → FM) : MS := (sSeq (sAsg (tName 2) (mDIx (mDisp ["none", "value", "near", "far", "by x", "jump"] (aCons (mC (.int 1)) (aCons (mC (.int 2)) (aCons (mC (.int 2)) (aCons (mC (.int 3)) (aCons (mC (.int 3)) (aCons (mC (.int 2)) aNil))))))) (mVar 1))) (sSeq (sAsg (tName 3) (mDGet (mDisp ["mul", "call", "back", "leave", "push", "pull", "inc", "dec", "swap"] (aCons (mC (.int 8)) (aCons (mC (.int 3)) (aCons (mC (.int 3)) (aCons (mC (.int 4)) (aCons (mC (.int 1)) (aCons (mC (.int 2)) (aCons (mC (.int 2)) (aCons (mC (.int 2)) (aCons (mC (.int 1)) aNil)))))))))) (mVar 0) (mC (.int 0)))) (sSeq (sRet (m2 (opBin false .Add) (m2 (opBin false .Add) (m2 (opBin false .Add) (mVar 2) (mVar 3)) (mB1 bInt (aCons (mAnd (m2 (opC .In) (mVar 1) (mLst false (aCons (mC (.str "near")) (aCons (mC (.str "far")) (aCons (mC (.str "by x")) aNil))))) (m2 (opC .NotIn) (mVar 0) (mLst false (aCons (mC (.str "jump")) (aCons (mC (.str "call")) aNil))))) aNil))) (mB1 bInt (aCons (m2 (opC .Eq) (mVar 1) (mC (.str "by x"))) aNil)))) sPass)))
theorem sh39 (F : Nat → FM) : stepSs (semS G (semE G F fuel) fuel) (defGm d39) d39.body = s39 F := by kernel_rfl
def s41 (F : Nat → FM) : MS := (sSeq (sForW (tName 1) (wVal (mCall 2 (F 23) (aCons (mVar 0) (aCons (mC (.int 1)) aNil)))) (sSeq (sIf (bOr (mB (m2 (opC .NotEq) (mLenD (mLc false [2] (tName 2) (wVal (mC cCODES)) bYes (mTup (aCons (mVar 2) (aCons (mC (.int 1)) aNil))))) (mB1 bLen (aCons (mC cCODES) aNil)))) (mB (m2 (opC .NotEq) (mLc false [3, 4] (tTup [(tName 3), (tName 4)]) (wVal (mC cCODES)) bYes (mCall 2 (F 8) (aCons (mVar 3) (aCons (mVar 4) aNil)))) (mRgL1 false (mB1 bLen (aCons (mC cCODES) aNil)))))) (sSeq (sRet (mC (.bl false))) sPass) sPass) (sSeq (sAsg (tTup [(tName 5), (tName 6), (tName 7), (tName 8)]) (mTup (aCons (mLst false aNil) (aCons (mLst false aNil) (aCons (mC (.int 0)) (aCons (mLst false aNil) aNil)))))) (sSeq (sForW (tName 9) (wRng (aCons (mCall 2 (F 22) (aCons (mVar 1) (aCons (mC (.int 8)) aNil))) aNil)) (sSeq (sAsg (tName 10) (mCall 2 (F 22) (aCons (mVar 1) (aCons (mB1 bLen (aCons (mC cCODES) aNil)) aNil)))) (sSeq (sAsg (tTup [(tName 3), (tName 4)]) (m2 opIx (mC cCODES) (mVar 10))) (sSeq (sAsg (tName 11) (m2 opIx (mLst false (aCons (mCall 2 (F 22) (aCons (mVar 1) (aCons (mC (.int 256)) aNil))) (aCons (mCall 2 (F 22) (aCons (mVar 1) (aCons (mC (.int 65536)) aNil))) (aCons (m2 (opBin false .Sub) (mCall 2 (F 22) (aCons (mVar 1) (aCons (mC (.int 256)) aNil))) (mC (.int 128))) aNil)))) (mCall 2 (F 22) (aCons (mVar 1) (aCons (mC (.int 3)) aNil))))) (sSeq (sAsg (tName 12) (mIf (mT (mCall 2 (F 25) (aCons (mVar 4) (aCons (mVar 11) aNil)))) (mCall 3 (F 26) (aCons (mVar 10) (aCons (mVar 4) (aCons (mVar 11) aNil)))) (mC (.str "CodeError")))) (sSeq (sIf (bOr (mB (m2 (opC .NotEq) (mTold1 (catchOf G 1) "CodeError" (mCall 3 (F 13) (aCons (mVar 3) (aCons (mVar 4) (aCons (mVar 11) aNil))))) (mVar 12))) (bOr (mB (m2 (opC .NotEq) (mCall 1 (F 9) (aCons (mVar 10) aNil)) (mTup (aCons (mVar 3) (aCons (mVar 4) aNil))))) (mB (m2 (opC .NotIn) (mVar 4) (mCall 1 (F 10) (aCons (mVar 3) aNil)))))) (sSeq (sRet (mC (.bl false))) sPass) sPass) (sSeq (sIf (bOr (mB (m2 (opC .NotEq) (mCall 1 (F 11) (aCons (mVar 10) aNil)) (mB1 bLen (aCons (mCall 3 (F 26) (aCons (mVar 10) (aCons (mVar 4) (aCons (mC (.int 0)) aNil)))) aNil)))) (mB (m2 (opC .NotEq) (mCall 1 (F 12) (aCons (mVar 10) aNil)) (mCall 2 (F 28) (aCons (mVar 3) (aCons (mVar 4) aNil)))))) (sSeq (sRet (mC (.bl false))) sPass) sPass) (sSeq (sIf (mB (m2 (opC .NotEq) (mVar 12) (mC (.str "CodeError")))) (sSeq (sAsg (tName 13) (mIf (mB (m2 (opC .Eq) (mVar 4) (mC (.str "none")))) (mC .non) (mVar 11))) (sSeq (sIf (bOr (mB (m2 (opC .NotEq) (mCall 2 (F 14) (aCons (mVar 12) (aCons (mC (.int 0)) aNil))) (mTup (aCons (mVar 3) (aCons (mVar 4) (aCons (mVar 13) (aCons (mB1 bLen (aCons (mVar 12) aNil)) aNil))))))) (mB (m2 (opC .NotEq) (mCall 2 (F 14) (aCons (m2 (opBin false .Add) (m2 (opBin false .Mult) (mLst false (aCons (mC (.int 7)) aNil)) (mVar 9)) (mB1 (bList false) (aCons (mVar 12) aNil))) (aCons (mVar 9) aNil))) (mTup (aCons (mVar 3) (aCons (mVar 4) (aCons (mVar 13) (aCons (mB1 bLen (aCons (mVar 12) aNil)) aNil)))))))) (sSeq (sRet (mC (.bl false))) sPass) sPass) (sSeq (sIf (bOr (mB (m2 (opC .NotEq) (mCall 3 (F 15) (aCons (mVar 3) (aCons (mVar 4) (aCons (mVar 13) aNil)))) (mCall 3 (F 27) (aCons (mVar 3) (aCons (mVar 4) (aCons (mVar 11) aNil)))))) (mB (m2 (opC .NotEq) (mTold1 (catchOf G 1) "CodeError" (mCall 2 (F 14) (aCons (mSl false (mVar 12) oNone (oSome (m1 unNeg (mC (.int 1))))) (aCons (mC (.int 0)) aNil)))) (mC (.str "CodeError"))))) (sSeq (sRet (mC (.bl false))) sPass) sPass) (sSeq (sAsg (tTup [(tName 6), (tName 5), (tName 7)]) (mTup (aCons (m2 (opBin false .Add) (mVar 6) (mLst false (aCons (mB1 bLen (aCons (mVar 5) aNil)) aNil))) (aCons (m2 (opBin false .Add) (mVar 5) (mB1 (bList false) (aCons (mVar 12) aNil))) (aCons (m2 (opBin false .Add) (mVar 7) (mCall 2 (F 28) (aCons (mVar 3) (aCons (mVar 4) aNil)))) aNil))))) (sSeq (sAsg (tName 8) (m2 (opBin false .Add) (mVar 8) (mLst false (aCons (mTup (aCons (mVar 3) (aCons (mVar 4) (aCons (mVar 13) aNil)))) aNil)))) sPass))))) sPass) sPass)))))))) (sSeq (sIf (bOr (mB (m2 (opC .NotEq) (mB1 (bList false) (aCons (mCall 1 (F 17) (aCons (mVar 5) aNil)) aNil)) (mVar 6))) (bOr (mB (m2 (opC .NotEq) (mCall 1 (F 18) (aCons (mVar 5) aNil)) (mVar 7))) (mB (m2 (opC .NotEq) (mLc false [14] (tName 14) (wVal (mVar 6)) bYes (mSl false (mCall 2 (F 14) (aCons (mVar 5) (aCons (mVar 14) aNil))) oNone (oSome (mC (.int 3))))) (mVar 8))))) (sSeq (sRet (mC (.bl false))) sPass) sPass) (sSeq (sAsg (tTup [(tName 14), (tName 15), (tName 16)]) (mTup (aCons (mCall 2 (F 22) (aCons (mVar 1) (aCons (mC (.int 400)) aNil))) (aCons (mCall 2 (F 22) (aCons (mVar 1) (aCons (mC (.int 400)) aNil))) (aCons (m2 (opBin false .Sub) (mCall 2 (F 22) (aCons (mVar 1) (aCons (mC (.int 256)) aNil))) (mC (.int 128))) aNil))))) (sSeq (sIf (mB (m2 (opC .NotEq) (mTold1 (catchOf G 1) "CodeError" (mCall 2 (F 19) (aCons (mVar 14) (aCons (mVar 15) aNil)))) (mIf (mB (mChain (opC .LtE) (opC .LtE) (m1 unNeg (mC (.int 128))) (m2 (opBin false .Sub) (m2 (opBin false .Sub) (mVar 15) (mVar 14)) (mC (.int 2))) (mC (.int 127)))) (m2 (opBin false .Sub) (m2 (opBin false .Sub) (mVar 15) (mVar 14)) (mC (.int 2))) (mC (.str "CodeError"))))) (sSeq (sRet (mC (.bl false))) sPass) sPass) (sSeq (sIf (bOr (mB (m2 (opC .NotEq) (mCall 2 (F 20) (aCons (mVar 14) (aCons (mVar 16) aNil))) (m2 (opBin false .Mod) (m2 (opBin false .Add) (m2 (opBin false .Add) (mVar 14) (mC (.int 2))) (mVar 16)) (mC (.int 65536))))) (mB (m2 (opC .NotEq) (mCall 2 (F 19) (aCons (mVar 14) (aCons (m2 (opBin false .Add) (m2 (opBin false .Add) (mVar 14) (mC (.int 2))) (mVar 16)) aNil))) (mVar 16)))) (sSeq (sRet (mC (.bl false))) sPass) sPass) (sSeq (sAsg (tName 3) (m2 opIx (m2 opIx (mC cCODES) (mCall 2 (F 22) (aCons (mVar 1) (aCons (mB1 bLen (aCons (mC cCODES) aNil)) aNil)))) (mC (.int 0)))) (sSeq (sIf (bOr (mB (m2 (opC .NotEq) (mB1 (bList false) (aCons (mCall 1 (F 10) (aCons (mVar 3) aNil)) aNil)) (mLc false [17, 4] (tTup [(tName 17), (tName 4)]) (wVal (mC cCODES)) (mB (m2 (opC .Eq) (mVar 17) (mVar 3))) (mVar 4)))) (mB (m2 (opC .NotEq) (mCall 2 (F 16) (aCons (mVar 3) (aCons (mVar 15) aNil))) (mAnd (m2 (opC .In) (mTup (aCons (mVar 3) (aCons (mC (.str "near")) aNil))) (mC cCODES)) (m2 (opC .Lt) (mVar 15) (mC (.int 256))))))) (sSeq (sRet (mC (.bl false))) sPass) sPass) sPass)))))))))) (sSeq (sRet (mCall 0 (F 29) aNil)) sPass))
theorem sh41 (F : Nat → FM) : stepSs (semS G (semE G F fuel) fuel) (defGm d41) d41.body = s41 F := by kernel_rfl
end K02
end Z

set_option Elab.async false
set_option linter.all false
set_option maxRecDepth 100000
set_option maxHeartbeats 4000000
namespace Z
open PySem
namespace K02
theorem check_byte (j : Nat) {n : Int} (h0 : 0 ≤ n) (h1 : n ≤ 255) : Ev G (j + 1) 0 [.int n] .non := by
  refine ev_of (d := d5) rfl rfl rfl sh5 rfl rfl (s' := []) ?_
  show runN 1 _ _ _ = _
  unfold s5
  simp only [runN, sSeq, sIf, sRet, sRetN, sExpr, sAsg, sRaise, sPass, sAug, sPar, putAll, tName, tTup, tAll, goOn, Z.R.out, Z.R.bind_ok, Z.R.bind_exc, Z.R.bind_bad, Z.R.of, Z.R.nx, mC, mVar, m1, m2, mB, mT, mNot, mAnd, mOr, mIf, bNot, bAnd, bOr, bIf, truthR, truth, mTup, mkT, mLst, mkL, aNil, aCons, mCall, mB1, opBin, ipOp, ipAdd, ipMul, opAdd, opSub, opMul, opFdiv, opMod, unNeg, opC, opCmp, op_eq_int, op_in2, op_inl2, mChain, bYes, wVal, wRng, wOf, wR, wipeE, big, List.map_cons, List.map_nil, List.length_cons, List.length_nil, List.replicate, List.cons_append, List.nil_append, List.getElem?_cons_zero, List.getElem?_cons_succ, List.set_cons_zero, List.set_cons_succ, if_true, if_false, decide_true, decide_false, Bool.not_true, Bool.not_false, Bool.true_and, Bool.and_true, Bool.false_and, Bool.and_false, Bool.or_false, Bool.false_or, Bool.true_or, Bool.or_true, Bool.xor_false, Bool.xor_true, Bool.false_xor, Bool.true_xor, Bool.false_eq_true, Bool.true_eq_false, ite_true, ite_false, line, Nat.reduceSub, Nat.reduceAdd, Int.reduceNeg, Int.reducePow, Int.reduceLT, Int.reduceLE, Int.reduceMul, Int.reduceAdd, Int.reduceSub, Int.reduceDiv, Int.reduceMod, Int.reduceEq, Nat.reduceLeDiff, Nat.reduceLT, Nat.reduceEqDiff, and_true, true_and, and_false, false_and, and_self, gt_iff_lt, ge_iff_le, h0, h1]
theorem check_word (j : Nat) {n : Int} (h0 : 0 ≤ n) (h1 : n ≤ 65535) : Ev G (j + 1) 1 [.int n] .non := by
  refine ev_of (d := d6) rfl rfl rfl sh6 rfl rfl (s' := []) ?_
  show runN 1 _ _ _ = _
  unfold s6
  simp only [runN, sSeq, sIf, sRet, sRetN, sExpr, sAsg, sRaise, sPass, sAug, sPar, putAll, tName, tTup, tAll, goOn, Z.R.out, Z.R.bind_ok, Z.R.bind_exc, Z.R.bind_bad, Z.R.of, Z.R.nx, mC, mVar, m1, m2, mB, mT, mNot, mAnd, mOr, mIf, bNot, bAnd, bOr, bIf, truthR, truth, mTup, mkT, mLst, mkL, aNil, aCons, mCall, mB1, opBin, ipOp, ipAdd, ipMul, opAdd, opSub, opMul, opFdiv, opMod, unNeg, opC, opCmp, op_eq_int, op_in2, op_inl2, mChain, bYes, wVal, wRng, wOf, wR, wipeE, big, List.map_cons, List.map_nil, List.length_cons, List.length_nil, List.replicate, List.cons_append, List.nil_append, List.getElem?_cons_zero, List.getElem?_cons_succ, List.set_cons_zero, List.set_cons_succ, if_true, if_false, decide_true, decide_false, Bool.not_true, Bool.not_false, Bool.true_and, Bool.and_true, Bool.false_and, Bool.and_false, Bool.or_false, Bool.false_or, Bool.true_or, Bool.or_true, Bool.xor_false, Bool.xor_true, Bool.false_xor, Bool.true_xor, Bool.false_eq_true, Bool.true_eq_false, ite_true, ite_false, line, Nat.reduceSub, Nat.reduceAdd, Int.reduceNeg, Int.reducePow, Int.reduceLT, Int.reduceLE, Int.reduceMul, Int.reduceAdd, Int.reduceSub, Int.reduceDiv, Int.reduceMod, Int.reduceEq, Nat.reduceLeDiff, Nat.reduceLT, Nat.reduceEqDiff, and_true, true_and, and_false, false_and, and_self, gt_iff_lt, ge_iff_le, h0, h1]
/-- an exception, at every store -/
def Ex (G : Prg) (j i : Nat) (ds : List D) (c : Nat) : Prop := ∀ s, prog G j i ds s = .exc c s
theorem ex_of {G : Prg} {i : Nat} {d : DefI} {m : (Nat → FM) → MS} {j : Nat} {ds : List D} {c : Nat} {s' : Sto} (hd : G.defs[i]? = some d) (hh : d.hold = false) (hl : d.lone = true) (hm : ∀ F, stepSs (semS G (semE G F fuel) fuel) (defGm d) d.body = m F) (hp : ds.all (pure? 12) = true)
    (h : runN d.N.length (m (prog G j)) ds [] = .exc c s') : Ex G (j + 1) i ds c := fun s => by
  rw [fn_of_sh hd hm, hh, if_neg Bool.false_ne_true, if_pos hl]
  unfold alone
  rw [if_pos hp, h]
theorem no_byte (j : Nat) {n : Int} (h : ¬ (0 ≤ n ∧ n ≤ 255)) : Ex G (j + 1) 0 [.int n] 0 := by
  refine ex_of (d := d5) rfl rfl rfl sh5 rfl (s' := []) ?_
  show runN 1 _ _ _ = _
  unfold s5
  by_cases h0 : 0 ≤ n
  · have h1 : ¬ n ≤ 255 := fun z => h ⟨h0, z⟩
    simp only [runN, sSeq, sIf, sRet, sRetN, sExpr, sAsg, sRaise, sPass, sAug, sPar, putAll, tName, tTup, tAll, goOn, Z.R.out, Z.R.bind_ok, Z.R.bind_exc, Z.R.bind_bad, Z.R.of, Z.R.nx, mC, mVar, m1, m2, mB, mT, mNot, mAnd, mOr, mIf, bNot, bAnd, bOr, bIf, truthR, truth, mTup, mkT, mLst, mkL, aNil, aCons, mCall, mB1, opBin, ipOp, ipAdd, ipMul, opAdd, opSub, opMul, opFdiv, opMod, unNeg, opC, opCmp, op_eq_int, op_in2, op_inl2, mChain, bYes, wVal, wRng, wOf, wR, wipeE, big, List.map_cons, List.map_nil, List.length_cons, List.length_nil, List.replicate, List.cons_append, List.nil_append, List.getElem?_cons_zero, List.getElem?_cons_succ, List.set_cons_zero, List.set_cons_succ, if_true, if_false, decide_true, decide_false, Bool.not_true, Bool.not_false, Bool.true_and, Bool.and_true, Bool.false_and, Bool.and_false, Bool.or_false, Bool.false_or, Bool.true_or, Bool.or_true, Bool.xor_false, Bool.xor_true, Bool.false_xor, Bool.true_xor, Bool.false_eq_true, Bool.true_eq_false, ite_true, ite_false, line, Nat.reduceSub, Nat.reduceAdd, Int.reduceNeg, Int.reducePow, Int.reduceLT, Int.reduceLE, Int.reduceMul, Int.reduceAdd, Int.reduceSub, Int.reduceDiv, Int.reduceMod, Int.reduceEq, Nat.reduceLeDiff, Nat.reduceLT, Nat.reduceEqDiff, and_true, true_and, and_false, false_and, and_self, gt_iff_lt, ge_iff_le, h0, h1]
  · simp only [runN, sSeq, sIf, sRet, sRetN, sExpr, sAsg, sRaise, sPass, sAug, sPar, putAll, tName, tTup, tAll, goOn, Z.R.out, Z.R.bind_ok, Z.R.bind_exc, Z.R.bind_bad, Z.R.of, Z.R.nx, mC, mVar, m1, m2, mB, mT, mNot, mAnd, mOr, mIf, bNot, bAnd, bOr, bIf, truthR, truth, mTup, mkT, mLst, mkL, aNil, aCons, mCall, mB1, opBin, ipOp, ipAdd, ipMul, opAdd, opSub, opMul, opFdiv, opMod, unNeg, opC, opCmp, op_eq_int, op_in2, op_inl2, mChain, bYes, wVal, wRng, wOf, wR, wipeE, big, List.map_cons, List.map_nil, List.length_cons, List.length_nil, List.replicate, List.cons_append, List.nil_append, List.getElem?_cons_zero, List.getElem?_cons_succ, List.set_cons_zero, List.set_cons_succ, if_true, if_false, decide_true, decide_false, Bool.not_true, Bool.not_false, Bool.true_and, Bool.and_true, Bool.false_and, Bool.and_false, Bool.or_false, Bool.false_or, Bool.true_or, Bool.or_true, Bool.xor_false, Bool.xor_true, Bool.false_xor, Bool.true_xor, Bool.false_eq_true, Bool.true_eq_false, ite_true, ite_false, line, Nat.reduceSub, Nat.reduceAdd, Int.reduceNeg, Int.reducePow, Int.reduceLT, Int.reduceLE, Int.reduceMul, Int.reduceAdd, Int.reduceSub, Int.reduceDiv, Int.reduceMod, Int.reduceEq, Nat.reduceLeDiff, Nat.reduceLT, Nat.reduceEqDiff, and_true, true_and, and_false, false_and, and_self, gt_iff_lt, ge_iff_le, h0]
theorem no_word (j : Nat) {n : Int} (h : ¬ (0 ≤ n ∧ n ≤ 65535)) : Ex G (j + 1) 1 [.int n] 0 := by
  refine ex_of (d := d6) rfl rfl rfl sh6 rfl (s' := []) ?_
  show runN 1 _ _ _ = _
  unfold s6
  by_cases h0 : 0 ≤ n
  · have h1 : ¬ n ≤ 65535 := fun z => h ⟨h0, z⟩
    simp only [runN, sSeq, sIf, sRet, sRetN, sExpr, sAsg, sRaise, sPass, sAug, sPar, putAll, tName, tTup, tAll, goOn, Z.R.out, Z.R.bind_ok, Z.R.bind_exc, Z.R.bind_bad, Z.R.of, Z.R.nx, mC, mVar, m1, m2, mB, mT, mNot, mAnd, mOr, mIf, bNot, bAnd, bOr, bIf, truthR, truth, mTup, mkT, mLst, mkL, aNil, aCons, mCall, mB1, opBin, ipOp, ipAdd, ipMul, opAdd, opSub, opMul, opFdiv, opMod, unNeg, opC, opCmp, op_eq_int, op_in2, op_inl2, mChain, bYes, wVal, wRng, wOf, wR, wipeE, big, List.map_cons, List.map_nil, List.length_cons, List.length_nil, List.replicate, List.cons_append, List.nil_append, List.getElem?_cons_zero, List.getElem?_cons_succ, List.set_cons_zero, List.set_cons_succ, if_true, if_false, decide_true, decide_false, Bool.not_true, Bool.not_false, Bool.true_and, Bool.and_true, Bool.false_and, Bool.and_false, Bool.or_false, Bool.false_or, Bool.true_or, Bool.or_true, Bool.xor_false, Bool.xor_true, Bool.false_xor, Bool.true_xor, Bool.false_eq_true, Bool.true_eq_false, ite_true, ite_false, line, Nat.reduceSub, Nat.reduceAdd, Int.reduceNeg, Int.reducePow, Int.reduceLT, Int.reduceLE, Int.reduceMul, Int.reduceAdd, Int.reduceSub, Int.reduceDiv, Int.reduceMod, Int.reduceEq, Nat.reduceLeDiff, Nat.reduceLT, Nat.reduceEqDiff, and_true, true_and, and_false, false_and, and_self, gt_iff_lt, ge_iff_le, h0, h1]
  · simp only [runN, sSeq, sIf, sRet, sRetN, sExpr, sAsg, sRaise, sPass, sAug, sPar, putAll, tName, tTup, tAll, goOn, Z.R.out, Z.R.bind_ok, Z.R.bind_exc, Z.R.bind_bad, Z.R.of, Z.R.nx, mC, mVar, m1, m2, mB, mT, mNot, mAnd, mOr, mIf, bNot, bAnd, bOr, bIf, truthR, truth, mTup, mkT, mLst, mkL, aNil, aCons, mCall, mB1, opBin, ipOp, ipAdd, ipMul, opAdd, opSub, opMul, opFdiv, opMod, unNeg, opC, opCmp, op_eq_int, op_in2, op_inl2, mChain, bYes, wVal, wRng, wOf, wR, wipeE, big, List.map_cons, List.map_nil, List.length_cons, List.length_nil, List.replicate, List.cons_append, List.nil_append, List.getElem?_cons_zero, List.getElem?_cons_succ, List.set_cons_zero, List.set_cons_succ, if_true, if_false, decide_true, decide_false, Bool.not_true, Bool.not_false, Bool.true_and, Bool.and_true, Bool.false_and, Bool.and_false, Bool.or_false, Bool.false_or, Bool.true_or, Bool.or_true, Bool.xor_false, Bool.xor_true, Bool.false_xor, Bool.true_xor, Bool.false_eq_true, Bool.true_eq_false, ite_true, ite_false, line, Nat.reduceSub, Nat.reduceAdd, Int.reduceNeg, Int.reducePow, Int.reduceLT, Int.reduceLE, Int.reduceMul, Int.reduceAdd, Int.reduceSub, Int.reduceDiv, Int.reduceMod, Int.reduceEq, Nat.reduceLeDiff, Nat.reduceLT, Nat.reduceEqDiff, and_true, true_and, and_false, false_and, and_self, gt_iff_lt, ge_iff_le, h0]
def isIv (r : R D) (i : Int) : Bool := match r with
  | .ok (.int j) _ => decide (i = j)
  | _ => false
theorem isIv_ok {r : R D} {i : Int} (h : isIv r i = true) : ∃ s, r = .ok (.int i) s := by
  unfold isIv at h
  split at h
  · exact ⟨_, by rw [of_decide_eq_true h]⟩
  · cases h
def allTo (p : Nat → Bool) : Nat → Bool
  | 0 => true
  | n + 1 => p n && allTo p n
theorem allTo_ok {p : Nat → Bool} : ∀ {n k : Nat}, allTo p n = true → k < n → p k = true
  | n + 1, k, h, hk => by
    unfold allTo at h
    obtain ⟨h1, h2⟩ := and_t h
    rcases Nat.lt_succ_iff_lt_or_eq.mp hk with q | q
    · exact allTo_ok h2 q
    · rw [q]; exact h1
theorem pw8 (j : Nat) : Ev G (j + 1) 3 [.int 8] (.int 256) := by
  refine ev_of (d := d8) rfl rfl rfl sh8 rfl rfl (s' := []) ?_
  show runN 3 (s8 fun _ _ _ => .bad) [.int 8] [] = _
  kernel_rfl
theorem pw7 (j : Nat) : Ev G (j + 1) 3 [.int 7] (.int 128) := by
  refine ev_of (d := d8) rfl rfl rfl sh8 rfl rfl (s' := []) ?_
  show runN 3 (s8 fun _ _ _ => .bad) [.int 7] [] = _
  kernel_rfl
theorem check_bits (j : Nat) {n : Int} (h0 : 0 ≤ n) (h1 : n < 256) : Ev G (j + 2) 2 [.int n, .int 8] .non := by
  refine ev_of (d := d7) rfl rfl rfl sh7 rfl rfl (s' := []) ?_
  show runN 2 _ _ _ = _
  unfold s7
  simp only [runN, sSeq, sIf, sRet, sRetN, sExpr, sAsg, sRaise, sPass, sAug, sPar, putAll, tName, tTup, tAll, goOn, Z.R.out, Z.R.bind_ok, Z.R.bind_exc, Z.R.bind_bad, Z.R.of, Z.R.nx, mC, mVar, m1, m2, mB, mT, mNot, mAnd, mOr, mIf, bNot, bAnd, bOr, bIf, truthR, truth, mTup, mkT, mLst, mkL, aNil, aCons, mCall, mB1, opBin, ipOp, ipAdd, ipMul, opAdd, opSub, opMul, opFdiv, opMod, unNeg, opC, opCmp, op_eq_int, op_in2, op_inl2, mChain, bYes, wVal, wRng, wOf, wR, wipeE, big, List.map_cons, List.map_nil, List.length_cons, List.length_nil, List.replicate, List.cons_append, List.nil_append, List.getElem?_cons_zero, List.getElem?_cons_succ, List.set_cons_zero, List.set_cons_succ, if_true, if_false, decide_true, decide_false, Bool.not_true, Bool.not_false, Bool.true_and, Bool.and_true, Bool.false_and, Bool.and_false, Bool.or_false, Bool.false_or, Bool.true_or, Bool.or_true, Bool.xor_false, Bool.xor_true, Bool.false_xor, Bool.true_xor, Bool.false_eq_true, Bool.true_eq_false, ite_true, ite_false, line, Nat.reduceSub, Nat.reduceAdd, Int.reduceNeg, Int.reducePow, Int.reduceLT, Int.reduceLE, Int.reduceMul, Int.reduceAdd, Int.reduceSub, Int.reduceDiv, Int.reduceMod, Int.reduceEq, Nat.reduceLeDiff, Nat.reduceLT, Nat.reduceEqDiff, and_true, true_and, and_false, false_and, and_self, gt_iff_lt, ge_iff_le, h0, h1, pw8 j _]
def sg (n : Int) : Int := if 128 ≤ n then n - 256 else n
theorem signed8 (j : Nat) {n : Int} (h0 : 0 ≤ n) (h1 : n ≤ 255) : Ev G (j + 3) 4 [.int n, .int 8] (.int (sg n)) := by
  refine ev_of (d := d9) rfl rfl rfl sh9 rfl rfl (s' := []) ?_
  show runN 3 _ _ _ = _
  unfold s9
  have hc := check_bits j (n := n) h0 (by omega)
  have hp := pw7 (j + 1)
  have bg : -(2 ^ 64) < (2 : Int) ∧ (2 : Int) < 2 ^ 64 := by decide
  unfold sg
  by_cases h : 128 ≤ n
  · simp only [runN, sSeq, sIf, sRet, sRetN, sExpr, sAsg, sRaise, sPass, sAug, sPar, putAll, tName, tTup, tAll, goOn, Z.R.out, Z.R.bind_ok, Z.R.bind_exc, Z.R.bind_bad, Z.R.of, Z.R.nx, mC, mVar, m1, m2, mB, mT, mNot, mAnd, mOr, mIf, bNot, bAnd, bOr, bIf, truthR, truth, mTup, mkT, mLst, mkL, aNil, aCons, mCall, mB1, opBin, ipOp, ipAdd, ipMul, opAdd, opSub, opMul, opFdiv, opMod, unNeg, opC, opCmp, op_eq_int, op_in2, op_inl2, mChain, bYes, wVal, wRng, wOf, wR, wipeE, big, List.map_cons, List.map_nil, List.length_cons, List.length_nil, List.replicate, List.cons_append, List.nil_append, List.getElem?_cons_zero, List.getElem?_cons_succ, List.set_cons_zero, List.set_cons_succ, if_true, if_false, decide_true, decide_false, Bool.not_true, Bool.not_false, Bool.true_and, Bool.and_true, Bool.false_and, Bool.and_false, Bool.or_false, Bool.false_or, Bool.true_or, Bool.or_true, Bool.xor_false, Bool.xor_true, Bool.false_xor, Bool.true_xor, Bool.false_eq_true, Bool.true_eq_false, ite_true, ite_false, line, Nat.reduceSub, Nat.reduceAdd, Int.reduceNeg, Int.reducePow, Int.reduceLT, Int.reduceLE, Int.reduceMul, Int.reduceAdd, Int.reduceSub, Int.reduceDiv, Int.reduceMod, Int.reduceEq, Nat.reduceLeDiff, Nat.reduceLT, Nat.reduceEqDiff, and_true, true_and, and_false, false_and, and_self, gt_iff_lt, ge_iff_le, hc _, hp _, h, bg]
  · simp only [runN, sSeq, sIf, sRet, sRetN, sExpr, sAsg, sRaise, sPass, sAug, sPar, putAll, tName, tTup, tAll, goOn, Z.R.out, Z.R.bind_ok, Z.R.bind_exc, Z.R.bind_bad, Z.R.of, Z.R.nx, mC, mVar, m1, m2, mB, mT, mNot, mAnd, mOr, mIf, bNot, bAnd, bOr, bIf, truthR, truth, mTup, mkT, mLst, mkL, aNil, aCons, mCall, mB1, opBin, ipOp, ipAdd, ipMul, opAdd, opSub, opMul, opFdiv, opMod, unNeg, opC, opCmp, op_eq_int, op_in2, op_inl2, mChain, bYes, wVal, wRng, wOf, wR, wipeE, big, List.map_cons, List.map_nil, List.length_cons, List.length_nil, List.replicate, List.cons_append, List.nil_append, List.getElem?_cons_zero, List.getElem?_cons_succ, List.set_cons_zero, List.set_cons_succ, if_true, if_false, decide_true, decide_false, Bool.not_true, Bool.not_false, Bool.true_and, Bool.and_true, Bool.false_and, Bool.and_false, Bool.or_false, Bool.false_or, Bool.true_or, Bool.or_true, Bool.xor_false, Bool.xor_true, Bool.false_xor, Bool.true_xor, Bool.false_eq_true, Bool.true_eq_false, ite_true, ite_false, line, Nat.reduceSub, Nat.reduceAdd, Int.reduceNeg, Int.reducePow, Int.reduceLT, Int.reduceLE, Int.reduceMul, Int.reduceAdd, Int.reduceSub, Int.reduceDiv, Int.reduceMod, Int.reduceEq, Nat.reduceLeDiff, Nat.reduceLT, Nat.reduceEqDiff, and_true, true_and, and_false, false_and, and_self, gt_iff_lt, ge_iff_le, hc _, hp _, h, bg]
theorem plain8 (j : Nat) {n : Int} (h0 : -128 ≤ n) (h1 : n ≤ 127) : Ev G (j + 2) 5 [.int n, .int 8] (.int (n % 256)) := by
  refine ev_of (d := d10) rfl rfl rfl sh10 rfl rfl (s' := []) ?_
  show runN 2 _ _ _ = _
  unfold s10
  have q1 : (0 : Int) - 128 ≤ n := by omega
  have q2 : n < 128 := by omega
  simp only [runN, sSeq, sIf, sRet, sRetN, sExpr, sAsg, sRaise, sPass, sAug, sPar, putAll, tName, tTup, tAll, goOn, Z.R.out, Z.R.bind_ok, Z.R.bind_exc, Z.R.bind_bad, Z.R.of, Z.R.nx, mC, mVar, m1, m2, mB, mT, mNot, mAnd, mOr, mIf, bNot, bAnd, bOr, bIf, truthR, truth, mTup, mkT, mLst, mkL, aNil, aCons, mCall, mB1, opBin, ipOp, ipAdd, ipMul, opAdd, opSub, opMul, opFdiv, opMod, unNeg, opC, opCmp, op_eq_int, op_in2, op_inl2, mChain, bYes, wVal, wRng, wOf, wR, wipeE, big, List.map_cons, List.map_nil, List.length_cons, List.length_nil, List.replicate, List.cons_append, List.nil_append, List.getElem?_cons_zero, List.getElem?_cons_succ, List.set_cons_zero, List.set_cons_succ, if_true, if_false, decide_true, decide_false, Bool.not_true, Bool.not_false, Bool.true_and, Bool.and_true, Bool.false_and, Bool.and_false, Bool.or_false, Bool.false_or, Bool.true_or, Bool.or_true, Bool.xor_false, Bool.xor_true, Bool.false_xor, Bool.true_xor, Bool.false_eq_true, Bool.true_eq_false, ite_true, ite_false, line, Nat.reduceSub, Nat.reduceAdd, Int.reduceNeg, Int.reducePow, Int.reduceLT, Int.reduceLE, Int.reduceMul, Int.reduceAdd, Int.reduceSub, Int.reduceDiv, Int.reduceMod, Int.reduceEq, Nat.reduceLeDiff, Nat.reduceLT, Nat.reduceEqDiff, and_true, true_and, and_false, false_and, and_self, gt_iff_lt, ge_iff_le, pw7 j _, pw8 j _, q1, q2, h0]
theorem no_plain8 (j : Nat) {n : Int} (h : ¬ (-128 ≤ n ∧ n ≤ 127)) : Ex G (j + 2) 5 [.int n, .int 8] 0 := by
  refine ex_of (d := d10) rfl rfl rfl sh10 rfl (s' := []) ?_
  show runN 2 _ _ _ = _
  unfold s10
  by_cases h0 : -128 ≤ n
  · have q1 : (0 : Int) - 128 ≤ n := by omega
    have q2 : ¬ n < 128 := by omega
    simp only [runN, sSeq, sIf, sRet, sRetN, sExpr, sAsg, sRaise, sPass, sAug, sPar, putAll, tName, tTup, tAll, goOn, Z.R.out, Z.R.bind_ok, Z.R.bind_exc, Z.R.bind_bad, Z.R.of, Z.R.nx, mC, mVar, m1, m2, mB, mT, mNot, mAnd, mOr, mIf, bNot, bAnd, bOr, bIf, truthR, truth, mTup, mkT, mLst, mkL, aNil, aCons, mCall, mB1, opBin, ipOp, ipAdd, ipMul, opAdd, opSub, opMul, opFdiv, opMod, unNeg, opC, opCmp, op_eq_int, op_in2, op_inl2, mChain, bYes, wVal, wRng, wOf, wR, wipeE, big, List.map_cons, List.map_nil, List.length_cons, List.length_nil, List.replicate, List.cons_append, List.nil_append, List.getElem?_cons_zero, List.getElem?_cons_succ, List.set_cons_zero, List.set_cons_succ, if_true, if_false, decide_true, decide_false, Bool.not_true, Bool.not_false, Bool.true_and, Bool.and_true, Bool.false_and, Bool.and_false, Bool.or_false, Bool.false_or, Bool.true_or, Bool.or_true, Bool.xor_false, Bool.xor_true, Bool.false_xor, Bool.true_xor, Bool.false_eq_true, Bool.true_eq_false, ite_true, ite_false, line, Nat.reduceSub, Nat.reduceAdd, Int.reduceNeg, Int.reducePow, Int.reduceLT, Int.reduceLE, Int.reduceMul, Int.reduceAdd, Int.reduceSub, Int.reduceDiv, Int.reduceMod, Int.reduceEq, Nat.reduceLeDiff, Nat.reduceLT, Nat.reduceEqDiff, and_true, true_and, and_false, false_and, and_self, gt_iff_lt, ge_iff_le, pw7 j _, pw8 j _, q1, q2, h0]
  · have q1 : ¬ ((0 : Int) - 128 ≤ n) := by omega
    simp only [runN, sSeq, sIf, sRet, sRetN, sExpr, sAsg, sRaise, sPass, sAug, sPar, putAll, tName, tTup, tAll, goOn, Z.R.out, Z.R.bind_ok, Z.R.bind_exc, Z.R.bind_bad, Z.R.of, Z.R.nx, mC, mVar, m1, m2, mB, mT, mNot, mAnd, mOr, mIf, bNot, bAnd, bOr, bIf, truthR, truth, mTup, mkT, mLst, mkL, aNil, aCons, mCall, mB1, opBin, ipOp, ipAdd, ipMul, opAdd, opSub, opMul, opFdiv, opMod, unNeg, opC, opCmp, op_eq_int, op_in2, op_inl2, mChain, bYes, wVal, wRng, wOf, wR, wipeE, big, List.map_cons, List.map_nil, List.length_cons, List.length_nil, List.replicate, List.cons_append, List.nil_append, List.getElem?_cons_zero, List.getElem?_cons_succ, List.set_cons_zero, List.set_cons_succ, if_true, if_false, decide_true, decide_false, Bool.not_true, Bool.not_false, Bool.true_and, Bool.and_true, Bool.false_and, Bool.and_false, Bool.or_false, Bool.false_or, Bool.true_or, Bool.or_true, Bool.xor_false, Bool.xor_true, Bool.false_xor, Bool.true_xor, Bool.false_eq_true, Bool.true_eq_false, ite_true, ite_false, line, Nat.reduceSub, Nat.reduceAdd, Int.reduceNeg, Int.reducePow, Int.reduceLT, Int.reduceLE, Int.reduceMul, Int.reduceAdd, Int.reduceSub, Int.reduceDiv, Int.reduceMod, Int.reduceEq, Nat.reduceLeDiff, Nat.reduceLT, Nat.reduceEqDiff, and_true, true_and, and_false, false_and, and_self, gt_iff_lt, ge_iff_le, pw7 j _, pw8 j _, q1, h0]
theorem halves_of (j : Nat) {a : Int} (a0 : 0 ≤ a) (a1 : a ≤ 65535) : Ev G (j + 2) 6 [.int a] (.tup [.int (a / 256), .int (a % 256)]) := by
  refine ev_of (d := d11) rfl rfl rfl sh11 rfl rfl (s' := []) ?_
  show runN 1 _ _ _ = _
  unfold s11
  have e1 : (0 : Int) < 256 := by decide
  have e2 : ((0 : Int) < 256 ∧ (256 : Int) < 1073741824) := by decide
  simp only [runN, sSeq, sIf, sRet, sRetN, sExpr, sAsg, sRaise, sPass, sAug, sPar, putAll, tName, tTup, tAll, goOn, Z.R.out, Z.R.bind_ok, Z.R.bind_exc, Z.R.bind_bad, Z.R.of, Z.R.nx, mC, mVar, m1, m2, mB, mT, mNot, mAnd, mOr, mIf, bNot, bAnd, bOr, bIf, truthR, truth, mTup, mkT, mLst, mkL, aNil, aCons, mCall, mB1, opBin, ipOp, ipAdd, ipMul, opAdd, opSub, opMul, opFdiv, opMod, unNeg, opC, opCmp, op_eq_int, op_in2, op_inl2, mChain, bYes, wVal, wRng, wOf, wR, wipeE, big, List.map_cons, List.map_nil, List.length_cons, List.length_nil, List.replicate, List.cons_append, List.nil_append, List.getElem?_cons_zero, List.getElem?_cons_succ, List.set_cons_zero, List.set_cons_succ, if_true, if_false, decide_true, decide_false, Bool.not_true, Bool.not_false, Bool.true_and, Bool.and_true, Bool.false_and, Bool.and_false, Bool.or_false, Bool.false_or, Bool.true_or, Bool.or_true, Bool.xor_false, Bool.xor_true, Bool.false_xor, Bool.true_xor, Bool.false_eq_true, Bool.true_eq_false, ite_true, ite_false, line, Nat.reduceSub, Nat.reduceAdd, Int.reduceNeg, Int.reducePow, Int.reduceLT, Int.reduceLE, Int.reduceMul, Int.reduceAdd, Int.reduceSub, Int.reduceDiv, Int.reduceMod, Int.reduceEq, Nat.reduceLeDiff, Nat.reduceLT, Nat.reduceEqDiff, and_true, true_and, and_false, false_and, and_self, gt_iff_lt, ge_iff_le, check_word j a0 a1 _, e1, e2, and_self]
theorem no_halves (j : Nat) {a : Int} (h : ¬ (0 ≤ a ∧ a ≤ 65535)) : Ex G (j + 2) 6 [.int a] 0 := by
  refine ex_of (d := d11) rfl rfl rfl sh11 rfl (s' := []) ?_
  show runN 1 _ _ _ = _
  unfold s11
  simp only [runN, sSeq, sIf, sRet, sRetN, sExpr, sAsg, sRaise, sPass, sAug, sPar, putAll, tName, tTup, tAll, goOn, Z.R.out, Z.R.bind_ok, Z.R.bind_exc, Z.R.bind_bad, Z.R.of, Z.R.nx, mC, mVar, m1, m2, mB, mT, mNot, mAnd, mOr, mIf, bNot, bAnd, bOr, bIf, truthR, truth, mTup, mkT, mLst, mkL, aNil, aCons, mCall, mB1, opBin, ipOp, ipAdd, ipMul, opAdd, opSub, opMul, opFdiv, opMod, unNeg, opC, opCmp, op_eq_int, op_in2, op_inl2, mChain, bYes, wVal, wRng, wOf, wR, wipeE, big, List.map_cons, List.map_nil, List.length_cons, List.length_nil, List.replicate, List.cons_append, List.nil_append, List.getElem?_cons_zero, List.getElem?_cons_succ, List.set_cons_zero, List.set_cons_succ, if_true, if_false, decide_true, decide_false, Bool.not_true, Bool.not_false, Bool.true_and, Bool.and_true, Bool.false_and, Bool.and_false, Bool.or_false, Bool.false_or, Bool.true_or, Bool.or_true, Bool.xor_false, Bool.xor_true, Bool.false_xor, Bool.true_xor, Bool.false_eq_true, Bool.true_eq_false, ite_true, ite_false, line, Nat.reduceSub, Nat.reduceAdd, Int.reduceNeg, Int.reducePow, Int.reduceLT, Int.reduceLE, Int.reduceMul, Int.reduceAdd, Int.reduceSub, Int.reduceDiv, Int.reduceMod, Int.reduceEq, Nat.reduceLeDiff, Nat.reduceLT, Nat.reduceEqDiff, and_true, true_and, and_false, false_and, and_self, gt_iff_lt, ge_iff_le, no_word j h _]
theorem joined (j : Nat) {a b : Int} (a0 : 0 ≤ a) (a1 : a ≤ 255) (b0 : 0 ≤ b) (b1 : b ≤ 255) : Ev G (j + 2) 7 [.int a, .int b] (.int (a * 256 + b)) := by
  refine ev_of (d := d12) rfl rfl rfl sh12 rfl rfl (s' := []) ?_
  show runN 2 _ _ _ = _
  unfold s12
  have bg : -(2 ^ 64) < (256 : Int) ∧ (256 : Int) < 2 ^ 64 := by decide
  simp only [runN, sSeq, sIf, sRet, sRetN, sExpr, sAsg, sRaise, sPass, sAug, sPar, putAll, tName, tTup, tAll, goOn, Z.R.out, Z.R.bind_ok, Z.R.bind_exc, Z.R.bind_bad, Z.R.of, Z.R.nx, mC, mVar, m1, m2, mB, mT, mNot, mAnd, mOr, mIf, bNot, bAnd, bOr, bIf, truthR, truth, mTup, mkT, mLst, mkL, aNil, aCons, mCall, mB1, opBin, ipOp, ipAdd, ipMul, opAdd, opSub, opMul, opFdiv, opMod, unNeg, opC, opCmp, op_eq_int, op_in2, op_inl2, mChain, bYes, wVal, wRng, wOf, wR, wipeE, big, List.map_cons, List.map_nil, List.length_cons, List.length_nil, List.replicate, List.cons_append, List.nil_append, List.getElem?_cons_zero, List.getElem?_cons_succ, List.set_cons_zero, List.set_cons_succ, if_true, if_false, decide_true, decide_false, Bool.not_true, Bool.not_false, Bool.true_and, Bool.and_true, Bool.false_and, Bool.and_false, Bool.or_false, Bool.false_or, Bool.true_or, Bool.or_true, Bool.xor_false, Bool.xor_true, Bool.false_xor, Bool.true_xor, Bool.false_eq_true, Bool.true_eq_false, ite_true, ite_false, line, Nat.reduceSub, Nat.reduceAdd, Int.reduceNeg, Int.reducePow, Int.reduceLT, Int.reduceLE, Int.reduceMul, Int.reduceAdd, Int.reduceSub, Int.reduceDiv, Int.reduceMod, Int.reduceEq, Nat.reduceLeDiff, Nat.reduceLT, Nat.reduceEqDiff, and_true, true_and, and_false, false_and, and_self, gt_iff_lt, ge_iff_le, check_byte j a0 a1 _, check_byte j b0 b1 _, bg, and_self]
/-! ### the codes -/
def ws : Nat → Str
  | 0 => "none"
  | 1 => "value"
  | 2 => "near"
  | 3 => "far"
  | 4 => "by x"
  | _ => "jump"
def sz : Nat → Nat
  | 0 => 1
  | 1 => 2
  | 2 => 2
  | 3 => 3
  | 4 => 3
  | _ => 2
def wkOf (w : Str) : Nat := if seq w "none" then 0 else if seq w "value" then 1 else if seq w "near" then 2 else if seq w "far" then 3 else if seq w "by x" then 4 else 5
def nmS (c : Nat) : Str := match tCODES[c]? with
  | some (.tup [.str n, _]) => n
  | _ => ""
def wk (c : Nat) : Nat := match tCODES[c]? with
  | some (.tup [_, .str w]) => wkOf w
  | _ => 0
def cdB (c : Nat) : Bool := (match tCODES[c]? with
  | some (.tup [.str n, .str w]) => seq n (nmS c) && seq w (ws (wk c))
  | _ => false) && decide (wk c < 6) && strB (nmS c) && decide ((nmS c).length ≤ 10)
theorem cd_all : allTo cdB 56 = true := by decide +kernel
theorem code_at {c : Nat} (h : c < 56) : tCODES[c]? = some (.tup [.str (nmS c), .str (ws (wk c))]) ∧ wk c < 6 ∧ strB (nmS c) = true ∧ (nmS c).length ≤ 10 := by
  have q := allTo_ok cd_all h
  unfold cdB at q
  obtain ⟨q, q4⟩ := and_t q
  obtain ⟨q, q3⟩ := and_t q
  obtain ⟨q1, q2⟩ := and_t q
  refine ⟨?_, of_decide_eq_true q2, q3, of_decide_eq_true q4⟩
  split at q1
  · rename_i n w e
    obtain ⟨a, b⟩ := and_t q1
    rw [← seq_iff.mp a, ← seq_iff.mp b]
    exact e
  · cases q1
theorem code_of_all : allTo (fun c => isIv (runN 2 (s18 fun _ _ _ => .bad) [.str (nmS c), .str (ws (wk c))] []) (Int.ofNat c)) 56 = true := by decide +kernel
theorem code_of (j : Nat) {c : Nat} (h : c < 56) : Ev G (j + 1) 8 [.str (nmS c), .str (ws (wk c))] (.int (Int.ofNat c)) := by
  obtain ⟨s', e⟩ := isIv_ok (allTo_ok code_of_all h)
  exact ev_of (d := d18) rfl rfl rfl sh18 rfl rfl (s' := s') e
def isP (r : R D) (n w : Str) : Bool := match r with
  | .ok (.tup [.str a, .str b]) _ => seq a n && seq b w
  | _ => false
theorem isP_ok {r : R D} {n w : Str} (h : isP r n w = true) : ∃ s, r = .ok (.tup [.str n, .str w]) s := by
  unfold isP at h
  split at h
  · obtain ⟨a, b⟩ := and_t h
    exact ⟨_, by rw [seq_iff.mp a, seq_iff.mp b]⟩
  · cases h
theorem named_all : allTo (fun c => isP (runN 1 (s19 fun _ _ _ => .bad) [.int (Int.ofNat c)] []) (nmS c) (ws (wk c))) 56 = true := by decide +kernel
theorem named_code (j : Nat) {c : Nat} (h : c < 56) : Ev G (j + 1) 9 [.int (Int.ofNat c)] (.tup [.str (nmS c), .str (ws (wk c))]) := by
  obtain ⟨s', e⟩ := isP_ok (allTo_ok named_all h)
  exact ev_of (d := d19) rfl rfl rfl sh19 rfl rfl (s' := s') e
theorem size_all (j : Nat) : allTo (fun c => isIv (runN 1 (s21 (prog G (j + 1))) [.int (Int.ofNat c)] []) (Int.ofNat (sz (wk c)))) 56 = true := by kernel_rfl
theorem size_of (j : Nat) {c : Nat} (h : c < 56) : Ev G (j + 2) 11 [.int (Int.ofNat c)] (.int (Int.ofNat (sz (wk c)))) := by
  obtain ⟨s', e⟩ := isIv_ok (allTo_ok (size_all j) h)
  exact ev_of (d := d21) rfl rfl rfl sh21 rfl rfl (s' := s') e
/-- the steps of a code -/
def stp (c : Nat) : Int := match runN 4 (s22 (prog G 1)) [.int (Int.ofNat c)] [] with
  | .ok (.int i) _ => i
  | _ => 0
theorem steps_all (j : Nat) : allTo (fun c => isIv (runN 4 (s22 (prog G (j + 1))) [.int (Int.ofNat c)] []) (stp c)) 56 = true := by kernel_rfl
theorem steps_of (j : Nat) {c : Nat} (h : c < 56) : Ev G (j + 2) 12 [.int (Int.ofNat c)] (.int (stp c)) := by
  obtain ⟨s', e⟩ := isIv_ok (allTo_ok (steps_all j) h)
  exact ev_of (d := d22) rfl rfl rfl sh22 rfl rfl (s' := s') e
end K02
end Z

set_option Elab.async false
set_option linter.all false
set_option maxRecDepth 100000
set_option maxHeartbeats 4000000
namespace Z
open PySem
namespace K02
/-! ### texts -/
theorem ap_assoc (a b c : Str) : (a ++ b) ++ c = a ++ (b ++ c) := by
  show Str.mk ((a.cps ++ b.cps) ++ c.cps) = Str.mk (a.cps ++ (b.cps ++ c.cps))
  rw [Array.append_assoc]
theorem em_ap (a : Str) : Str.empty ++ a = a := by
  show Str.mk (#[] ++ a.cps) = a
  rw [Array.empty_append]
theorem len_ap (a b : Str) : (a ++ b).length = a.length + b.length := by
  show (a.cps ++ b.cps).size = _
  rw [Array.size_append]; rfl
theorem strB_ap {a b : Str} (h1 : strB a = true) (h2 : strB b = true) : strB (a ++ b) = true := by
  unfold strB at *
  show ((a.cps ++ b.cps).toList.all fun c => decide (c < 1114112)) = true
  rw [Array.toList_append, List.all_append, h1, h2]; rfl
theorem strB_of (x : String) : strB (Str.ofString x) = true := by
  unfold strB
  rw [Str.ofString_eq_toList]
  show ((x.toList.map Char.toNat).toArray.toList.all fun c => decide (c < 1114112)) = true
  rw [List.all_eq_true]
  intro c hc
  obtain ⟨ch, _, rfl⟩ := List.mem_map.mp (by simpa using hc)
  have h := ch.valid
  simp only [UInt32.isValidChar, Nat.isValidChar] at h
  have ht : ch.toNat = ch.val.toNat := rfl
  rw [decide_eq_true_eq]
  omega
theorem len_of (x : String) : (Str.ofString x).length = x.length := by
  rw [Str.ofString_eq_toList]
  show (x.toList.map Char.toNat).toArray.size = _
  rw [List.size_toArray, List.length_map]
  exact String.length_toList
theorem len_int {v : Int} (h0 : -100000 < v) (h1 : v < 100000) : (Str.ofString (toString v)).length ≤ 6 := by
  rw [len_of]
  have key : ∀ n : Nat, n < 100000 → (Nat.repr n).length ≤ 5 := fun n hn => (Nat.length_repr_le_iff (by decide)).mpr (by omega)
  cases v with
  | ofNat n =>
    have hn : n < 100000 := Int.ofNat_lt.mp h1
    have := key n hn
    show (Nat.repr n).length ≤ 6
    omega
  | negSucc n =>
    have hn : n + 1 < 100000 := by
      rw [Int.negSucc_eq] at h0
      omega
    have := key (n + 1) hn
    show ("-" ++ Nat.repr (n + 1)).length ≤ 6
    rw [String.length_append]
    have : ("-" : String).length = 1 := by decide
    omega
theorem log_int {v : Int} (h0 : -100000 < v) (h1 : v < 100000) : v.natAbs.log2 < 1920 := by
  have h : v.natAbs < 2 ^ 17 := by omega
  have : v.natAbs.log2 < 17 ∨ v.natAbs = 0 := by
    by_cases z : v.natAbs = 0
    · exact .inr z
    · exact .inl ((Nat.log2_lt z).mpr h)
  rcases this with z | z
  · omega
  · rw [z]; decide
theorem w_eq (a b : Str) (r : Bool) (h : (strB a && strB b && (decide (a = b) == r)) = true) (n : Bool) (s : Sto) : opEq n (.str a) (.str b) s = some (.bl (xor n r), s) := by
  obtain ⟨h, h3⟩ := and_t h
  obtain ⟨h1, h2⟩ := and_t h
  have h3 : decide (a = b) = r := by simpa using h3
  unfold opEq
  rw [py_str h1, py_str h2]
  show some (D.bl (xor n (PyData.eqv (.str a) (.str b))), s) = _
  rw [eqv_str, h3]
/-- two texts that are the same -/
theorem t_eq {a b : Str} (e : a = b) (h : strB a = true) (n : Bool) (s : Sto) : opEq n (.str a) (.str b) s = some (.bl (xor n true), s) := by
  subst e
  exact w_eq a a true (by rw [h, decide_eq_true rfl]; rfl) n s
theorem catch00 : catchOf G 0 0 = some true := rfl
theorem catch11 : catchOf G 1 1 = some true := rfl
/-! ### what the law says of a way -/
def fitB (k : Nat) (v : Int) : Bool := match k with
  | 0 => true
  | 1 => decide (0 ≤ v) && decide (v ≤ 255)
  | 2 => decide (0 ≤ v) && decide (v ≤ 255)
  | 3 => decide (0 ≤ v) && decide (v ≤ 65535)
  | 4 => decide (0 ≤ v) && decide (v ≤ 65535)
  | _ => decide (-128 ≤ v) && decide (v ≤ 127)
def bytesI (c : Int) (k : Nat) (v : Int) : List Int := match k with
  | 0 => [c]
  | 1 => [c, v % 256]
  | 2 => [c, v % 256]
  | 3 => [c, v % 256, v / 256]
  | 4 => [c, v % 256, v / 256]
  | _ => [c, v % 256]
theorem fn25 (j : Nat) : prog G (j + 1) 25 = runN 4 (s36 (prog G j)) := fn_of_sh (d := d36) rfl sh36 j
theorem fn26 (j : Nat) : prog G (j + 1) 26 = runN 3 (s37 (prog G j)) := fn_of_sh (d := d37) rfl sh37 j
theorem fn27 (j : Nat) : prog G (j + 1) 27 = runN 3 (s38 (prog G j)) := fn_of_sh (d := d38) rfl sh38 j
theorem fn28 (j : Nat) : prog G (j + 1) 28 = runN 4 (s39 (prog G j)) := fn_of_sh (d := d39) rfl sh39 j
def loI : Nat → Int
  | 5 => -128
  | _ => 0
def hiI : Nat → Int
  | 0 => 0
  | 1 => 255
  | 2 => 255
  | 3 => 65535
  | 4 => 65535
  | _ => 127
def ixM : ME := mDIx (mDisp ["none", "value", "near", "far", "by x", "jump"] (aCons (mTup (aCons (mC (.int 0)) (aCons (mC (.int 0)) aNil))) (aCons (mTup (aCons (mC (.int 0)) (aCons (mC (.int 255)) aNil))) (aCons (mTup (aCons (mC (.int 0)) (aCons (mC (.int 255)) aNil))) (aCons (mTup (aCons (mC (.int 0)) (aCons (mC (.int 65535)) aNil))) (aCons (mTup (aCons (mC (.int 0)) (aCons (mC (.int 65535)) aNil))) (aCons (mTup (aCons (m1 unNeg (mC (.int 128))) (aCons (mC (.int 127)) aNil))) aNil))))))) (mVar 0)
theorem ix_at {k : Nat} (h : k < 6) {a b c : Option D} (s : Sto) : ixM [some (.str (ws k)), a, b, c] s = .ok (.tup [.int (loI k), .int (hiI k)]) s := by
  match k, h with
  | 0, _ => kernel_rfl
  | 1, _ => kernel_rfl
  | 2, _ => kernel_rfl
  | 3, _ => kernel_rfl
  | 4, _ => kernel_rfl
  | 5, _ => kernel_rfl
theorem s36_eq (F : Nat → FM) : s36 F = sSeq (sAsg (tTup [(tName 2), (tName 3)]) ixM) (sSeq (sRet (mOr (m2 (opC .Eq) (mVar 0) (mC (.str "none"))) (mChain (opC .LtE) (opC .LtE) (mVar 2) (mVar 1) (mVar 3)))) sPass) := rfl
theorem law_fits (j : Nat) {k : Nat} (h : k < 6) (v : Int) : Ev G (j + 1) 25 [.str (ws k), .int v] (.bl (fitB k v)) := fun s => by
  rw [fn25, s36_eq]
  have q := ix_at h (a := some (.int v)) (b := none) (c := none) s
  match k, h, q with
  | 0, _, q => simp only [runN, sSeq, sIf, sRet, sRetN, sExpr, sAsg, sRaise, sPass, sAug, sPar, putAll, tName, tTup, tAll, goOn, Z.R.out, Z.R.bind_ok, Z.R.bind_exc, Z.R.bind_bad, Z.R.of, Z.R.nx, mC, mVar, m1, m2, mB, mT, mNot, mAnd, mOr, mIf, bNot, bAnd, bOr, bIf, truthR, truth, mTup, mkT, mLst, mkL, aNil, aCons, mCall, mB1, opBin, ipOp, ipAdd, ipMul, opAdd, opSub, opMul, opFdiv, opMod, unNeg, opC, opCmp, op_eq_int, op_in2, op_inl2, mChain, bYes, wVal, wRng, wOf, wR, wipeE, big, List.map_cons, List.map_nil, List.length_cons, List.length_nil, List.replicate, List.cons_append, List.nil_append, List.getElem?_cons_zero, List.getElem?_cons_succ, List.set_cons_zero, List.set_cons_succ, if_true, if_false, decide_true, decide_false, Bool.not_true, Bool.not_false, Bool.true_and, Bool.and_true, Bool.false_and, Bool.and_false, Bool.or_false, Bool.false_or, Bool.true_or, Bool.or_true, Bool.xor_false, Bool.xor_true, Bool.false_xor, Bool.true_xor, Bool.false_eq_true, Bool.true_eq_false, ite_true, ite_false, line, Nat.reduceSub, Nat.reduceAdd, Int.reduceNeg, Int.reducePow, Int.reduceLT, Int.reduceLE, Int.reduceMul, Int.reduceAdd, Int.reduceSub, Int.reduceDiv, Int.reduceMod, Int.reduceEq, Nat.reduceLeDiff, Nat.reduceLT, Nat.reduceEqDiff, and_true, true_and, and_false, false_and, and_self, gt_iff_lt, ge_iff_le, q, w_eq (ws 0) "none" true (by decide +kernel) false, fitB]
  | 1, _, q => by_cases h0 : (0 : Int) ≤ v <;> by_cases h1 : v ≤ 255 <;> simp only [runN, sSeq, sIf, sRet, sRetN, sExpr, sAsg, sRaise, sPass, sAug, sPar, putAll, tName, tTup, tAll, goOn, Z.R.out, Z.R.bind_ok, Z.R.bind_exc, Z.R.bind_bad, Z.R.of, Z.R.nx, mC, mVar, m1, m2, mB, mT, mNot, mAnd, mOr, mIf, bNot, bAnd, bOr, bIf, truthR, truth, mTup, mkT, mLst, mkL, aNil, aCons, mCall, mB1, opBin, ipOp, ipAdd, ipMul, opAdd, opSub, opMul, opFdiv, opMod, unNeg, opC, opCmp, op_eq_int, op_in2, op_inl2, mChain, bYes, wVal, wRng, wOf, wR, wipeE, big, List.map_cons, List.map_nil, List.length_cons, List.length_nil, List.replicate, List.cons_append, List.nil_append, List.getElem?_cons_zero, List.getElem?_cons_succ, List.set_cons_zero, List.set_cons_succ, if_true, if_false, decide_true, decide_false, Bool.not_true, Bool.not_false, Bool.true_and, Bool.and_true, Bool.false_and, Bool.and_false, Bool.or_false, Bool.false_or, Bool.true_or, Bool.or_true, Bool.xor_false, Bool.xor_true, Bool.false_xor, Bool.true_xor, Bool.false_eq_true, Bool.true_eq_false, ite_true, ite_false, line, Nat.reduceSub, Nat.reduceAdd, Int.reduceNeg, Int.reducePow, Int.reduceLT, Int.reduceLE, Int.reduceMul, Int.reduceAdd, Int.reduceSub, Int.reduceDiv, Int.reduceMod, Int.reduceEq, Nat.reduceLeDiff, Nat.reduceLT, Nat.reduceEqDiff, and_true, true_and, and_false, false_and, and_self, gt_iff_lt, ge_iff_le, q, w_eq (ws 1) "none" false (by decide +kernel) false, fitB, loI, hiI, h0, h1]
  | 2, _, q => by_cases h0 : (0 : Int) ≤ v <;> by_cases h1 : v ≤ 255 <;> simp only [runN, sSeq, sIf, sRet, sRetN, sExpr, sAsg, sRaise, sPass, sAug, sPar, putAll, tName, tTup, tAll, goOn, Z.R.out, Z.R.bind_ok, Z.R.bind_exc, Z.R.bind_bad, Z.R.of, Z.R.nx, mC, mVar, m1, m2, mB, mT, mNot, mAnd, mOr, mIf, bNot, bAnd, bOr, bIf, truthR, truth, mTup, mkT, mLst, mkL, aNil, aCons, mCall, mB1, opBin, ipOp, ipAdd, ipMul, opAdd, opSub, opMul, opFdiv, opMod, unNeg, opC, opCmp, op_eq_int, op_in2, op_inl2, mChain, bYes, wVal, wRng, wOf, wR, wipeE, big, List.map_cons, List.map_nil, List.length_cons, List.length_nil, List.replicate, List.cons_append, List.nil_append, List.getElem?_cons_zero, List.getElem?_cons_succ, List.set_cons_zero, List.set_cons_succ, if_true, if_false, decide_true, decide_false, Bool.not_true, Bool.not_false, Bool.true_and, Bool.and_true, Bool.false_and, Bool.and_false, Bool.or_false, Bool.false_or, Bool.true_or, Bool.or_true, Bool.xor_false, Bool.xor_true, Bool.false_xor, Bool.true_xor, Bool.false_eq_true, Bool.true_eq_false, ite_true, ite_false, line, Nat.reduceSub, Nat.reduceAdd, Int.reduceNeg, Int.reducePow, Int.reduceLT, Int.reduceLE, Int.reduceMul, Int.reduceAdd, Int.reduceSub, Int.reduceDiv, Int.reduceMod, Int.reduceEq, Nat.reduceLeDiff, Nat.reduceLT, Nat.reduceEqDiff, and_true, true_and, and_false, false_and, and_self, gt_iff_lt, ge_iff_le, q, w_eq (ws 2) "none" false (by decide +kernel) false, fitB, loI, hiI, h0, h1]
  | 3, _, q => by_cases h0 : (0 : Int) ≤ v <;> by_cases h1 : v ≤ 65535 <;> simp only [runN, sSeq, sIf, sRet, sRetN, sExpr, sAsg, sRaise, sPass, sAug, sPar, putAll, tName, tTup, tAll, goOn, Z.R.out, Z.R.bind_ok, Z.R.bind_exc, Z.R.bind_bad, Z.R.of, Z.R.nx, mC, mVar, m1, m2, mB, mT, mNot, mAnd, mOr, mIf, bNot, bAnd, bOr, bIf, truthR, truth, mTup, mkT, mLst, mkL, aNil, aCons, mCall, mB1, opBin, ipOp, ipAdd, ipMul, opAdd, opSub, opMul, opFdiv, opMod, unNeg, opC, opCmp, op_eq_int, op_in2, op_inl2, mChain, bYes, wVal, wRng, wOf, wR, wipeE, big, List.map_cons, List.map_nil, List.length_cons, List.length_nil, List.replicate, List.cons_append, List.nil_append, List.getElem?_cons_zero, List.getElem?_cons_succ, List.set_cons_zero, List.set_cons_succ, if_true, if_false, decide_true, decide_false, Bool.not_true, Bool.not_false, Bool.true_and, Bool.and_true, Bool.false_and, Bool.and_false, Bool.or_false, Bool.false_or, Bool.true_or, Bool.or_true, Bool.xor_false, Bool.xor_true, Bool.false_xor, Bool.true_xor, Bool.false_eq_true, Bool.true_eq_false, ite_true, ite_false, line, Nat.reduceSub, Nat.reduceAdd, Int.reduceNeg, Int.reducePow, Int.reduceLT, Int.reduceLE, Int.reduceMul, Int.reduceAdd, Int.reduceSub, Int.reduceDiv, Int.reduceMod, Int.reduceEq, Nat.reduceLeDiff, Nat.reduceLT, Nat.reduceEqDiff, and_true, true_and, and_false, false_and, and_self, gt_iff_lt, ge_iff_le, q, w_eq (ws 3) "none" false (by decide +kernel) false, fitB, loI, hiI, h0, h1]
  | 4, _, q => by_cases h0 : (0 : Int) ≤ v <;> by_cases h1 : v ≤ 65535 <;> simp only [runN, sSeq, sIf, sRet, sRetN, sExpr, sAsg, sRaise, sPass, sAug, sPar, putAll, tName, tTup, tAll, goOn, Z.R.out, Z.R.bind_ok, Z.R.bind_exc, Z.R.bind_bad, Z.R.of, Z.R.nx, mC, mVar, m1, m2, mB, mT, mNot, mAnd, mOr, mIf, bNot, bAnd, bOr, bIf, truthR, truth, mTup, mkT, mLst, mkL, aNil, aCons, mCall, mB1, opBin, ipOp, ipAdd, ipMul, opAdd, opSub, opMul, opFdiv, opMod, unNeg, opC, opCmp, op_eq_int, op_in2, op_inl2, mChain, bYes, wVal, wRng, wOf, wR, wipeE, big, List.map_cons, List.map_nil, List.length_cons, List.length_nil, List.replicate, List.cons_append, List.nil_append, List.getElem?_cons_zero, List.getElem?_cons_succ, List.set_cons_zero, List.set_cons_succ, if_true, if_false, decide_true, decide_false, Bool.not_true, Bool.not_false, Bool.true_and, Bool.and_true, Bool.false_and, Bool.and_false, Bool.or_false, Bool.false_or, Bool.true_or, Bool.or_true, Bool.xor_false, Bool.xor_true, Bool.false_xor, Bool.true_xor, Bool.false_eq_true, Bool.true_eq_false, ite_true, ite_false, line, Nat.reduceSub, Nat.reduceAdd, Int.reduceNeg, Int.reducePow, Int.reduceLT, Int.reduceLE, Int.reduceMul, Int.reduceAdd, Int.reduceSub, Int.reduceDiv, Int.reduceMod, Int.reduceEq, Nat.reduceLeDiff, Nat.reduceLT, Nat.reduceEqDiff, and_true, true_and, and_false, false_and, and_self, gt_iff_lt, ge_iff_le, q, w_eq (ws 4) "none" false (by decide +kernel) false, fitB, loI, hiI, h0, h1]
  | 5, _, q => by_cases h0 : (-128 : Int) ≤ v <;> by_cases h1 : v ≤ 127 <;> simp only [runN, sSeq, sIf, sRet, sRetN, sExpr, sAsg, sRaise, sPass, sAug, sPar, putAll, tName, tTup, tAll, goOn, Z.R.out, Z.R.bind_ok, Z.R.bind_exc, Z.R.bind_bad, Z.R.of, Z.R.nx, mC, mVar, m1, m2, mB, mT, mNot, mAnd, mOr, mIf, bNot, bAnd, bOr, bIf, truthR, truth, mTup, mkT, mLst, mkL, aNil, aCons, mCall, mB1, opBin, ipOp, ipAdd, ipMul, opAdd, opSub, opMul, opFdiv, opMod, unNeg, opC, opCmp, op_eq_int, op_in2, op_inl2, mChain, bYes, wVal, wRng, wOf, wR, wipeE, big, List.map_cons, List.map_nil, List.length_cons, List.length_nil, List.replicate, List.cons_append, List.nil_append, List.getElem?_cons_zero, List.getElem?_cons_succ, List.set_cons_zero, List.set_cons_succ, if_true, if_false, decide_true, decide_false, Bool.not_true, Bool.not_false, Bool.true_and, Bool.and_true, Bool.false_and, Bool.and_false, Bool.or_false, Bool.false_or, Bool.true_or, Bool.or_true, Bool.xor_false, Bool.xor_true, Bool.false_xor, Bool.true_xor, Bool.false_eq_true, Bool.true_eq_false, ite_true, ite_false, line, Nat.reduceSub, Nat.reduceAdd, Int.reduceNeg, Int.reducePow, Int.reduceLT, Int.reduceLE, Int.reduceMul, Int.reduceAdd, Int.reduceSub, Int.reduceDiv, Int.reduceMod, Int.reduceEq, Nat.reduceLeDiff, Nat.reduceLT, Nat.reduceEqDiff, and_true, true_and, and_false, false_and, and_self, gt_iff_lt, ge_iff_le, q, w_eq (ws 5) "none" false (by decide +kernel) false, fitB, loI, hiI, h0, h1]
theorem law_bytes (j : Nat) {k : Nat} (h : k < 6) (c v : Int) : Ev G (j + 1) 26 [.int c, .str (ws k), .int v] (.tup ((bytesI c k v).map .int)) := fun s => by
  rw [fn26]
  match k, h with
  | 0, _ => kernel_rfl
  | 1, _ => kernel_rfl
  | 2, _ => kernel_rfl
  | 3, _ => kernel_rfl
  | 4, _ => kernel_rfl
  | 5, _ => kernel_rfl
/-! ### encoded -/
theorem inVN (k : Nat) (h : k < 6) (s : Sto) : opIn false (.str (ws k)) (.tup [.str "value", .str "near"]) s = some (.bl (k == 1 || k == 2), s) := by
  match k, h with
  | 0, _ => kernel_rfl
  | 1, _ => kernel_rfl
  | 2, _ => kernel_rfl
  | 3, _ => kernel_rfl
  | 4, _ => kernel_rfl
  | 5, _ => kernel_rfl
theorem inFX (k : Nat) (h : k < 6) (s : Sto) : opIn false (.str (ws k)) (.tup [.str "far", .str "by x"]) s = some (.bl (k == 3 || k == 4), s) := by
  match k, h with
  | 0, _ => kernel_rfl
  | 1, _ => kernel_rfl
  | 2, _ => kernel_rfl
  | 3, _ => kernel_rfl
  | 4, _ => kernel_rfl
  | 5, _ => kernel_rfl
theorem eqJ (k : Nat) (h : k < 6) (n : Bool) (s : Sto) : opEq n (.str (ws k)) (.str "jump") s = some (.bl (xor n (k == 5)), s) := by
  match k, h with
  | 0, _ => exact w_eq _ _ _ (by decide +kernel) _ _
  | 1, _ => exact w_eq _ _ _ (by decide +kernel) _ _
  | 2, _ => exact w_eq _ _ _ (by decide +kernel) _ _
  | 3, _ => exact w_eq _ _ _ (by decide +kernel) _ _
  | 4, _ => exact w_eq _ _ _ (by decide +kernel) _ _
  | 5, _ => exact w_eq _ _ _ (by decide +kernel) _ _
theorem eqN (k : Nat) (h : k < 6) (n : Bool) (s : Sto) : opEq n (.str (ws k)) (.str "none") s = some (.bl (xor n (k == 0)), s) := by
  match k, h with
  | 0, _ => exact w_eq _ _ _ (by decide +kernel) _ _
  | 1, _ => exact w_eq _ _ _ (by decide +kernel) _ _
  | 2, _ => exact w_eq _ _ _ (by decide +kernel) _ _
  | 3, _ => exact w_eq _ _ _ (by decide +kernel) _ _
  | 4, _ => exact w_eq _ _ _ (by decide +kernel) _ _
  | 5, _ => exact w_eq _ _ _ (by decide +kernel) _ _
theorem eqV (k : Nat) (h : k < 6) (n : Bool) (s : Sto) : opEq n (.str (ws k)) (.str "value") s = some (.bl (xor n (k == 1)), s) := by
  match k, h with
  | 0, _ => exact w_eq _ _ _ (by decide +kernel) _ _
  | 1, _ => exact w_eq _ _ _ (by decide +kernel) _ _
  | 2, _ => exact w_eq _ _ _ (by decide +kernel) _ _
  | 3, _ => exact w_eq _ _ _ (by decide +kernel) _ _
  | 4, _ => exact w_eq _ _ _ (by decide +kernel) _ _
  | 5, _ => exact w_eq _ _ _ (by decide +kernel) _ _
theorem eqX (k : Nat) (h : k < 6) (n : Bool) (s : Sto) : opEq n (.str (ws k)) (.str "by x") s = some (.bl (xor n (k == 4)), s) := by
  match k, h with
  | 0, _ => exact w_eq _ _ _ (by decide +kernel) _ _
  | 1, _ => exact w_eq _ _ _ (by decide +kernel) _ _
  | 2, _ => exact w_eq _ _ _ (by decide +kernel) _ _
  | 3, _ => exact w_eq _ _ _ (by decide +kernel) _ _
  | 4, _ => exact w_eq _ _ _ (by decide +kernel) _ _
  | 5, _ => exact w_eq _ _ _ (by decide +kernel) _ _
theorem eqF (k : Nat) (h : k < 6) (n : Bool) (s : Sto) : opEq n (.str (ws k)) (.str "far") s = some (.bl (xor n (k == 3)), s) := by
  match k, h with
  | 0, _ => exact w_eq _ _ _ (by decide +kernel) _ _
  | 1, _ => exact w_eq _ _ _ (by decide +kernel) _ _
  | 2, _ => exact w_eq _ _ _ (by decide +kernel) _ _
  | 3, _ => exact w_eq _ _ _ (by decide +kernel) _ _
  | 4, _ => exact w_eq _ _ _ (by decide +kernel) _ _
  | 5, _ => exact w_eq _ _ _ (by decide +kernel) _ _
theorem encoded (j : Nat) {c : Nat} (h : c < 56) {v : Int} (hf : fitB (wk c) v = true) : Ev G (j + 3) 13 [.str (nmS c), .str (ws (wk c)), .int v] (.tup ((bytesI (Int.ofNat c) (wk c) v).map .int)) := by
  obtain ⟨_, hk, hs, hl⟩ := code_at h
  have hc := code_of (j + 1) h
  have hpu : ∀ k, ([D.str (nmS c), .str (ws k), .int v]).all (pure? 12) = true := fun k => rfl
  generalize hw : wk c = k at *
  refine ev_of (d := d23) rfl rfl rfl sh23 (hpu k) (by match k, hk with | 0, _ => rfl | 1, _ => rfl | 2, _ => rfl | 3, _ => rfl | 4, _ => rfl | 5, _ => rfl) (s' := []) ?_
  show runN 6 _ _ _ = _
  unfold s23
  match k, hk, hf, hc with
  | 0, hk, hf, hc => simp only [runN, sSeq, sIf, sRet, sRetN, sExpr, sAsg, sRaise, sPass, sAug, sPar, putAll, tName, tTup, tAll, goOn, Z.R.out, Z.R.bind_ok, Z.R.bind_exc, Z.R.bind_bad, Z.R.of, Z.R.nx, mC, mVar, m1, m2, mB, mT, mNot, mAnd, mOr, mIf, bNot, bAnd, bOr, bIf, truthR, truth, mTup, mkT, mLst, mkL, aNil, aCons, mCall, mB1, opBin, ipOp, ipAdd, ipMul, opAdd, opSub, opMul, opFdiv, opMod, unNeg, opC, opCmp, op_eq_int, op_in2, op_inl2, mChain, bYes, wVal, wRng, wOf, wR, wipeE, big, List.map_cons, List.map_nil, List.length_cons, List.length_nil, List.replicate, List.cons_append, List.nil_append, List.getElem?_cons_zero, List.getElem?_cons_succ, List.set_cons_zero, List.set_cons_succ, if_true, if_false, decide_true, decide_false, Bool.not_true, Bool.not_false, Bool.true_and, Bool.and_true, Bool.false_and, Bool.and_false, Bool.or_false, Bool.false_or, Bool.true_or, Bool.or_true, Bool.xor_false, Bool.xor_true, Bool.false_xor, Bool.true_xor, Bool.false_eq_true, Bool.true_eq_false, ite_true, ite_false, line, Nat.reduceSub, Nat.reduceAdd, Int.reduceNeg, Int.reducePow, Int.reduceLT, Int.reduceLE, Int.reduceMul, Int.reduceAdd, Int.reduceSub, Int.reduceDiv, Int.reduceMod, Int.reduceEq, Nat.reduceLeDiff, Nat.reduceLT, Nat.reduceEqDiff, and_true, true_and, and_false, false_and, and_self, gt_iff_lt, ge_iff_le, mKIx, mKGet, kGetR, mTold1, toldR, sTryX, Nat.reduceMul, Nat.reduceMod, Nat.reduceDiv, hc _, inVN 0 hk, inFX 0 hk, eqJ 0 hk, bytesI, catch00, Nat.reduceBEq]
  | 1, hk, hf, hc =>
    simp only [fitB, Bool.and_eq_true, decide_eq_true_eq] at hf
    have e : v % 256 = v := by omega
    simp only [runN, sSeq, sIf, sRet, sRetN, sExpr, sAsg, sRaise, sPass, sAug, sPar, putAll, tName, tTup, tAll, goOn, Z.R.out, Z.R.bind_ok, Z.R.bind_exc, Z.R.bind_bad, Z.R.of, Z.R.nx, mC, mVar, m1, m2, mB, mT, mNot, mAnd, mOr, mIf, bNot, bAnd, bOr, bIf, truthR, truth, mTup, mkT, mLst, mkL, aNil, aCons, mCall, mB1, opBin, ipOp, ipAdd, ipMul, opAdd, opSub, opMul, opFdiv, opMod, unNeg, opC, opCmp, op_eq_int, op_in2, op_inl2, mChain, bYes, wVal, wRng, wOf, wR, wipeE, big, List.map_cons, List.map_nil, List.length_cons, List.length_nil, List.replicate, List.cons_append, List.nil_append, List.getElem?_cons_zero, List.getElem?_cons_succ, List.set_cons_zero, List.set_cons_succ, if_true, if_false, decide_true, decide_false, Bool.not_true, Bool.not_false, Bool.true_and, Bool.and_true, Bool.false_and, Bool.and_false, Bool.or_false, Bool.false_or, Bool.true_or, Bool.or_true, Bool.xor_false, Bool.xor_true, Bool.false_xor, Bool.true_xor, Bool.false_eq_true, Bool.true_eq_false, ite_true, ite_false, line, Nat.reduceSub, Nat.reduceAdd, Int.reduceNeg, Int.reducePow, Int.reduceLT, Int.reduceLE, Int.reduceMul, Int.reduceAdd, Int.reduceSub, Int.reduceDiv, Int.reduceMod, Int.reduceEq, Nat.reduceLeDiff, Nat.reduceLT, Nat.reduceEqDiff, and_true, true_and, and_false, false_and, and_self, gt_iff_lt, ge_iff_le, mKIx, mKGet, kGetR, mTold1, toldR, sTryX, Nat.reduceMul, Nat.reduceMod, Nat.reduceDiv, hc _, inVN 1 hk, inFX 1 hk, eqJ 1 hk, bytesI, catch00, check_byte (j + 1) hf.1 hf.2 _, e, Nat.reduceBEq]
  | 2, hk, hf, hc =>
    simp only [fitB, Bool.and_eq_true, decide_eq_true_eq] at hf
    have e : v % 256 = v := by omega
    simp only [runN, sSeq, sIf, sRet, sRetN, sExpr, sAsg, sRaise, sPass, sAug, sPar, putAll, tName, tTup, tAll, goOn, Z.R.out, Z.R.bind_ok, Z.R.bind_exc, Z.R.bind_bad, Z.R.of, Z.R.nx, mC, mVar, m1, m2, mB, mT, mNot, mAnd, mOr, mIf, bNot, bAnd, bOr, bIf, truthR, truth, mTup, mkT, mLst, mkL, aNil, aCons, mCall, mB1, opBin, ipOp, ipAdd, ipMul, opAdd, opSub, opMul, opFdiv, opMod, unNeg, opC, opCmp, op_eq_int, op_in2, op_inl2, mChain, bYes, wVal, wRng, wOf, wR, wipeE, big, List.map_cons, List.map_nil, List.length_cons, List.length_nil, List.replicate, List.cons_append, List.nil_append, List.getElem?_cons_zero, List.getElem?_cons_succ, List.set_cons_zero, List.set_cons_succ, if_true, if_false, decide_true, decide_false, Bool.not_true, Bool.not_false, Bool.true_and, Bool.and_true, Bool.false_and, Bool.and_false, Bool.or_false, Bool.false_or, Bool.true_or, Bool.or_true, Bool.xor_false, Bool.xor_true, Bool.false_xor, Bool.true_xor, Bool.false_eq_true, Bool.true_eq_false, ite_true, ite_false, line, Nat.reduceSub, Nat.reduceAdd, Int.reduceNeg, Int.reducePow, Int.reduceLT, Int.reduceLE, Int.reduceMul, Int.reduceAdd, Int.reduceSub, Int.reduceDiv, Int.reduceMod, Int.reduceEq, Nat.reduceLeDiff, Nat.reduceLT, Nat.reduceEqDiff, and_true, true_and, and_false, false_and, and_self, gt_iff_lt, ge_iff_le, mKIx, mKGet, kGetR, mTold1, toldR, sTryX, Nat.reduceMul, Nat.reduceMod, Nat.reduceDiv, hc _, inVN 2 hk, inFX 2 hk, eqJ 2 hk, bytesI, catch00, check_byte (j + 1) hf.1 hf.2 _, e, Nat.reduceBEq]
  | 3, hk, hf, hc =>
    simp only [fitB, Bool.and_eq_true, decide_eq_true_eq] at hf
    simp only [runN, sSeq, sIf, sRet, sRetN, sExpr, sAsg, sRaise, sPass, sAug, sPar, putAll, tName, tTup, tAll, goOn, Z.R.out, Z.R.bind_ok, Z.R.bind_exc, Z.R.bind_bad, Z.R.of, Z.R.nx, mC, mVar, m1, m2, mB, mT, mNot, mAnd, mOr, mIf, bNot, bAnd, bOr, bIf, truthR, truth, mTup, mkT, mLst, mkL, aNil, aCons, mCall, mB1, opBin, ipOp, ipAdd, ipMul, opAdd, opSub, opMul, opFdiv, opMod, unNeg, opC, opCmp, op_eq_int, op_in2, op_inl2, mChain, bYes, wVal, wRng, wOf, wR, wipeE, big, List.map_cons, List.map_nil, List.length_cons, List.length_nil, List.replicate, List.cons_append, List.nil_append, List.getElem?_cons_zero, List.getElem?_cons_succ, List.set_cons_zero, List.set_cons_succ, if_true, if_false, decide_true, decide_false, Bool.not_true, Bool.not_false, Bool.true_and, Bool.and_true, Bool.false_and, Bool.and_false, Bool.or_false, Bool.false_or, Bool.true_or, Bool.or_true, Bool.xor_false, Bool.xor_true, Bool.false_xor, Bool.true_xor, Bool.false_eq_true, Bool.true_eq_false, ite_true, ite_false, line, Nat.reduceSub, Nat.reduceAdd, Int.reduceNeg, Int.reducePow, Int.reduceLT, Int.reduceLE, Int.reduceMul, Int.reduceAdd, Int.reduceSub, Int.reduceDiv, Int.reduceMod, Int.reduceEq, Nat.reduceLeDiff, Nat.reduceLT, Nat.reduceEqDiff, and_true, true_and, and_false, false_and, and_self, gt_iff_lt, ge_iff_le, mKIx, mKGet, kGetR, mTold1, toldR, sTryX, Nat.reduceMul, Nat.reduceMod, Nat.reduceDiv, hc _, inVN 3 hk, inFX 3 hk, eqJ 3 hk, bytesI, catch00, halves_of j hf.1 hf.2 _, Nat.reduceBEq]
  | 4, hk, hf, hc =>
    simp only [fitB, Bool.and_eq_true, decide_eq_true_eq] at hf
    simp only [runN, sSeq, sIf, sRet, sRetN, sExpr, sAsg, sRaise, sPass, sAug, sPar, putAll, tName, tTup, tAll, goOn, Z.R.out, Z.R.bind_ok, Z.R.bind_exc, Z.R.bind_bad, Z.R.of, Z.R.nx, mC, mVar, m1, m2, mB, mT, mNot, mAnd, mOr, mIf, bNot, bAnd, bOr, bIf, truthR, truth, mTup, mkT, mLst, mkL, aNil, aCons, mCall, mB1, opBin, ipOp, ipAdd, ipMul, opAdd, opSub, opMul, opFdiv, opMod, unNeg, opC, opCmp, op_eq_int, op_in2, op_inl2, mChain, bYes, wVal, wRng, wOf, wR, wipeE, big, List.map_cons, List.map_nil, List.length_cons, List.length_nil, List.replicate, List.cons_append, List.nil_append, List.getElem?_cons_zero, List.getElem?_cons_succ, List.set_cons_zero, List.set_cons_succ, if_true, if_false, decide_true, decide_false, Bool.not_true, Bool.not_false, Bool.true_and, Bool.and_true, Bool.false_and, Bool.and_false, Bool.or_false, Bool.false_or, Bool.true_or, Bool.or_true, Bool.xor_false, Bool.xor_true, Bool.false_xor, Bool.true_xor, Bool.false_eq_true, Bool.true_eq_false, ite_true, ite_false, line, Nat.reduceSub, Nat.reduceAdd, Int.reduceNeg, Int.reducePow, Int.reduceLT, Int.reduceLE, Int.reduceMul, Int.reduceAdd, Int.reduceSub, Int.reduceDiv, Int.reduceMod, Int.reduceEq, Nat.reduceLeDiff, Nat.reduceLT, Nat.reduceEqDiff, and_true, true_and, and_false, false_and, and_self, gt_iff_lt, ge_iff_le, mKIx, mKGet, kGetR, mTold1, toldR, sTryX, Nat.reduceMul, Nat.reduceMod, Nat.reduceDiv, hc _, inVN 4 hk, inFX 4 hk, eqJ 4 hk, bytesI, catch00, halves_of j hf.1 hf.2 _, Nat.reduceBEq]
  | 5, hk, hf, hc =>
    simp only [fitB, Bool.and_eq_true, decide_eq_true_eq] at hf
    simp only [runN, sSeq, sIf, sRet, sRetN, sExpr, sAsg, sRaise, sPass, sAug, sPar, putAll, tName, tTup, tAll, goOn, Z.R.out, Z.R.bind_ok, Z.R.bind_exc, Z.R.bind_bad, Z.R.of, Z.R.nx, mC, mVar, m1, m2, mB, mT, mNot, mAnd, mOr, mIf, bNot, bAnd, bOr, bIf, truthR, truth, mTup, mkT, mLst, mkL, aNil, aCons, mCall, mB1, opBin, ipOp, ipAdd, ipMul, opAdd, opSub, opMul, opFdiv, opMod, unNeg, opC, opCmp, op_eq_int, op_in2, op_inl2, mChain, bYes, wVal, wRng, wOf, wR, wipeE, big, List.map_cons, List.map_nil, List.length_cons, List.length_nil, List.replicate, List.cons_append, List.nil_append, List.getElem?_cons_zero, List.getElem?_cons_succ, List.set_cons_zero, List.set_cons_succ, if_true, if_false, decide_true, decide_false, Bool.not_true, Bool.not_false, Bool.true_and, Bool.and_true, Bool.false_and, Bool.and_false, Bool.or_false, Bool.false_or, Bool.true_or, Bool.or_true, Bool.xor_false, Bool.xor_true, Bool.false_xor, Bool.true_xor, Bool.false_eq_true, Bool.true_eq_false, ite_true, ite_false, line, Nat.reduceSub, Nat.reduceAdd, Int.reduceNeg, Int.reducePow, Int.reduceLT, Int.reduceLE, Int.reduceMul, Int.reduceAdd, Int.reduceSub, Int.reduceDiv, Int.reduceMod, Int.reduceEq, Nat.reduceLeDiff, Nat.reduceLT, Nat.reduceEqDiff, and_true, true_and, and_false, false_and, and_self, gt_iff_lt, ge_iff_le, mKIx, mKGet, kGetR, mTold1, toldR, sTryX, Nat.reduceMul, Nat.reduceMod, Nat.reduceDiv, hc _, inVN 5 hk, inFX 5 hk, eqJ 5 hk, bytesI, catch00, plain8 j hf.1 hf.2 _, Nat.reduceBEq]
theorem no_encoded (j : Nat) {c : Nat} (h : c < 56) {v : Int} (hf : fitB (wk c) v = false) : Ex G (j + 3) 13 [.str (nmS c), .str (ws (wk c)), .int v] 3 := by
  obtain ⟨_, hk, hs, hl⟩ := code_at h
  have hc := code_of (j + 1) h
  have hpu : ∀ k, ([D.str (nmS c), .str (ws k), .int v]).all (pure? 12) = true := fun k => rfl
  generalize hw : wk c = k at *
  refine ex_of (d := d23) rfl rfl rfl sh23 (hpu k) (s' := []) ?_
  show runN 6 _ _ _ = _
  unfold s23
  match k, hk, hf, hc with
  | 0, hk, hf, hc => cases hf
  | 1, hk, hf, hc =>
    have hf : ¬ (0 ≤ v ∧ v ≤ 255) := fun z => by simp only [fitB, decide_eq_true z.1, decide_eq_true z.2] at hf; cases hf
    simp only [runN, sSeq, sIf, sRet, sRetN, sExpr, sAsg, sRaise, sPass, sAug, sPar, putAll, tName, tTup, tAll, goOn, Z.R.out, Z.R.bind_ok, Z.R.bind_exc, Z.R.bind_bad, Z.R.of, Z.R.nx, mC, mVar, m1, m2, mB, mT, mNot, mAnd, mOr, mIf, bNot, bAnd, bOr, bIf, truthR, truth, mTup, mkT, mLst, mkL, aNil, aCons, mCall, mB1, opBin, ipOp, ipAdd, ipMul, opAdd, opSub, opMul, opFdiv, opMod, unNeg, opC, opCmp, op_eq_int, op_in2, op_inl2, mChain, bYes, wVal, wRng, wOf, wR, wipeE, big, List.map_cons, List.map_nil, List.length_cons, List.length_nil, List.replicate, List.cons_append, List.nil_append, List.getElem?_cons_zero, List.getElem?_cons_succ, List.set_cons_zero, List.set_cons_succ, if_true, if_false, decide_true, decide_false, Bool.not_true, Bool.not_false, Bool.true_and, Bool.and_true, Bool.false_and, Bool.and_false, Bool.or_false, Bool.false_or, Bool.true_or, Bool.or_true, Bool.xor_false, Bool.xor_true, Bool.false_xor, Bool.true_xor, Bool.false_eq_true, Bool.true_eq_false, ite_true, ite_false, line, Nat.reduceSub, Nat.reduceAdd, Int.reduceNeg, Int.reducePow, Int.reduceLT, Int.reduceLE, Int.reduceMul, Int.reduceAdd, Int.reduceSub, Int.reduceDiv, Int.reduceMod, Int.reduceEq, Nat.reduceLeDiff, Nat.reduceLT, Nat.reduceEqDiff, and_true, true_and, and_false, false_and, and_self, gt_iff_lt, ge_iff_le, mKIx, mKGet, kGetR, mTold1, toldR, sTryX, Nat.reduceMul, Nat.reduceMod, Nat.reduceDiv, hc _, inVN 1 hk, inFX 1 hk, eqJ 1 hk, catch00, no_byte (j + 1) hf _, Nat.reduceBEq]
  | 2, hk, hf, hc =>
    have hf : ¬ (0 ≤ v ∧ v ≤ 255) := fun z => by simp only [fitB, decide_eq_true z.1, decide_eq_true z.2] at hf; cases hf
    simp only [runN, sSeq, sIf, sRet, sRetN, sExpr, sAsg, sRaise, sPass, sAug, sPar, putAll, tName, tTup, tAll, goOn, Z.R.out, Z.R.bind_ok, Z.R.bind_exc, Z.R.bind_bad, Z.R.of, Z.R.nx, mC, mVar, m1, m2, mB, mT, mNot, mAnd, mOr, mIf, bNot, bAnd, bOr, bIf, truthR, truth, mTup, mkT, mLst, mkL, aNil, aCons, mCall, mB1, opBin, ipOp, ipAdd, ipMul, opAdd, opSub, opMul, opFdiv, opMod, unNeg, opC, opCmp, op_eq_int, op_in2, op_inl2, mChain, bYes, wVal, wRng, wOf, wR, wipeE, big, List.map_cons, List.map_nil, List.length_cons, List.length_nil, List.replicate, List.cons_append, List.nil_append, List.getElem?_cons_zero, List.getElem?_cons_succ, List.set_cons_zero, List.set_cons_succ, if_true, if_false, decide_true, decide_false, Bool.not_true, Bool.not_false, Bool.true_and, Bool.and_true, Bool.false_and, Bool.and_false, Bool.or_false, Bool.false_or, Bool.true_or, Bool.or_true, Bool.xor_false, Bool.xor_true, Bool.false_xor, Bool.true_xor, Bool.false_eq_true, Bool.true_eq_false, ite_true, ite_false, line, Nat.reduceSub, Nat.reduceAdd, Int.reduceNeg, Int.reducePow, Int.reduceLT, Int.reduceLE, Int.reduceMul, Int.reduceAdd, Int.reduceSub, Int.reduceDiv, Int.reduceMod, Int.reduceEq, Nat.reduceLeDiff, Nat.reduceLT, Nat.reduceEqDiff, and_true, true_and, and_false, false_and, and_self, gt_iff_lt, ge_iff_le, mKIx, mKGet, kGetR, mTold1, toldR, sTryX, Nat.reduceMul, Nat.reduceMod, Nat.reduceDiv, hc _, inVN 2 hk, inFX 2 hk, eqJ 2 hk, catch00, no_byte (j + 1) hf _, Nat.reduceBEq]
  | 3, hk, hf, hc =>
    have hf : ¬ (0 ≤ v ∧ v ≤ 65535) := fun z => by simp only [fitB, decide_eq_true z.1, decide_eq_true z.2] at hf; cases hf
    simp only [runN, sSeq, sIf, sRet, sRetN, sExpr, sAsg, sRaise, sPass, sAug, sPar, putAll, tName, tTup, tAll, goOn, Z.R.out, Z.R.bind_ok, Z.R.bind_exc, Z.R.bind_bad, Z.R.of, Z.R.nx, mC, mVar, m1, m2, mB, mT, mNot, mAnd, mOr, mIf, bNot, bAnd, bOr, bIf, truthR, truth, mTup, mkT, mLst, mkL, aNil, aCons, mCall, mB1, opBin, ipOp, ipAdd, ipMul, opAdd, opSub, opMul, opFdiv, opMod, unNeg, opC, opCmp, op_eq_int, op_in2, op_inl2, mChain, bYes, wVal, wRng, wOf, wR, wipeE, big, List.map_cons, List.map_nil, List.length_cons, List.length_nil, List.replicate, List.cons_append, List.nil_append, List.getElem?_cons_zero, List.getElem?_cons_succ, List.set_cons_zero, List.set_cons_succ, if_true, if_false, decide_true, decide_false, Bool.not_true, Bool.not_false, Bool.true_and, Bool.and_true, Bool.false_and, Bool.and_false, Bool.or_false, Bool.false_or, Bool.true_or, Bool.or_true, Bool.xor_false, Bool.xor_true, Bool.false_xor, Bool.true_xor, Bool.false_eq_true, Bool.true_eq_false, ite_true, ite_false, line, Nat.reduceSub, Nat.reduceAdd, Int.reduceNeg, Int.reducePow, Int.reduceLT, Int.reduceLE, Int.reduceMul, Int.reduceAdd, Int.reduceSub, Int.reduceDiv, Int.reduceMod, Int.reduceEq, Nat.reduceLeDiff, Nat.reduceLT, Nat.reduceEqDiff, and_true, true_and, and_false, false_and, and_self, gt_iff_lt, ge_iff_le, mKIx, mKGet, kGetR, mTold1, toldR, sTryX, Nat.reduceMul, Nat.reduceMod, Nat.reduceDiv, hc _, inVN 3 hk, inFX 3 hk, eqJ 3 hk, catch00, no_halves j hf _, Nat.reduceBEq]
  | 4, hk, hf, hc =>
    have hf : ¬ (0 ≤ v ∧ v ≤ 65535) := fun z => by simp only [fitB, decide_eq_true z.1, decide_eq_true z.2] at hf; cases hf
    simp only [runN, sSeq, sIf, sRet, sRetN, sExpr, sAsg, sRaise, sPass, sAug, sPar, putAll, tName, tTup, tAll, goOn, Z.R.out, Z.R.bind_ok, Z.R.bind_exc, Z.R.bind_bad, Z.R.of, Z.R.nx, mC, mVar, m1, m2, mB, mT, mNot, mAnd, mOr, mIf, bNot, bAnd, bOr, bIf, truthR, truth, mTup, mkT, mLst, mkL, aNil, aCons, mCall, mB1, opBin, ipOp, ipAdd, ipMul, opAdd, opSub, opMul, opFdiv, opMod, unNeg, opC, opCmp, op_eq_int, op_in2, op_inl2, mChain, bYes, wVal, wRng, wOf, wR, wipeE, big, List.map_cons, List.map_nil, List.length_cons, List.length_nil, List.replicate, List.cons_append, List.nil_append, List.getElem?_cons_zero, List.getElem?_cons_succ, List.set_cons_zero, List.set_cons_succ, if_true, if_false, decide_true, decide_false, Bool.not_true, Bool.not_false, Bool.true_and, Bool.and_true, Bool.false_and, Bool.and_false, Bool.or_false, Bool.false_or, Bool.true_or, Bool.or_true, Bool.xor_false, Bool.xor_true, Bool.false_xor, Bool.true_xor, Bool.false_eq_true, Bool.true_eq_false, ite_true, ite_false, line, Nat.reduceSub, Nat.reduceAdd, Int.reduceNeg, Int.reducePow, Int.reduceLT, Int.reduceLE, Int.reduceMul, Int.reduceAdd, Int.reduceSub, Int.reduceDiv, Int.reduceMod, Int.reduceEq, Nat.reduceLeDiff, Nat.reduceLT, Nat.reduceEqDiff, and_true, true_and, and_false, false_and, and_self, gt_iff_lt, ge_iff_le, mKIx, mKGet, kGetR, mTold1, toldR, sTryX, Nat.reduceMul, Nat.reduceMod, Nat.reduceDiv, hc _, inVN 4 hk, inFX 4 hk, eqJ 4 hk, catch00, no_halves j hf _, Nat.reduceBEq]
  | 5, hk, hf, hc =>
    have hf : ¬ (-128 ≤ v ∧ v ≤ 127) := fun z => by simp only [fitB, decide_eq_true z.1, decide_eq_true z.2] at hf; cases hf
    simp only [runN, sSeq, sIf, sRet, sRetN, sExpr, sAsg, sRaise, sPass, sAug, sPar, putAll, tName, tTup, tAll, goOn, Z.R.out, Z.R.bind_ok, Z.R.bind_exc, Z.R.bind_bad, Z.R.of, Z.R.nx, mC, mVar, m1, m2, mB, mT, mNot, mAnd, mOr, mIf, bNot, bAnd, bOr, bIf, truthR, truth, mTup, mkT, mLst, mkL, aNil, aCons, mCall, mB1, opBin, ipOp, ipAdd, ipMul, opAdd, opSub, opMul, opFdiv, opMod, unNeg, opC, opCmp, op_eq_int, op_in2, op_inl2, mChain, bYes, wVal, wRng, wOf, wR, wipeE, big, List.map_cons, List.map_nil, List.length_cons, List.length_nil, List.replicate, List.cons_append, List.nil_append, List.getElem?_cons_zero, List.getElem?_cons_succ, List.set_cons_zero, List.set_cons_succ, if_true, if_false, decide_true, decide_false, Bool.not_true, Bool.not_false, Bool.true_and, Bool.and_true, Bool.false_and, Bool.and_false, Bool.or_false, Bool.false_or, Bool.true_or, Bool.or_true, Bool.xor_false, Bool.xor_true, Bool.false_xor, Bool.true_xor, Bool.false_eq_true, Bool.true_eq_false, ite_true, ite_false, line, Nat.reduceSub, Nat.reduceAdd, Int.reduceNeg, Int.reducePow, Int.reduceLT, Int.reduceLE, Int.reduceMul, Int.reduceAdd, Int.reduceSub, Int.reduceDiv, Int.reduceMod, Int.reduceEq, Nat.reduceLeDiff, Nat.reduceLT, Nat.reduceEqDiff, and_true, true_and, and_false, false_and, and_self, gt_iff_lt, ge_iff_le, mKIx, mKGet, kGetR, mTold1, toldR, sTryX, Nat.reduceMul, Nat.reduceMod, Nat.reduceDiv, hc _, inVN 5 hk, inFX 5 hk, eqJ 5 hk, catch00, no_plain8 j hf _, Nat.reduceBEq]
end K02
end Z

set_option Elab.async false
set_option linter.all false
set_option maxRecDepth 100000
set_option maxHeartbeats 4000000
namespace Z
open PySem
namespace K02
/-! ### rows of numbers -/
def Sq (d : D) (ns : List Int) : Prop := d = .tup (ns.map .int) ∨ d = .lst (ns.map .int)
theorem len_sq {d : D} {ns : List Int} (h : Sq d ns) (s : Sto) : bLen [d] s = some (.int ns.length, s) := by
  rcases h with rfl | rfl
  · show some (D.int ((ns.map D.int).length : Nat), s) = _
    rw [List.length_map]
  · show some (D.int ((ns.map D.int).length : Nat), s) = _
    rw [List.length_map]
theorem atI_ok {α : Type} {xs : List α} {p : Nat} {x : α} (h : xs[p]? = some x) : L2.atI xs (Int.ofNat p) = some x := by
  have hl : p < xs.length := (List.getElem?_eq_some_iff.mp h).1
  unfold L2.atI L2.ixN
  have e0 : (0 : Int) ≤ Int.ofNat p := Int.natCast_nonneg p
  have e1 : Int.ofNat p < (xs.length : Int) := Int.ofNat_lt.mpr hl
  rw [if_pos e0, if_pos e1]
  exact h
theorem ix_sq {d : D} {ns : List Int} (h : Sq d ns) {p : Nat} {x : Int} (hp : ns[p]? = some x) (s : Sto) : opIx d (.int (Int.ofNat p)) s = some (.int x, s) := by
  have e : L2.atI (ns.map D.int) (Int.ofNat p) = some (.int x) := atI_ok (by rw [List.getElem?_map, hp]; rfl)
  rcases h with rfl | rfl
  · show (match L2.atI (ns.map D.int) (Int.ofNat p) with | some v => some (v, s) | none => none) = _
    rw [e]
  · show (match L2.atI (ns.map D.int) (Int.ofNat p) with | some v => some (v, s) | none => none) = _
    rw [e]
theorem pure_ints (ns : List Int) (k : Nat) : (ns.map D.int).all (pure? (k + 1)) = true := by
  induction ns with
  | nil => rfl
  | cons n r ih => rw [List.map_cons, List.all_cons, ih]; rfl
theorem pure_sq {d : D} {ns : List Int} (h : Sq d ns) : pure? 12 d = true := by
  rcases h with rfl | rfl
  · show (ns.map D.int).all (pure? 11) = true
    exact pure_ints ns 10
  · show (ns.map D.int).all (pure? 11) = true
    exact pure_ints ns 10
def shown (k : Nat) (b1 b2 : Int) : D := match k with
  | 0 => .non
  | 1 => .int b1
  | 2 => .int b1
  | 3 => .int (b2 * 256 + b1)
  | 4 => .int (b2 * 256 + b1)
  | _ => .int (sg b1)
theorem look_sz {k : Nat} (h : k < 6) : look (ws k) cSIZES_BY_WAY = some (.int (Int.ofNat (sz k))) := by
  match k, h with
  | 0, _ => kernel_rfl
  | 1, _ => kernel_rfl
  | 2, _ => kernel_rfl
  | 3, _ => kernel_rfl
  | 4, _ => kernel_rfl
  | 5, _ => kernel_rfl
theorem decoded (j : Nat) {d : D} {ns : List Int} (hs : Sq d ns) {p c : Nat} (hc : c < 56) (h0 : ns[p]? = some (Int.ofNat c)) {b1 b2 : Int} (hl : p + sz (wk c) ≤ ns.length) (h1 : 2 ≤ sz (wk c) → ns[p + 1]? = some b1 ∧ 0 ≤ b1 ∧ b1 ≤ 255) (h2 : 3 ≤ sz (wk c) → ns[p + 2]? = some b2 ∧ 0 ≤ b2 ∧ b2 ≤ 255) :
    Ev G (j + 4) 14 [d, .int (Int.ofNat p)] (.tup [.str (nmS c), .str (ws (wk c)), shown (wk c) b1 b2, .int (Int.ofNat (sz (wk c)))]) := by
  obtain ⟨_, hk, _, _⟩ := code_at hc
  have hn := named_code (j + 2) hc
  have hpu : ([d, D.int (Int.ofNat p)]).all (pure? 12) = true := by rw [List.all_cons, pure_sq hs]; rfl
  have hL := len_sq hs
  have i0 := ix_sq hs h0
  have hp0 : p < ns.length := (List.getElem?_eq_some_iff.mp h0).1
  have j1 : 2 ≤ sz (wk c) → ∀ s, opIx d (.int (Int.ofNat p + 1)) s = some (.int b1, s) := fun z s => ix_sq hs (h1 z).1 s
  have j2 : 3 ≤ sz (wk c) → ∀ s, opIx d (.int (Int.ofNat p + 2)) s = some (.int b2, s) := fun z s => ix_sq hs (h2 z).1 s
  have e0 : (0 : Int) ≤ Int.ofNat p := Int.natCast_nonneg p
  have e1 : Int.ofNat p < (ns.length : Int) := Int.ofNat_lt.mpr hp0
  have e2 : ¬ ((ns.length : Int) < Int.ofNat p + Int.ofNat (sz (wk c))) := by
    have : (Int.ofNat p + Int.ofNat (sz (wk c))) = ((p + sz (wk c) : Nat) : Int) := rfl
    omega
  generalize hw : wk c = k at *
  refine ev_of (d := d24) rfl rfl rfl sh24 hpu (by match k, hk with | 0, _ => rfl | 1, _ => rfl | 2, _ => rfl | 3, _ => rfl | 4, _ => rfl | 5, _ => rfl) (s' := []) ?_
  show runN 5 _ _ _ = _
  unfold s24
  generalize Int.ofNat p = P at *
  generalize (ns.length : Int) = L at *
  match k, hk, hn, h1, h2, j1, j2, e2 with
  | 0, hk, hn, h1, h2, j1, j2, e2 =>
    have e2 : ¬ (L < P + 1) := e2
    have lk : look (ws 0) cSIZES_BY_WAY = some (.int 1) := look_sz hk
    have esz : Int.ofNat (sz 0) = 1 := rfl
    simp only [runN, sSeq, sIf, sRet, sRetN, sExpr, sAsg, sRaise, sPass, sAug, sPar, putAll, tName, tTup, tAll, goOn, Z.R.out, Z.R.bind_ok, Z.R.bind_exc, Z.R.bind_bad, Z.R.of, Z.R.nx, mC, mVar, m1, m2, mB, mT, mNot, mAnd, mOr, mIf, bNot, bAnd, bOr, bIf, truthR, truth, mTup, mkT, mLst, mkL, aNil, aCons, mCall, mB1, opBin, ipOp, ipAdd, ipMul, opAdd, opSub, opMul, opFdiv, opMod, unNeg, opC, opCmp, op_eq_int, op_in2, op_inl2, mChain, bYes, wVal, wRng, wOf, wR, wipeE, big, List.map_cons, List.map_nil, List.length_cons, List.length_nil, List.replicate, List.cons_append, List.nil_append, List.getElem?_cons_zero, List.getElem?_cons_succ, List.set_cons_zero, List.set_cons_succ, if_true, if_false, decide_true, decide_false, Bool.not_true, Bool.not_false, Bool.true_and, Bool.and_true, Bool.false_and, Bool.and_false, Bool.or_false, Bool.false_or, Bool.true_or, Bool.or_true, Bool.xor_false, Bool.xor_true, Bool.false_xor, Bool.true_xor, Bool.false_eq_true, Bool.true_eq_false, ite_true, ite_false, line, Nat.reduceSub, Nat.reduceAdd, Int.reduceNeg, Int.reducePow, Int.reduceLT, Int.reduceLE, Int.reduceMul, Int.reduceAdd, Int.reduceSub, Int.reduceDiv, Int.reduceMod, Int.reduceEq, Nat.reduceLeDiff, Nat.reduceLT, Nat.reduceEqDiff, and_true, true_and, and_false, false_and, and_self, gt_iff_lt, ge_iff_le, mKIx, mKGet, kGetR, mTold1, toldR, sTryX, Nat.reduceMul, Nat.reduceMod, Nat.reduceDiv, hL, i0, e0, e1, hn _, lk, e2, eqN 0 hk, eqJ 0 hk, shown, esz, Nat.reduceBEq]
  | 1, hk, hn, h1, h2, j1, j2, e2 =>
    have e2 : ¬ (L < P + 2) := e2
    have lk : look (ws 1) cSIZES_BY_WAY = some (.int 2) := look_sz hk
    have esz : Int.ofNat (sz 1) = 2 := rfl
    have q1 := j1 (by decide)
    simp only [runN, sSeq, sIf, sRet, sRetN, sExpr, sAsg, sRaise, sPass, sAug, sPar, putAll, tName, tTup, tAll, goOn, Z.R.out, Z.R.bind_ok, Z.R.bind_exc, Z.R.bind_bad, Z.R.of, Z.R.nx, mC, mVar, m1, m2, mB, mT, mNot, mAnd, mOr, mIf, bNot, bAnd, bOr, bIf, truthR, truth, mTup, mkT, mLst, mkL, aNil, aCons, mCall, mB1, opBin, ipOp, ipAdd, ipMul, opAdd, opSub, opMul, opFdiv, opMod, unNeg, opC, opCmp, op_eq_int, op_in2, op_inl2, mChain, bYes, wVal, wRng, wOf, wR, wipeE, big, List.map_cons, List.map_nil, List.length_cons, List.length_nil, List.replicate, List.cons_append, List.nil_append, List.getElem?_cons_zero, List.getElem?_cons_succ, List.set_cons_zero, List.set_cons_succ, if_true, if_false, decide_true, decide_false, Bool.not_true, Bool.not_false, Bool.true_and, Bool.and_true, Bool.false_and, Bool.and_false, Bool.or_false, Bool.false_or, Bool.true_or, Bool.or_true, Bool.xor_false, Bool.xor_true, Bool.false_xor, Bool.true_xor, Bool.false_eq_true, Bool.true_eq_false, ite_true, ite_false, line, Nat.reduceSub, Nat.reduceAdd, Int.reduceNeg, Int.reducePow, Int.reduceLT, Int.reduceLE, Int.reduceMul, Int.reduceAdd, Int.reduceSub, Int.reduceDiv, Int.reduceMod, Int.reduceEq, Nat.reduceLeDiff, Nat.reduceLT, Nat.reduceEqDiff, and_true, true_and, and_false, false_and, and_self, gt_iff_lt, ge_iff_le, mKIx, mKGet, kGetR, mTold1, toldR, sTryX, Nat.reduceMul, Nat.reduceMod, Nat.reduceDiv, hL, i0, e0, e1, hn _, lk, e2, eqN 1 hk, eqJ 1 hk, shown, esz, Nat.reduceBEq, q1]
  | 2, hk, hn, h1, h2, j1, j2, e2 =>
    have e2 : ¬ (L < P + 2) := e2
    have lk : look (ws 2) cSIZES_BY_WAY = some (.int 2) := look_sz hk
    have esz : Int.ofNat (sz 2) = 2 := rfl
    have q1 := j1 (by decide)
    simp only [runN, sSeq, sIf, sRet, sRetN, sExpr, sAsg, sRaise, sPass, sAug, sPar, putAll, tName, tTup, tAll, goOn, Z.R.out, Z.R.bind_ok, Z.R.bind_exc, Z.R.bind_bad, Z.R.of, Z.R.nx, mC, mVar, m1, m2, mB, mT, mNot, mAnd, mOr, mIf, bNot, bAnd, bOr, bIf, truthR, truth, mTup, mkT, mLst, mkL, aNil, aCons, mCall, mB1, opBin, ipOp, ipAdd, ipMul, opAdd, opSub, opMul, opFdiv, opMod, unNeg, opC, opCmp, op_eq_int, op_in2, op_inl2, mChain, bYes, wVal, wRng, wOf, wR, wipeE, big, List.map_cons, List.map_nil, List.length_cons, List.length_nil, List.replicate, List.cons_append, List.nil_append, List.getElem?_cons_zero, List.getElem?_cons_succ, List.set_cons_zero, List.set_cons_succ, if_true, if_false, decide_true, decide_false, Bool.not_true, Bool.not_false, Bool.true_and, Bool.and_true, Bool.false_and, Bool.and_false, Bool.or_false, Bool.false_or, Bool.true_or, Bool.or_true, Bool.xor_false, Bool.xor_true, Bool.false_xor, Bool.true_xor, Bool.false_eq_true, Bool.true_eq_false, ite_true, ite_false, line, Nat.reduceSub, Nat.reduceAdd, Int.reduceNeg, Int.reducePow, Int.reduceLT, Int.reduceLE, Int.reduceMul, Int.reduceAdd, Int.reduceSub, Int.reduceDiv, Int.reduceMod, Int.reduceEq, Nat.reduceLeDiff, Nat.reduceLT, Nat.reduceEqDiff, and_true, true_and, and_false, false_and, and_self, gt_iff_lt, ge_iff_le, mKIx, mKGet, kGetR, mTold1, toldR, sTryX, Nat.reduceMul, Nat.reduceMod, Nat.reduceDiv, hL, i0, e0, e1, hn _, lk, e2, eqN 2 hk, eqJ 2 hk, shown, esz, Nat.reduceBEq, q1]
  | 3, hk, hn, h1, h2, j1, j2, e2 =>
    have e2 : ¬ (L < P + 3) := e2
    have lk : look (ws 3) cSIZES_BY_WAY = some (.int 3) := look_sz hk
    have esz : Int.ofNat (sz 3) = 3 := rfl
    have q1 := j1 (by decide)
    have q2 := j2 (by decide)
    have w1 := (h1 (by decide)).2
    have w2 := (h2 (by decide)).2
    simp only [runN, sSeq, sIf, sRet, sRetN, sExpr, sAsg, sRaise, sPass, sAug, sPar, putAll, tName, tTup, tAll, goOn, Z.R.out, Z.R.bind_ok, Z.R.bind_exc, Z.R.bind_bad, Z.R.of, Z.R.nx, mC, mVar, m1, m2, mB, mT, mNot, mAnd, mOr, mIf, bNot, bAnd, bOr, bIf, truthR, truth, mTup, mkT, mLst, mkL, aNil, aCons, mCall, mB1, opBin, ipOp, ipAdd, ipMul, opAdd, opSub, opMul, opFdiv, opMod, unNeg, opC, opCmp, op_eq_int, op_in2, op_inl2, mChain, bYes, wVal, wRng, wOf, wR, wipeE, big, List.map_cons, List.map_nil, List.length_cons, List.length_nil, List.replicate, List.cons_append, List.nil_append, List.getElem?_cons_zero, List.getElem?_cons_succ, List.set_cons_zero, List.set_cons_succ, if_true, if_false, decide_true, decide_false, Bool.not_true, Bool.not_false, Bool.true_and, Bool.and_true, Bool.false_and, Bool.and_false, Bool.or_false, Bool.false_or, Bool.true_or, Bool.or_true, Bool.xor_false, Bool.xor_true, Bool.false_xor, Bool.true_xor, Bool.false_eq_true, Bool.true_eq_false, ite_true, ite_false, line, Nat.reduceSub, Nat.reduceAdd, Int.reduceNeg, Int.reducePow, Int.reduceLT, Int.reduceLE, Int.reduceMul, Int.reduceAdd, Int.reduceSub, Int.reduceDiv, Int.reduceMod, Int.reduceEq, Nat.reduceLeDiff, Nat.reduceLT, Nat.reduceEqDiff, and_true, true_and, and_false, false_and, and_self, gt_iff_lt, ge_iff_le, mKIx, mKGet, kGetR, mTold1, toldR, sTryX, Nat.reduceMul, Nat.reduceMod, Nat.reduceDiv, hL, i0, e0, e1, hn _, lk, e2, eqN 3 hk, eqJ 3 hk, shown, esz, Nat.reduceBEq, q1, q2, joined (j + 1) w2.1 w2.2 w1.1 w1.2 _]
  | 4, hk, hn, h1, h2, j1, j2, e2 =>
    have e2 : ¬ (L < P + 3) := e2
    have lk : look (ws 4) cSIZES_BY_WAY = some (.int 3) := look_sz hk
    have esz : Int.ofNat (sz 4) = 3 := rfl
    have q1 := j1 (by decide)
    have q2 := j2 (by decide)
    have w1 := (h1 (by decide)).2
    have w2 := (h2 (by decide)).2
    simp only [runN, sSeq, sIf, sRet, sRetN, sExpr, sAsg, sRaise, sPass, sAug, sPar, putAll, tName, tTup, tAll, goOn, Z.R.out, Z.R.bind_ok, Z.R.bind_exc, Z.R.bind_bad, Z.R.of, Z.R.nx, mC, mVar, m1, m2, mB, mT, mNot, mAnd, mOr, mIf, bNot, bAnd, bOr, bIf, truthR, truth, mTup, mkT, mLst, mkL, aNil, aCons, mCall, mB1, opBin, ipOp, ipAdd, ipMul, opAdd, opSub, opMul, opFdiv, opMod, unNeg, opC, opCmp, op_eq_int, op_in2, op_inl2, mChain, bYes, wVal, wRng, wOf, wR, wipeE, big, List.map_cons, List.map_nil, List.length_cons, List.length_nil, List.replicate, List.cons_append, List.nil_append, List.getElem?_cons_zero, List.getElem?_cons_succ, List.set_cons_zero, List.set_cons_succ, if_true, if_false, decide_true, decide_false, Bool.not_true, Bool.not_false, Bool.true_and, Bool.and_true, Bool.false_and, Bool.and_false, Bool.or_false, Bool.false_or, Bool.true_or, Bool.or_true, Bool.xor_false, Bool.xor_true, Bool.false_xor, Bool.true_xor, Bool.false_eq_true, Bool.true_eq_false, ite_true, ite_false, line, Nat.reduceSub, Nat.reduceAdd, Int.reduceNeg, Int.reducePow, Int.reduceLT, Int.reduceLE, Int.reduceMul, Int.reduceAdd, Int.reduceSub, Int.reduceDiv, Int.reduceMod, Int.reduceEq, Nat.reduceLeDiff, Nat.reduceLT, Nat.reduceEqDiff, and_true, true_and, and_false, false_and, and_self, gt_iff_lt, ge_iff_le, mKIx, mKGet, kGetR, mTold1, toldR, sTryX, Nat.reduceMul, Nat.reduceMod, Nat.reduceDiv, hL, i0, e0, e1, hn _, lk, e2, eqN 4 hk, eqJ 4 hk, shown, esz, Nat.reduceBEq, q1, q2, joined (j + 1) w2.1 w2.2 w1.1 w1.2 _]
  | 5, hk, hn, h1, h2, j1, j2, e2 =>
    have e2 : ¬ (L < P + 2) := e2
    have lk : look (ws 5) cSIZES_BY_WAY = some (.int 2) := look_sz hk
    have esz : Int.ofNat (sz 5) = 2 := rfl
    have q1 := j1 (by decide)
    have w1 := (h1 (by decide)).2
    simp only [runN, sSeq, sIf, sRet, sRetN, sExpr, sAsg, sRaise, sPass, sAug, sPar, putAll, tName, tTup, tAll, goOn, Z.R.out, Z.R.bind_ok, Z.R.bind_exc, Z.R.bind_bad, Z.R.of, Z.R.nx, mC, mVar, m1, m2, mB, mT, mNot, mAnd, mOr, mIf, bNot, bAnd, bOr, bIf, truthR, truth, mTup, mkT, mLst, mkL, aNil, aCons, mCall, mB1, opBin, ipOp, ipAdd, ipMul, opAdd, opSub, opMul, opFdiv, opMod, unNeg, opC, opCmp, op_eq_int, op_in2, op_inl2, mChain, bYes, wVal, wRng, wOf, wR, wipeE, big, List.map_cons, List.map_nil, List.length_cons, List.length_nil, List.replicate, List.cons_append, List.nil_append, List.getElem?_cons_zero, List.getElem?_cons_succ, List.set_cons_zero, List.set_cons_succ, if_true, if_false, decide_true, decide_false, Bool.not_true, Bool.not_false, Bool.true_and, Bool.and_true, Bool.false_and, Bool.and_false, Bool.or_false, Bool.false_or, Bool.true_or, Bool.or_true, Bool.xor_false, Bool.xor_true, Bool.false_xor, Bool.true_xor, Bool.false_eq_true, Bool.true_eq_false, ite_true, ite_false, line, Nat.reduceSub, Nat.reduceAdd, Int.reduceNeg, Int.reducePow, Int.reduceLT, Int.reduceLE, Int.reduceMul, Int.reduceAdd, Int.reduceSub, Int.reduceDiv, Int.reduceMod, Int.reduceEq, Nat.reduceLeDiff, Nat.reduceLT, Nat.reduceEqDiff, and_true, true_and, and_false, false_and, and_self, gt_iff_lt, ge_iff_le, mKIx, mKGet, kGetR, mTold1, toldR, sTryX, Nat.reduceMul, Nat.reduceMod, Nat.reduceDiv, hL, i0, e0, e1, hn _, lk, e2, eqN 5 hk, eqJ 5 hk, shown, esz, Nat.reduceBEq, q1, signed8 j w1.1 w1.2 _]
/-- it ends too soon -/
theorem no_decoded (j : Nat) {d : D} {ns : List Int} (hs : Sq d ns) {p c : Nat} (hc : c < 56) (h0 : ns[p]? = some (Int.ofNat c)) (hl : ns.length < p + sz (wk c)) : Ex G (j + 4) 14 [d, .int (Int.ofNat p)] 2 := by
  obtain ⟨_, hk, _, _⟩ := code_at hc
  have hn := named_code (j + 2) hc
  have hpu : ([d, D.int (Int.ofNat p)]).all (pure? 12) = true := by rw [List.all_cons, pure_sq hs]; rfl
  have hL := len_sq hs
  have i0 := ix_sq hs h0
  have hp0 : p < ns.length := (List.getElem?_eq_some_iff.mp h0).1
  have e0 : (0 : Int) ≤ Int.ofNat p := Int.natCast_nonneg p
  have e1 : Int.ofNat p < (ns.length : Int) := Int.ofNat_lt.mpr hp0
  have e2 : (ns.length : Int) < Int.ofNat p + Int.ofNat (sz (wk c)) := by
    have : (Int.ofNat p + Int.ofNat (sz (wk c))) = ((p + sz (wk c) : Nat) : Int) := rfl
    omega
  have lk := look_sz hk
  refine ex_of (d := d24) rfl rfl rfl sh24 hpu (s' := []) ?_
  show runN 5 _ _ _ = _
  unfold s24
  simp only [runN, sSeq, sIf, sRet, sRetN, sExpr, sAsg, sRaise, sPass, sAug, sPar, putAll, tName, tTup, tAll, goOn, Z.R.out, Z.R.bind_ok, Z.R.bind_exc, Z.R.bind_bad, Z.R.of, Z.R.nx, mC, mVar, m1, m2, mB, mT, mNot, mAnd, mOr, mIf, bNot, bAnd, bOr, bIf, truthR, truth, mTup, mkT, mLst, mkL, aNil, aCons, mCall, mB1, opBin, ipOp, ipAdd, ipMul, opAdd, opSub, opMul, opFdiv, opMod, unNeg, opC, opCmp, op_eq_int, op_in2, op_inl2, mChain, bYes, wVal, wRng, wOf, wR, wipeE, big, List.map_cons, List.map_nil, List.length_cons, List.length_nil, List.replicate, List.cons_append, List.nil_append, List.getElem?_cons_zero, List.getElem?_cons_succ, List.set_cons_zero, List.set_cons_succ, if_true, if_false, decide_true, decide_false, Bool.not_true, Bool.not_false, Bool.true_and, Bool.and_true, Bool.false_and, Bool.and_false, Bool.or_false, Bool.false_or, Bool.true_or, Bool.or_true, Bool.xor_false, Bool.xor_true, Bool.false_xor, Bool.true_xor, Bool.false_eq_true, Bool.true_eq_false, ite_true, ite_false, line, Nat.reduceSub, Nat.reduceAdd, Int.reduceNeg, Int.reducePow, Int.reduceLT, Int.reduceLE, Int.reduceMul, Int.reduceAdd, Int.reduceSub, Int.reduceDiv, Int.reduceMod, Int.reduceEq, Nat.reduceLeDiff, Nat.reduceLT, Nat.reduceEqDiff, and_true, true_and, and_false, false_and, and_self, gt_iff_lt, ge_iff_le, mKIx, mKGet, kGetR, mTold1, toldR, sTryX, Nat.reduceMul, Nat.reduceMod, Nat.reduceDiv, hL, i0, e0, e1, hn _, lk, e2]
/-- nothing there -/
theorem nil_decoded (j : Nat) {d : D} (hs : Sq d []) : Ex G (j + 4) 14 [d, .int 0] 2 := by
  have hpu : ([d, D.int 0]).all (pure? 12) = true := by rw [List.all_cons, pure_sq hs]; rfl
  have hL := len_sq hs
  refine ex_of (d := d24) rfl rfl rfl sh24 hpu (s' := []) ?_
  show runN 5 _ _ _ = _
  unfold s24
  have e1 : ¬ ((0 : Int) < (([] : List Int).length : Nat)) := by decide
  simp only [runN, sSeq, sIf, sRet, sRetN, sExpr, sAsg, sRaise, sPass, sAug, sPar, putAll, tName, tTup, tAll, goOn, Z.R.out, Z.R.bind_ok, Z.R.bind_exc, Z.R.bind_bad, Z.R.of, Z.R.nx, mC, mVar, m1, m2, mB, mT, mNot, mAnd, mOr, mIf, bNot, bAnd, bOr, bIf, truthR, truth, mTup, mkT, mLst, mkL, aNil, aCons, mCall, mB1, opBin, ipOp, ipAdd, ipMul, opAdd, opSub, opMul, opFdiv, opMod, unNeg, opC, opCmp, op_eq_int, op_in2, op_inl2, mChain, bYes, wVal, wRng, wOf, wR, wipeE, big, List.map_cons, List.map_nil, List.length_cons, List.length_nil, List.replicate, List.cons_append, List.nil_append, List.getElem?_cons_zero, List.getElem?_cons_succ, List.set_cons_zero, List.set_cons_succ, if_true, if_false, decide_true, decide_false, Bool.not_true, Bool.not_false, Bool.true_and, Bool.and_true, Bool.false_and, Bool.and_false, Bool.or_false, Bool.false_or, Bool.true_or, Bool.or_true, Bool.xor_false, Bool.xor_true, Bool.false_xor, Bool.true_xor, Bool.false_eq_true, Bool.true_eq_false, ite_true, ite_false, line, Nat.reduceSub, Nat.reduceAdd, Int.reduceNeg, Int.reducePow, Int.reduceLT, Int.reduceLE, Int.reduceMul, Int.reduceAdd, Int.reduceSub, Int.reduceDiv, Int.reduceMod, Int.reduceEq, Nat.reduceLeDiff, Nat.reduceLT, Nat.reduceEqDiff, and_true, true_and, and_false, false_and, and_self, gt_iff_lt, ge_iff_le, mKIx, mKGet, kGetR, mTold1, toldR, sTryX, Nat.reduceMul, Nat.reduceMod, Nat.reduceDiv, hL, e1]
  rfl
end K02
end Z

set_option Elab.async false
set_option linter.all false
set_option maxRecDepth 100000
set_option maxHeartbeats 4000000
namespace Z
open PySem
theorem eqv_all {f : D → Option PyData} (h : ∀ d x, f d = some x → PyData.eqv x x = true) : ∀ {ds : List D} {xs : List PyData}, optAll f ds = some xs → PyData.eqvAll xs xs = true
  | [], xs, e => by cases e; exact eqvA_nil
  | d :: ds, xs, e => by
    rw [optAll_cons] at e
    cases h1 : f d with
    | none => rw [h1] at e; cases e
    | some x =>
      cases h2 : optAll f ds with
      | none => rw [h1, h2] at e; cases e
      | some ys =>
        rw [h1, h2] at e
        cases e
        rw [eqvA_cons, h d x h1, eqv_all h h2]
        rfl
theorem eqv_rf {s : Sto} : ∀ (k : Nat) (d : D) (x : PyData), pyOf s k d = some x → PyData.eqv x x = true
  | 0, d, x, h => by cases h
  | k + 1, d, x, h => by
    cases d with
    | non => cases h; unfold PyData.eqv; rfl
    | bl b => cases h; rw [eqv_bl]; simp
    | int i => cases h; rw [eqv_int]; simp
    | str z =>
      have h : (if strB z then some (PyData.str z) else none) = some x := h
      split at h
      · cases h; rw [eqv_str]; simp
      · cases h
    | tup xs =>
      have h : (optAll (pyOf s k) xs).map PyData.tuple = some x := h
      cases e : optAll (pyOf s k) xs with
      | none => rw [e] at h; cases h
      | some ys =>
        rw [e] at h
        cases h
        rw [eqv_tup]
        exact eqv_all (eqv_rf k) e
    | lst xs =>
      have h : (optAll (pyOf s k) xs).map PyData.list = some x := h
      cases e : optAll (pyOf s k) xs with
      | none => rw [e] at h; cases h
      | some ys =>
        rw [e] at h
        cases h
        rw [eqv_list]
        exact eqv_all (eqv_rf k) e
    | ref n =>
      have h : (match atS n s with | some xs => (optAll (pyOf s k) xs).map PyData.list | none => none) = some x := h
      cases ha : atS n s with
      | none => rw [ha] at h; cases h
      | some zs =>
        rw [ha] at h
        have h : (optAll (pyOf s k) zs).map PyData.list = some x := h
        cases e : optAll (pyOf s k) zs with
        | none => rw [e] at h; cases h
        | some ys =>
          rw [e] at h
          cases h
          rw [eqv_list]
          exact eqv_all (eqv_rf k) e
    | _ => cases h
/-- the same data -/
theorem op_eq_rf {d : D} {s : Sto} {x : PyData} (h : pyOf s 12 d = some x) (n : Bool) : opEq n d d s = some (.bl (xor n true), s) := by
  unfold opEq
  rw [h]
  show some (D.bl (xor n (PyData.eqv x x)), s) = _
  rw [eqv_rf 12 d x h]
namespace K02
/-! ### texts of codes -/
def iS (v : Int) : Str := Str.ofString (toString v)
def txt (k : Nat) (n : Str) (v : Int) : Str := match k with
  | 0 => n
  | 1 => (n ++ (" #" : Str)) ++ iS v
  | 2 => (n ++ (" " : Str)) ++ iS v
  | 3 => (n ++ (if v < 256 then (" =" : Str) else (" " : Str))) ++ iS v
  | 4 => ((n ++ (" " : Str)) ++ iS v) ++ (",x" : Str)
  | _ => ((n ++ (" " : Str)) ++ (if 0 ≤ v then ("+" : Str) else ("" : Str))) ++ iS v
theorem strB_txt {k : Nat} {n : Str} (h : strB n = true) (v : Int) : strB (txt k n v) = true := by
  unfold txt
  split
  · exact h
  · exact strB_ap (strB_ap h (strB_of _)) (strB_of _)
  · exact strB_ap (strB_ap h (strB_of _)) (strB_of _)
  · exact strB_ap (strB_ap h (by split <;> exact strB_of _)) (strB_of _)
  · exact strB_ap (strB_ap (strB_ap h (strB_of _)) (strB_of _)) (strB_of _)
  · exact strB_ap (strB_ap (strB_ap h (strB_of _)) (by split <;> exact strB_of _)) (strB_of _)
theorem l2a : (" #" : Str).length = 2 := by decide +kernel
theorem l2b : (" =" : Str).length = 2 := by decide +kernel
theorem l1a : (" " : Str).length = 1 := by decide +kernel
theorem l1b : ("+" : Str).length = 1 := by decide +kernel
theorem l0a : ("" : Str).length = 0 := by decide +kernel
theorem l2c : (",x" : Str).length = 2 := by decide +kernel
/-- a text by addition -/
theorem add_s {m : Bool} {a b : Str} (h : a.length + b.length ≤ 16777216) (s : Sto) : opAdd m (.str a) (.str b) s = some (.str (a ++ b), s) := if_pos h
theorem law_text (j : Nat) {c : Nat} (h : c < 56) {v : Int} (v0 : -100000 < v) (v1 : v < 100000) : Ev G (j + 1) 27 [.str (nmS c), .str (ws (wk c)), .int v] (.str (txt (wk c) (nmS c) v)) := fun s => by
  rw [fn27]
  obtain ⟨_, hk, hs, hl⟩ := code_at h
  have ht := len_int v0 v1
  have hg := log_int v0 v1
  have hS : ∀ s, bStr [.int v] s = some (.str (iS v), s) := fun s => if_pos hg
  have ht : (iS v).length ≤ 6 := ht
  generalize hw : wk c = k at *
  generalize hiv : iS v = t at *
  generalize nmS c = n at *
  unfold s38
  have A1 : ∀ s, opAdd false (.str n) (.str " #") s = some (.str (n ++ (" #" : Str)), s) := add_s (by rw [l2a]; omega)
  have A2 : ∀ s, opAdd false (.str (n ++ (" #" : Str))) (.str t) s = some (.str ((n ++ (" #" : Str)) ++ t), s) := add_s (by rw [len_ap, l2a]; omega)
  have A3 : ∀ s, opAdd false (.str n) (.str " ") s = some (.str (n ++ (" " : Str)), s) := add_s (by rw [l1a]; omega)
  have A4 : ∀ s, opAdd false (.str (n ++ (" " : Str))) (.str t) s = some (.str ((n ++ (" " : Str)) ++ t), s) := add_s (by rw [len_ap, l1a]; omega)
  have A5 : ∀ s, opAdd false (.str n) (.str " =") s = some (.str (n ++ (" =" : Str)), s) := add_s (by rw [l2b]; omega)
  have A6 : ∀ s, opAdd false (.str (n ++ (" =" : Str))) (.str t) s = some (.str ((n ++ (" =" : Str)) ++ t), s) := add_s (by rw [len_ap, l2b]; omega)
  have A7 : ∀ s, opAdd false (.str ((n ++ (" " : Str)) ++ t)) (.str ",x") s = some (.str (((n ++ (" " : Str)) ++ t) ++ (",x" : Str)), s) := add_s (by rw [len_ap, len_ap, l1a, l2c]; omega)
  have A8 : ∀ s, opAdd false (.str (n ++ (" " : Str))) (.str "+") s = some (.str ((n ++ (" " : Str)) ++ ("+" : Str)), s) := add_s (by rw [len_ap, l1a, l1b]; omega)
  have A9 : ∀ s, opAdd false (.str (n ++ (" " : Str))) (.str "") s = some (.str ((n ++ (" " : Str)) ++ ("" : Str)), s) := add_s (by rw [len_ap, l1a, l0a]; omega)
  have B1 : ∀ s, opAdd false (.str ((n ++ (" " : Str)) ++ ("+" : Str))) (.str t) s = some (.str (((n ++ (" " : Str)) ++ ("+" : Str)) ++ t), s) := add_s (by rw [len_ap, len_ap, l1a, l1b]; omega)
  have B2 : ∀ s, opAdd false (.str ((n ++ (" " : Str)) ++ ("" : Str))) (.str t) s = some (.str (((n ++ (" " : Str)) ++ ("" : Str)) ++ t), s) := add_s (by rw [len_ap, len_ap, l1a, l0a]; omega)
  match k, hk with
  | 0, hk => simp only [runN, sSeq, sIf, sRet, sExpr, sPass, R.out, R.bind_ok, R.of, mC, mVar, m2, mB, mB1, mIf, bAnd, opBin, opC, opCmp, mCall, aCons, aNil, mFmt, jnE, List.map_cons, List.map_nil, List.length_cons, List.length_nil, List.replicate, List.cons_append, List.nil_append, List.getElem?_cons_zero, List.getElem?_cons_succ, if_true, if_false, Bool.xor_false, Bool.false_xor, Bool.false_eq_true, Bool.true_eq_false, ite_true, ite_false, decide_true, decide_false, Nat.reduceSub, Nat.reduceAdd, ge_iff_le, line, eqN 0 hk, eqV 0 hk, eqJ 0 hk, eqX 0 hk, eqF 0 hk, Nat.reduceBEq, txt, hiv, hS, A1, A2, A3, A4, A7]
  | 1, hk => simp only [runN, sSeq, sIf, sRet, sExpr, sPass, R.out, R.bind_ok, R.of, mC, mVar, m2, mB, mB1, mIf, bAnd, opBin, opC, opCmp, mCall, aCons, aNil, mFmt, jnE, List.map_cons, List.map_nil, List.length_cons, List.length_nil, List.replicate, List.cons_append, List.nil_append, List.getElem?_cons_zero, List.getElem?_cons_succ, if_true, if_false, Bool.xor_false, Bool.false_xor, Bool.false_eq_true, Bool.true_eq_false, ite_true, ite_false, decide_true, decide_false, Nat.reduceSub, Nat.reduceAdd, ge_iff_le, line, eqN 1 hk, eqV 1 hk, eqJ 1 hk, eqX 1 hk, eqF 1 hk, Nat.reduceBEq, txt, hiv, hS, A1, A2, A3, A4, A7]
  | 2, hk => simp only [runN, sSeq, sIf, sRet, sExpr, sPass, R.out, R.bind_ok, R.of, mC, mVar, m2, mB, mB1, mIf, bAnd, opBin, opC, opCmp, mCall, aCons, aNil, mFmt, jnE, List.map_cons, List.map_nil, List.length_cons, List.length_nil, List.replicate, List.cons_append, List.nil_append, List.getElem?_cons_zero, List.getElem?_cons_succ, if_true, if_false, Bool.xor_false, Bool.false_xor, Bool.false_eq_true, Bool.true_eq_false, ite_true, ite_false, decide_true, decide_false, Nat.reduceSub, Nat.reduceAdd, ge_iff_le, line, eqN 2 hk, eqV 2 hk, eqJ 2 hk, eqX 2 hk, eqF 2 hk, Nat.reduceBEq, txt, hiv, hS, A1, A2, A3, A4, A7]
  | 3, hk => by_cases hv : v < 256 <;> simp only [runN, sSeq, sIf, sRet, sExpr, sPass, R.out, R.bind_ok, R.of, mC, mVar, m2, mB, mB1, mIf, bAnd, opBin, opC, opCmp, mCall, aCons, aNil, mFmt, jnE, List.map_cons, List.map_nil, List.length_cons, List.length_nil, List.replicate, List.cons_append, List.nil_append, List.getElem?_cons_zero, List.getElem?_cons_succ, if_true, if_false, Bool.xor_false, Bool.false_xor, Bool.false_eq_true, Bool.true_eq_false, ite_true, ite_false, decide_true, decide_false, Nat.reduceSub, Nat.reduceAdd, ge_iff_le, line, eqN 3 hk, eqV 3 hk, eqJ 3 hk, eqX 3 hk, eqF 3 hk, Nat.reduceBEq, txt, hiv, hS, hv, A3, A4, A5, A6]
  | 4, hk => simp only [runN, sSeq, sIf, sRet, sExpr, sPass, R.out, R.bind_ok, R.of, mC, mVar, m2, mB, mB1, mIf, bAnd, opBin, opC, opCmp, mCall, aCons, aNil, mFmt, jnE, List.map_cons, List.map_nil, List.length_cons, List.length_nil, List.replicate, List.cons_append, List.nil_append, List.getElem?_cons_zero, List.getElem?_cons_succ, if_true, if_false, Bool.xor_false, Bool.false_xor, Bool.false_eq_true, Bool.true_eq_false, ite_true, ite_false, decide_true, decide_false, Nat.reduceSub, Nat.reduceAdd, ge_iff_le, line, eqN 4 hk, eqV 4 hk, eqJ 4 hk, eqX 4 hk, eqF 4 hk, Nat.reduceBEq, txt, hiv, hS, A1, A2, A3, A4, A7]
  | 5, hk => by_cases hv : 0 ≤ v <;> simp only [runN, sSeq, sIf, sRet, sExpr, sPass, R.out, R.bind_ok, R.of, mC, mVar, m2, mB, mB1, mIf, bAnd, opBin, opC, opCmp, mCall, aCons, aNil, mFmt, jnE, List.map_cons, List.map_nil, List.length_cons, List.length_nil, List.replicate, List.cons_append, List.nil_append, List.getElem?_cons_zero, List.getElem?_cons_succ, if_true, if_false, Bool.xor_false, Bool.false_xor, Bool.false_eq_true, Bool.true_eq_false, ite_true, ite_false, decide_true, decide_false, Nat.reduceSub, Nat.reduceAdd, ge_iff_le, line, eqN 5 hk, eqV 5 hk, eqJ 5 hk, eqX 5 hk, eqF 5 hk, Nat.reduceBEq, txt, hiv, hS, hv, A3, A8, A9, B1, B2]
theorem told_code0 (j : Nat) {c : Nat} (h : c < 56) (hw : wk c = 0) : Ev G (j + 4) 15 [.str (nmS c), .str (ws (wk c)), .non] (.str (nmS c)) := by
  obtain ⟨_, hk, hs, hl⟩ := code_at h
  have hc := code_of (j + 1) h
  rw [hw] at hc ⊢
  have he : Ev G (j + 3) 13 [.str (nmS c), .str (ws 0), .non] (.tup [.int (Int.ofNat c)]) := by
    refine ev_of (d := d23) rfl rfl rfl sh23 rfl rfl (s' := []) ?_
    show runN 6 _ _ _ = _
    unfold s23
    have hk : 0 < 6 := by decide
    simp only [runN, sSeq, sIf, sRet, sRetN, sExpr, sAsg, sRaise, sPass, sAug, sPar, putAll, tName, tTup, tAll, goOn, Z.R.out, Z.R.bind_ok, Z.R.bind_exc, Z.R.bind_bad, Z.R.of, Z.R.nx, mC, mVar, m1, m2, mB, mT, mNot, mAnd, mOr, mIf, bNot, bAnd, bOr, bIf, truthR, truth, mTup, mkT, mLst, mkL, aNil, aCons, mCall, mB1, opBin, ipOp, ipAdd, ipMul, opAdd, opSub, opMul, opFdiv, opMod, unNeg, opC, opCmp, op_eq_int, op_in2, op_inl2, mChain, bYes, wVal, wRng, wOf, wR, wipeE, big, List.map_cons, List.map_nil, List.length_cons, List.length_nil, List.replicate, List.cons_append, List.nil_append, List.getElem?_cons_zero, List.getElem?_cons_succ, List.set_cons_zero, List.set_cons_succ, if_true, if_false, decide_true, decide_false, Bool.not_true, Bool.not_false, Bool.true_and, Bool.and_true, Bool.false_and, Bool.and_false, Bool.or_false, Bool.false_or, Bool.true_or, Bool.or_true, Bool.xor_false, Bool.xor_true, Bool.false_xor, Bool.true_xor, Bool.false_eq_true, Bool.true_eq_false, ite_true, ite_false, line, Nat.reduceSub, Nat.reduceAdd, Int.reduceNeg, Int.reducePow, Int.reduceLT, Int.reduceLE, Int.reduceMul, Int.reduceAdd, Int.reduceSub, Int.reduceDiv, Int.reduceMod, Int.reduceEq, Nat.reduceLeDiff, Nat.reduceLT, Nat.reduceEqDiff, and_true, true_and, and_false, false_and, and_self, gt_iff_lt, ge_iff_le, mKIx, mKGet, kGetR, mTold1, toldR, sTryX, Nat.reduceMul, Nat.reduceMod, Nat.reduceDiv, hc _, inVN 0 hk, inFX 0 hk, eqJ 0 hk, catch00, Nat.reduceBEq]
  refine ev_of (d := d25) rfl rfl rfl sh25 rfl rfl (s' := []) ?_
  show runN 3 _ _ _ = _
  unfold s25
  have hk : 0 < 6 := by decide
  simp only [runN, sSeq, sIf, sRet, sRetN, sExpr, sAsg, sRaise, sPass, sAug, sPar, putAll, tName, tTup, tAll, goOn, Z.R.out, Z.R.bind_ok, Z.R.bind_exc, Z.R.bind_bad, Z.R.of, Z.R.nx, mC, mVar, m1, m2, mB, mT, mNot, mAnd, mOr, mIf, bNot, bAnd, bOr, bIf, truthR, truth, mTup, mkT, mLst, mkL, aNil, aCons, mCall, mB1, opBin, ipOp, ipAdd, ipMul, opAdd, opSub, opMul, opFdiv, opMod, unNeg, opC, opCmp, op_eq_int, op_in2, op_inl2, mChain, bYes, wVal, wRng, wOf, wR, wipeE, big, List.map_cons, List.map_nil, List.length_cons, List.length_nil, List.replicate, List.cons_append, List.nil_append, List.getElem?_cons_zero, List.getElem?_cons_succ, List.set_cons_zero, List.set_cons_succ, if_true, if_false, decide_true, decide_false, Bool.not_true, Bool.not_false, Bool.true_and, Bool.and_true, Bool.false_and, Bool.and_false, Bool.or_false, Bool.false_or, Bool.true_or, Bool.or_true, Bool.xor_false, Bool.xor_true, Bool.false_xor, Bool.true_xor, Bool.false_eq_true, Bool.true_eq_false, ite_true, ite_false, line, Nat.reduceSub, Nat.reduceAdd, Int.reduceNeg, Int.reducePow, Int.reduceLT, Int.reduceLE, Int.reduceMul, Int.reduceAdd, Int.reduceSub, Int.reduceDiv, Int.reduceMod, Int.reduceEq, Nat.reduceLeDiff, Nat.reduceLT, Nat.reduceEqDiff, and_true, true_and, and_false, false_and, and_self, gt_iff_lt, ge_iff_le, mKIx, mKGet, kGetR, mTold1, toldR, sTryX, Nat.reduceMul, Nat.reduceMod, Nat.reduceDiv, he _, eqN 0 hk, Nat.reduceBEq]
theorem told_code (j : Nat) {c : Nat} (h : c < 56) (h0 : wk c ≠ 0) {v : Int} (hf : fitB (wk c) v = true) (v0 : -100000 < v) (v1 : v < 100000) : Ev G (j + 4) 15 [.str (nmS c), .str (ws (wk c)), .int v] (.str (txt (wk c) (nmS c) v)) := by
  obtain ⟨_, hk, hs, hl⟩ := code_at h
  have he := encoded j h hf
  have ht := len_int v0 v1
  have hg := log_int v0 v1
  have hF : ∀ s : Sto, (match D.int v with
    | .str y => if y.length ≤ line then .ok (.str y) s else .bad
    | .int i => if i.natAbs.log2 < 1920 then .ok (.str (toString i)) s else .bad
    | _ => .bad : R D) = .ok (.str (iS v)) s := fun s => if_pos hg
  have ht : (iS v).length ≤ 6 := ht
  have hpu : ∀ k, ([D.str (nmS c), .str (ws k), .int v]).all (pure? 12) = true := fun k => rfl
  have hlog : v.natAbs.log2 < 1920 := hg
  refine ev_of (d := d25) rfl rfl rfl sh25 (hpu _) rfl (s' := []) ?_
  show runN 3 _ _ _ = _
  unfold s25
  generalize hw : wk c = k at *
  have eS : (Str.ofString (toString v)) = iS v := rfl
  generalize hiv : iS v = t at *
  generalize nmS c = n at *
  have he := he
  have e1 : (Str.empty ++ (" #" : Str)) = (" #" : Str) := em_ap _
  have e2 : (Str.empty ++ (" " : Str)) = (" " : Str) := em_ap _
  have A1 : ∀ s, opAdd false (.str n) (.str ((" #" : Str) ++ t)) s = some (.str ((n ++ (" #" : Str)) ++ t), s) := fun s => by rw [ap_assoc]; exact add_s (by rw [len_ap, l2a]; omega) s
  have A3 : ∀ s, opAdd false (.str n) (.str " ") s = some (.str (n ++ (" " : Str)), s) := add_s (by rw [l1a]; omega)
  have A4 : ∀ s, opAdd false (.str (n ++ (" " : Str))) (.str t) s = some (.str ((n ++ (" " : Str)) ++ t), s) := add_s (by rw [len_ap, l1a]; omega)
  have A5 : ∀ s, opAdd false (.str n) (.str " =") s = some (.str (n ++ (" =" : Str)), s) := add_s (by rw [l2b]; omega)
  have A6 : ∀ s, opAdd false (.str (n ++ (" =" : Str))) (.str t) s = some (.str ((n ++ (" =" : Str)) ++ t), s) := add_s (by rw [len_ap, l2b]; omega)
  have A7 : ∀ s, opAdd false (.str n) (.str (((" " : Str) ++ t) ++ (",x" : Str))) s = some (.str (((n ++ (" " : Str)) ++ t) ++ (",x" : Str)), s) := fun s => by
    have e : ((n ++ (" " : Str)) ++ t) ++ (",x" : Str) = n ++ (((" " : Str) ++ t) ++ (",x" : Str)) := by simp only [ap_assoc]
    rw [e]
    have hb : n.length + (((" " : Str) ++ t) ++ (",x" : Str)).length ≤ 16777216 := by rw [len_ap, len_ap, l1a, l2c]; omega
    exact add_s hb s
  have A8 : ∀ s, opAdd false (.str (n ++ (" " : Str))) (.str "+") s = some (.str ((n ++ (" " : Str)) ++ ("+" : Str)), s) := add_s (by rw [len_ap, l1a, l1b]; omega)
  have A9 : ∀ s, opAdd false (.str (n ++ (" " : Str))) (.str "") s = some (.str ((n ++ (" " : Str)) ++ ("" : Str)), s) := add_s (by rw [len_ap, l1a, l0a]; omega)
  have B1 : ∀ s, opAdd false (.str ((n ++ (" " : Str)) ++ ("+" : Str))) (.str t) s = some (.str (((n ++ (" " : Str)) ++ ("+" : Str)) ++ t), s) := add_s (by rw [len_ap, len_ap, l1a, l1b]; omega)
  have B2 : ∀ s, opAdd false (.str ((n ++ (" " : Str)) ++ ("" : Str))) (.str t) s = some (.str (((n ++ (" " : Str)) ++ ("" : Str)) ++ t), s) := add_s (by rw [len_ap, len_ap, l1a, l0a]; omega)
  have g1 : (" #" : Str).length ≤ 16777216 := by rw [l2a]; decide
  have g2 : ((" #" : Str) ++ t).length ≤ 16777216 := by rw [len_ap, l2a]; omega
  have g3 : (" " : Str).length ≤ 16777216 := by rw [l1a]; decide
  have g4 : ((" " : Str) ++ t).length ≤ 16777216 := by rw [len_ap, l1a]; omega
  have g5 : (((" " : Str) ++ t) ++ (",x" : Str)).length ≤ 16777216 := by rw [len_ap, len_ap, l1a, l2c]; omega
  match k, hk, h0, he with
  | 0, hk, h0, he => exact absurd rfl h0
  | 1, hk, h0, he => simp only [runN, sSeq, sIf, sRet, sExpr, sPass, R.out, R.bind_ok, R.of, mC, mVar, m2, mB, mB1, mIf, bAnd, opBin, opC, opCmp, mCall, aCons, aNil, mFmt, jnE, List.map_cons, List.map_nil, List.length_cons, List.length_nil, List.replicate, List.cons_append, List.nil_append, List.getElem?_cons_zero, List.getElem?_cons_succ, if_true, if_false, Bool.xor_false, Bool.false_xor, Bool.false_eq_true, Bool.true_eq_false, ite_true, ite_false, decide_true, decide_false, Nat.reduceSub, Nat.reduceAdd, ge_iff_le, line, he _, eS, hlog, e1, e2, g1, g2, g3, g4, g5, eqN 1 hk, eqV 1 hk, eqJ 1 hk, eqX 1 hk, eqF 1 hk, Nat.reduceBEq, txt, hiv, A1, A3, A4, A7]
  | 2, hk, h0, he => simp only [runN, sSeq, sIf, sRet, sExpr, sPass, R.out, R.bind_ok, R.of, mC, mVar, m2, mB, mB1, mIf, bAnd, opBin, opC, opCmp, mCall, aCons, aNil, mFmt, jnE, List.map_cons, List.map_nil, List.length_cons, List.length_nil, List.replicate, List.cons_append, List.nil_append, List.getElem?_cons_zero, List.getElem?_cons_succ, if_true, if_false, Bool.xor_false, Bool.false_xor, Bool.false_eq_true, Bool.true_eq_false, ite_true, ite_false, decide_true, decide_false, Nat.reduceSub, Nat.reduceAdd, ge_iff_le, line, he _, eS, hlog, e1, e2, g1, g2, g3, g4, g5, eqN 2 hk, eqV 2 hk, eqJ 2 hk, eqX 2 hk, eqF 2 hk, Nat.reduceBEq, txt, hiv, A1, A3, A4, A7]
  | 3, hk, h0, he => by_cases hv : v < 256 <;> simp only [runN, sSeq, sIf, sRet, sExpr, sPass, R.out, R.bind_ok, R.of, mC, mVar, m2, mB, mB1, mIf, bAnd, opBin, opC, opCmp, mCall, aCons, aNil, mFmt, jnE, List.map_cons, List.map_nil, List.length_cons, List.length_nil, List.replicate, List.cons_append, List.nil_append, List.getElem?_cons_zero, List.getElem?_cons_succ, if_true, if_false, Bool.xor_false, Bool.false_xor, Bool.false_eq_true, Bool.true_eq_false, ite_true, ite_false, decide_true, decide_false, Nat.reduceSub, Nat.reduceAdd, ge_iff_le, line, he _, eS, hlog, e1, e2, g1, g2, g3, g4, g5, eqN 3 hk, eqV 3 hk, eqJ 3 hk, eqX 3 hk, eqF 3 hk, Nat.reduceBEq, txt, hiv, hv, A3, A4, A5, A6]
  | 4, hk, h0, he => simp only [runN, sSeq, sIf, sRet, sExpr, sPass, R.out, R.bind_ok, R.of, mC, mVar, m2, mB, mB1, mIf, bAnd, opBin, opC, opCmp, mCall, aCons, aNil, mFmt, jnE, List.map_cons, List.map_nil, List.length_cons, List.length_nil, List.replicate, List.cons_append, List.nil_append, List.getElem?_cons_zero, List.getElem?_cons_succ, if_true, if_false, Bool.xor_false, Bool.false_xor, Bool.false_eq_true, Bool.true_eq_false, ite_true, ite_false, decide_true, decide_false, Nat.reduceSub, Nat.reduceAdd, ge_iff_le, line, he _, eS, hlog, e1, e2, g1, g2, g3, g4, g5, eqN 4 hk, eqV 4 hk, eqJ 4 hk, eqX 4 hk, eqF 4 hk, Nat.reduceBEq, txt, hiv, A1, A3, A4, A7]
  | 5, hk, h0, he => by_cases hv : 0 ≤ v <;> simp only [runN, sSeq, sIf, sRet, sExpr, sPass, R.out, R.bind_ok, R.of, mC, mVar, m2, mB, mB1, mIf, bAnd, opBin, opC, opCmp, mCall, aCons, aNil, mFmt, jnE, List.map_cons, List.map_nil, List.length_cons, List.length_nil, List.replicate, List.cons_append, List.nil_append, List.getElem?_cons_zero, List.getElem?_cons_succ, if_true, if_false, Bool.xor_false, Bool.false_xor, Bool.false_eq_true, Bool.true_eq_false, ite_true, ite_false, decide_true, decide_false, Nat.reduceSub, Nat.reduceAdd, ge_iff_le, line, he _, eS, hlog, e1, e2, g1, g2, g3, g4, g5, eqN 5 hk, eqV 5 hk, eqJ 5 hk, eqX 5 hk, eqF 5 hk, Nat.reduceBEq, txt, hiv, hv, A3, A8, A9, B1, B2]
end K02
end Z

set_option Elab.async false
set_option linter.all false
set_option maxRecDepth 100000
set_option maxHeartbeats 4000000
namespace Z
open PySem
namespace K02
theorem all56 {P : Nat → Prop} (h0 : P 0) (h1 : P 1) (h2 : P 2) (h3 : P 3) (h4 : P 4) (h5 : P 5) (h6 : P 6) (h7 : P 7) (h8 : P 8) (h9 : P 9) (h10 : P 10) (h11 : P 11) (h12 : P 12) (h13 : P 13) (h14 : P 14) (h15 : P 15) (h16 : P 16) (h17 : P 17) (h18 : P 18) (h19 : P 19) (h20 : P 20) (h21 : P 21) (h22 : P 22) (h23 : P 23) (h24 : P 24) (h25 : P 25) (h26 : P 26) (h27 : P 27) (h28 : P 28) (h29 : P 29) (h30 : P 30) (h31 : P 31) (h32 : P 32) (h33 : P 33) (h34 : P 34) (h35 : P 35) (h36 : P 36) (h37 : P 37) (h38 : P 38) (h39 : P 39) (h40 : P 40) (h41 : P 41) (h42 : P 42) (h43 : P 43) (h44 : P 44) (h45 : P 45) (h46 : P 46) (h47 : P 47) (h48 : P 48) (h49 : P 49) (h50 : P 50) (h51 : P 51) (h52 : P 52) (h53 : P 53) (h54 : P 54) (h55 : P 55) {c : Nat} (h : c < 56) : P c := by
  match c, h with
  | 0, _ => exact h0
  | 1, _ => exact h1
  | 2, _ => exact h2
  | 3, _ => exact h3
  | 4, _ => exact h4
  | 5, _ => exact h5
  | 6, _ => exact h6
  | 7, _ => exact h7
  | 8, _ => exact h8
  | 9, _ => exact h9
  | 10, _ => exact h10
  | 11, _ => exact h11
  | 12, _ => exact h12
  | 13, _ => exact h13
  | 14, _ => exact h14
  | 15, _ => exact h15
  | 16, _ => exact h16
  | 17, _ => exact h17
  | 18, _ => exact h18
  | 19, _ => exact h19
  | 20, _ => exact h20
  | 21, _ => exact h21
  | 22, _ => exact h22
  | 23, _ => exact h23
  | 24, _ => exact h24
  | 25, _ => exact h25
  | 26, _ => exact h26
  | 27, _ => exact h27
  | 28, _ => exact h28
  | 29, _ => exact h29
  | 30, _ => exact h30
  | 31, _ => exact h31
  | 32, _ => exact h32
  | 33, _ => exact h33
  | 34, _ => exact h34
  | 35, _ => exact h35
  | 36, _ => exact h36
  | 37, _ => exact h37
  | 38, _ => exact h38
  | 39, _ => exact h39
  | 40, _ => exact h40
  | 41, _ => exact h41
  | 42, _ => exact h42
  | 43, _ => exact h43
  | 44, _ => exact h44
  | 45, _ => exact h45
  | 46, _ => exact h46
  | 47, _ => exact h47
  | 48, _ => exact h48
  | 49, _ => exact h49
  | 50, _ => exact h50
  | 51, _ => exact h51
  | 52, _ => exact h52
  | 53, _ => exact h53
  | 54, _ => exact h54
  | 55, _ => exact h55
  | n + 56, h => exact absurd h (by omega)
theorem law_steps (j : Nat) {c : Nat} (h : c < 56) (s : Sto) : prog G (j + 1) 28 [.str (nmS c), .str (ws (wk c))] s = .ok (.int (stp c)) s := by
  revert s
  refine all56 (P := fun c => ∀ s : Sto, prog G (j + 1) 28 [.str (nmS c), .str (ws (wk c))] s = .ok (.int (stp c)) s) ?_ ?_ ?_ ?_ ?_ ?_ ?_ ?_ ?_ ?_ ?_ ?_ ?_ ?_ ?_ ?_ ?_ ?_ ?_ ?_ ?_ ?_ ?_ ?_ ?_ ?_ ?_ ?_ ?_ ?_ ?_ ?_ ?_ ?_ ?_ ?_ ?_ ?_ ?_ ?_ ?_ ?_ ?_ ?_ ?_ ?_ ?_ ?_ ?_ ?_ ?_ ?_ ?_ ?_ ?_ ?_ h
  all_goals intro s
  all_goals kernel_rfl
def wvS (c : Nat) : List Str := tCODES.filterMap fun d => match d with
  | .tup [.str n, .str w] => if seq n (nmS c) then some w else none
  | _ => none
theorem ways_of (j : Nat) {c : Nat} (h : c < 56) (s : Sto) : prog G (j + 1) 10 [.str (nmS c)] s = .ok (.tup ((wvS c).map .str)) s := by
  revert s
  refine all56 (P := fun c => ∀ s : Sto, prog G (j + 1) 10 [.str (nmS c)] s = .ok (.tup ((wvS c).map .str)) s) ?_ ?_ ?_ ?_ ?_ ?_ ?_ ?_ ?_ ?_ ?_ ?_ ?_ ?_ ?_ ?_ ?_ ?_ ?_ ?_ ?_ ?_ ?_ ?_ ?_ ?_ ?_ ?_ ?_ ?_ ?_ ?_ ?_ ?_ ?_ ?_ ?_ ?_ ?_ ?_ ?_ ?_ ?_ ?_ ?_ ?_ ?_ ?_ ?_ ?_ ?_ ?_ ?_ ?_ ?_ ?_ h
  all_goals intro s
  all_goals kernel_rfl
theorem in_ways {c : Nat} (h : c < 56) (s : Sto) : opIn true (.str (ws (wk c))) (.tup ((wvS c).map .str)) s = some (.bl false, s) := by
  revert s
  refine all56 (P := fun c => ∀ s : Sto, opIn true (.str (ws (wk c))) (.tup ((wvS c).map .str)) s = some (.bl false, s)) ?_ ?_ ?_ ?_ ?_ ?_ ?_ ?_ ?_ ?_ ?_ ?_ ?_ ?_ ?_ ?_ ?_ ?_ ?_ ?_ ?_ ?_ ?_ ?_ ?_ ?_ ?_ ?_ ?_ ?_ ?_ ?_ ?_ ?_ ?_ ?_ ?_ ?_ ?_ ?_ ?_ ?_ ?_ ?_ ?_ ?_ ?_ ?_ ?_ ?_ ?_ ?_ ?_ ?_ ?_ ?_ h
  all_goals intro s
  all_goals kernel_rfl
def nearB (c : Nat) : Bool := tCODES.any fun d => match d with
  | .tup [.str n, .str w] => seq n (nmS c) && seq w "near"
  | _ => false
theorem in_codes {c : Nat} (h : c < 56) (s : Sto) : opIn false (.tup [.str (nmS c), .str "near"]) cCODES s = some (.bl (nearB c), s) := by
  revert s
  refine all56 (P := fun c => ∀ s : Sto, opIn false (.tup [.str (nmS c), .str "near"]) cCODES s = some (.bl (nearB c), s)) ?_ ?_ ?_ ?_ ?_ ?_ ?_ ?_ ?_ ?_ ?_ ?_ ?_ ?_ ?_ ?_ ?_ ?_ ?_ ?_ ?_ ?_ ?_ ?_ ?_ ?_ ?_ ?_ ?_ ?_ ?_ ?_ ?_ ?_ ?_ ?_ ?_ ?_ ?_ ?_ ?_ ?_ ?_ ?_ ?_ ?_ ?_ ?_ ?_ ?_ ?_ ?_ ?_ ?_ ?_ ?_ h
  all_goals intro s
  all_goals kernel_rfl
/-- [way for one, way in CODES if one == name] -/
def wcM : ME := mLc false [17, 4] (tTup [(tName 17), (tName 4)]) (wVal (mC cCODES)) (mB (m2 (opC .Eq) (mVar 17) (mVar 3))) (mVar 4)
theorem wc_at {a0 a1 a2 a4 a5 a6 a7 a8 a9 a10 a11 a12 a13 a14 a15 a16 a17 : Option D} {c : Nat} (h : c < 56) (s : Sto) : wcM [a0, a1, a2, some (.str (nmS c)), a4, a5, a6, a7, a8, a9, a10, a11, a12, a13, a14, a15, a16, a17] s = .ok (.lst ((wvS c).map .str)) s := by
  revert s
  refine all56 (P := fun c => ∀ s : Sto, wcM [a0, a1, a2, some (.str (nmS c)), a4, a5, a6, a7, a8, a9, a10, a11, a12, a13, a14, a15, a16, a17] s = .ok (.lst ((wvS c).map .str)) s) ?_ ?_ ?_ ?_ ?_ ?_ ?_ ?_ ?_ ?_ ?_ ?_ ?_ ?_ ?_ ?_ ?_ ?_ ?_ ?_ ?_ ?_ ?_ ?_ ?_ ?_ ?_ ?_ ?_ ?_ ?_ ?_ ?_ ?_ ?_ ?_ ?_ ?_ ?_ ?_ ?_ ?_ ?_ ?_ ?_ ?_ ?_ ?_ ?_ ?_ ?_ ?_ ?_ ?_ ?_ ?_ h
  all_goals intro s
  all_goals kernel_rfl
theorem fits_near (j : Nat) {c : Nat} (h : c < 56) {g : Int} (g0 : 0 ≤ g) (s : Sto) : prog G (j + 1) 16 [.str (nmS c), .int g] s = .ok (.bl (nearB c && decide (g < 256))) s := by
  have hpu : ([D.str (nmS c), .int g]).all (pure? 12) = true := rfl
  refine ev_of (d := d26) rfl rfl rfl sh26 hpu rfl (s' := []) ?_ s
  show runN 2 _ _ _ = _
  unfold s26
  have q := in_codes h
  cases hb : nearB c with
  | false =>
    rw [hb] at q
    simp only [runN, sSeq, sIf, sRet, sRetN, sExpr, sAsg, sRaise, sPass, sAug, sPar, putAll, tName, tTup, tAll, goOn, Z.R.out, Z.R.bind_ok, Z.R.bind_exc, Z.R.bind_bad, Z.R.of, Z.R.nx, mC, mVar, m1, m2, mB, mT, mNot, mAnd, mOr, mIf, bNot, bAnd, bOr, bIf, truthR, truth, mTup, mkT, mLst, mkL, aNil, aCons, mCall, mB1, opBin, ipOp, ipAdd, ipMul, opAdd, opSub, opMul, opFdiv, opMod, unNeg, opC, opCmp, op_eq_int, op_in2, op_inl2, mChain, bYes, wVal, wRng, wOf, wR, wipeE, big, List.map_cons, List.map_nil, List.length_cons, List.length_nil, List.replicate, List.cons_append, List.nil_append, List.getElem?_cons_zero, List.getElem?_cons_succ, List.set_cons_zero, List.set_cons_succ, if_true, if_false, decide_true, decide_false, Bool.not_true, Bool.not_false, Bool.true_and, Bool.and_true, Bool.false_and, Bool.and_false, Bool.or_false, Bool.false_or, Bool.true_or, Bool.or_true, Bool.xor_false, Bool.xor_true, Bool.false_xor, Bool.true_xor, Bool.false_eq_true, Bool.true_eq_false, ite_true, ite_false, line, Nat.reduceSub, Nat.reduceAdd, Int.reduceNeg, Int.reducePow, Int.reduceLT, Int.reduceLE, Int.reduceMul, Int.reduceAdd, Int.reduceSub, Int.reduceDiv, Int.reduceMod, Int.reduceEq, Nat.reduceLeDiff, Nat.reduceLT, Nat.reduceEqDiff, and_true, true_and, and_false, false_and, and_self, gt_iff_lt, ge_iff_le, q]
  | true =>
    rw [hb] at q
    by_cases h1 : g < 256
    · have h2 : g ≤ 255 := by omega
      simp only [runN, sSeq, sIf, sRet, sRetN, sExpr, sAsg, sRaise, sPass, sAug, sPar, putAll, tName, tTup, tAll, goOn, Z.R.out, Z.R.bind_ok, Z.R.bind_exc, Z.R.bind_bad, Z.R.of, Z.R.nx, mC, mVar, m1, m2, mB, mT, mNot, mAnd, mOr, mIf, bNot, bAnd, bOr, bIf, truthR, truth, mTup, mkT, mLst, mkL, aNil, aCons, mCall, mB1, opBin, ipOp, ipAdd, ipMul, opAdd, opSub, opMul, opFdiv, opMod, unNeg, opC, opCmp, op_eq_int, op_in2, op_inl2, mChain, bYes, wVal, wRng, wOf, wR, wipeE, big, List.map_cons, List.map_nil, List.length_cons, List.length_nil, List.replicate, List.cons_append, List.nil_append, List.getElem?_cons_zero, List.getElem?_cons_succ, List.set_cons_zero, List.set_cons_succ, if_true, if_false, decide_true, decide_false, Bool.not_true, Bool.not_false, Bool.true_and, Bool.and_true, Bool.false_and, Bool.and_false, Bool.or_false, Bool.false_or, Bool.true_or, Bool.or_true, Bool.xor_false, Bool.xor_true, Bool.false_xor, Bool.true_xor, Bool.false_eq_true, Bool.true_eq_false, ite_true, ite_false, line, Nat.reduceSub, Nat.reduceAdd, Int.reduceNeg, Int.reducePow, Int.reduceLT, Int.reduceLE, Int.reduceMul, Int.reduceAdd, Int.reduceSub, Int.reduceDiv, Int.reduceMod, Int.reduceEq, Nat.reduceLeDiff, Nat.reduceLT, Nat.reduceEqDiff, and_true, true_and, and_false, false_and, and_self, gt_iff_lt, ge_iff_le, q, g0, h1, h2]
    · have h2 : ¬ (g ≤ 255) := by omega
      simp only [runN, sSeq, sIf, sRet, sRetN, sExpr, sAsg, sRaise, sPass, sAug, sPar, putAll, tName, tTup, tAll, goOn, Z.R.out, Z.R.bind_ok, Z.R.bind_exc, Z.R.bind_bad, Z.R.of, Z.R.nx, mC, mVar, m1, m2, mB, mT, mNot, mAnd, mOr, mIf, bNot, bAnd, bOr, bIf, truthR, truth, mTup, mkT, mLst, mkL, aNil, aCons, mCall, mB1, opBin, ipOp, ipAdd, ipMul, opAdd, opSub, opMul, opFdiv, opMod, unNeg, opC, opCmp, op_eq_int, op_in2, op_inl2, mChain, bYes, wVal, wRng, wOf, wR, wipeE, big, List.map_cons, List.map_nil, List.length_cons, List.length_nil, List.replicate, List.cons_append, List.nil_append, List.getElem?_cons_zero, List.getElem?_cons_succ, List.set_cons_zero, List.set_cons_succ, if_true, if_false, decide_true, decide_false, Bool.not_true, Bool.not_false, Bool.true_and, Bool.and_true, Bool.false_and, Bool.and_false, Bool.or_false, Bool.false_or, Bool.true_or, Bool.or_true, Bool.xor_false, Bool.xor_true, Bool.false_xor, Bool.true_xor, Bool.false_eq_true, Bool.true_eq_false, ite_true, ite_false, line, Nat.reduceSub, Nat.reduceAdd, Int.reduceNeg, Int.reducePow, Int.reduceLT, Int.reduceLE, Int.reduceMul, Int.reduceAdd, Int.reduceSub, Int.reduceDiv, Int.reduceMod, Int.reduceEq, Nat.reduceLeDiff, Nat.reduceLT, Nat.reduceEqDiff, and_true, true_and, and_false, false_and, and_self, gt_iff_lt, ge_iff_le, q, g0, h1, h2]
theorem far_between (j : Nat) {a b : Int} (h : -128 ≤ b - a - 2 ∧ b - a - 2 ≤ 127) : Ev G (j + 1) 19 [.int a, .int b] (.int (b - a - 2)) := by
  refine ev_of (d := d29) rfl rfl rfl sh29 rfl rfl (s' := []) ?_
  show runN 3 _ _ _ = _
  unfold s29
  simp only [runN, sSeq, sIf, sRet, sRetN, sExpr, sAsg, sRaise, sPass, sAug, sPar, putAll, tName, tTup, tAll, goOn, Z.R.out, Z.R.bind_ok, Z.R.bind_exc, Z.R.bind_bad, Z.R.of, Z.R.nx, mC, mVar, m1, m2, mB, mT, mNot, mAnd, mOr, mIf, bNot, bAnd, bOr, bIf, truthR, truth, mTup, mkT, mLst, mkL, aNil, aCons, mCall, mB1, opBin, ipOp, ipAdd, ipMul, opAdd, opSub, opMul, opFdiv, opMod, unNeg, opC, opCmp, op_eq_int, op_in2, op_inl2, mChain, bYes, wVal, wRng, wOf, wR, wipeE, big, List.map_cons, List.map_nil, List.length_cons, List.length_nil, List.replicate, List.cons_append, List.nil_append, List.getElem?_cons_zero, List.getElem?_cons_succ, List.set_cons_zero, List.set_cons_succ, if_true, if_false, decide_true, decide_false, Bool.not_true, Bool.not_false, Bool.true_and, Bool.and_true, Bool.false_and, Bool.and_false, Bool.or_false, Bool.false_or, Bool.true_or, Bool.or_true, Bool.xor_false, Bool.xor_true, Bool.false_xor, Bool.true_xor, Bool.false_eq_true, Bool.true_eq_false, ite_true, ite_false, line, Nat.reduceSub, Nat.reduceAdd, Int.reduceNeg, Int.reducePow, Int.reduceLT, Int.reduceLE, Int.reduceMul, Int.reduceAdd, Int.reduceSub, Int.reduceDiv, Int.reduceMod, Int.reduceEq, Nat.reduceLeDiff, Nat.reduceLT, Nat.reduceEqDiff, and_true, true_and, and_false, false_and, and_self, gt_iff_lt, ge_iff_le, h.1, h.2]
theorem no_far (j : Nat) {a b : Int} (h : ¬ (-128 ≤ b - a - 2 ∧ b - a - 2 ≤ 127)) : Ex G (j + 1) 19 [.int a, .int b] 2 := by
  refine ex_of (d := d29) rfl rfl rfl sh29 rfl (s' := []) ?_
  show runN 3 _ _ _ = _
  unfold s29
  by_cases h0 : -128 ≤ b - a - 2
  · have h1 : ¬ (b - a - 2 ≤ 127) := fun z => h ⟨h0, z⟩
    simp only [runN, sSeq, sIf, sRet, sRetN, sExpr, sAsg, sRaise, sPass, sAug, sPar, putAll, tName, tTup, tAll, goOn, Z.R.out, Z.R.bind_ok, Z.R.bind_exc, Z.R.bind_bad, Z.R.of, Z.R.nx, mC, mVar, m1, m2, mB, mT, mNot, mAnd, mOr, mIf, bNot, bAnd, bOr, bIf, truthR, truth, mTup, mkT, mLst, mkL, aNil, aCons, mCall, mB1, opBin, ipOp, ipAdd, ipMul, opAdd, opSub, opMul, opFdiv, opMod, unNeg, opC, opCmp, op_eq_int, op_in2, op_inl2, mChain, bYes, wVal, wRng, wOf, wR, wipeE, big, List.map_cons, List.map_nil, List.length_cons, List.length_nil, List.replicate, List.cons_append, List.nil_append, List.getElem?_cons_zero, List.getElem?_cons_succ, List.set_cons_zero, List.set_cons_succ, if_true, if_false, decide_true, decide_false, Bool.not_true, Bool.not_false, Bool.true_and, Bool.and_true, Bool.false_and, Bool.and_false, Bool.or_false, Bool.false_or, Bool.true_or, Bool.or_true, Bool.xor_false, Bool.xor_true, Bool.false_xor, Bool.true_xor, Bool.false_eq_true, Bool.true_eq_false, ite_true, ite_false, line, Nat.reduceSub, Nat.reduceAdd, Int.reduceNeg, Int.reducePow, Int.reduceLT, Int.reduceLE, Int.reduceMul, Int.reduceAdd, Int.reduceSub, Int.reduceDiv, Int.reduceMod, Int.reduceEq, Nat.reduceLeDiff, Nat.reduceLT, Nat.reduceEqDiff, and_true, true_and, and_false, false_and, and_self, gt_iff_lt, ge_iff_le, h0, h1]
  · simp only [runN, sSeq, sIf, sRet, sRetN, sExpr, sAsg, sRaise, sPass, sAug, sPar, putAll, tName, tTup, tAll, goOn, Z.R.out, Z.R.bind_ok, Z.R.bind_exc, Z.R.bind_bad, Z.R.of, Z.R.nx, mC, mVar, m1, m2, mB, mT, mNot, mAnd, mOr, mIf, bNot, bAnd, bOr, bIf, truthR, truth, mTup, mkT, mLst, mkL, aNil, aCons, mCall, mB1, opBin, ipOp, ipAdd, ipMul, opAdd, opSub, opMul, opFdiv, opMod, unNeg, opC, opCmp, op_eq_int, op_in2, op_inl2, mChain, bYes, wVal, wRng, wOf, wR, wipeE, big, List.map_cons, List.map_nil, List.length_cons, List.length_nil, List.replicate, List.cons_append, List.nil_append, List.getElem?_cons_zero, List.getElem?_cons_succ, List.set_cons_zero, List.set_cons_succ, if_true, if_false, decide_true, decide_false, Bool.not_true, Bool.not_false, Bool.true_and, Bool.and_true, Bool.false_and, Bool.and_false, Bool.or_false, Bool.false_or, Bool.true_or, Bool.or_true, Bool.xor_false, Bool.xor_true, Bool.false_xor, Bool.true_xor, Bool.false_eq_true, Bool.true_eq_false, ite_true, ite_false, line, Nat.reduceSub, Nat.reduceAdd, Int.reduceNeg, Int.reducePow, Int.reduceLT, Int.reduceLE, Int.reduceMul, Int.reduceAdd, Int.reduceSub, Int.reduceDiv, Int.reduceMod, Int.reduceEq, Nat.reduceLeDiff, Nat.reduceLT, Nat.reduceEqDiff, and_true, true_and, and_false, false_and, and_self, gt_iff_lt, ge_iff_le, h0]
theorem goal_of (j : Nat) {a f : Int} (a0 : 0 ≤ a) (a1 : a ≤ 65535) (f0 : -128 ≤ f) (f1 : f ≤ 127) : Ev G (j + 2) 20 [.int a, .int f] (.int ((a + 2 + f) % 65536)) := by
  refine ev_of (d := d30) rfl rfl rfl sh30 rfl rfl (s' := []) ?_
  show runN 2 _ _ _ = _
  unfold s30
  simp only [runN, sSeq, sIf, sRet, sRetN, sExpr, sAsg, sRaise, sPass, sAug, sPar, putAll, tName, tTup, tAll, goOn, Z.R.out, Z.R.bind_ok, Z.R.bind_exc, Z.R.bind_bad, Z.R.of, Z.R.nx, mC, mVar, m1, m2, mB, mT, mNot, mAnd, mOr, mIf, bNot, bAnd, bOr, bIf, truthR, truth, mTup, mkT, mLst, mkL, aNil, aCons, mCall, mB1, opBin, ipOp, ipAdd, ipMul, opAdd, opSub, opMul, opFdiv, opMod, unNeg, opC, opCmp, op_eq_int, op_in2, op_inl2, mChain, bYes, wVal, wRng, wOf, wR, wipeE, big, List.map_cons, List.map_nil, List.length_cons, List.length_nil, List.replicate, List.cons_append, List.nil_append, List.getElem?_cons_zero, List.getElem?_cons_succ, List.set_cons_zero, List.set_cons_succ, if_true, if_false, decide_true, decide_false, Bool.not_true, Bool.not_false, Bool.true_and, Bool.and_true, Bool.false_and, Bool.and_false, Bool.or_false, Bool.false_or, Bool.true_or, Bool.or_true, Bool.xor_false, Bool.xor_true, Bool.false_xor, Bool.true_xor, Bool.false_eq_true, Bool.true_eq_false, ite_true, ite_false, line, Nat.reduceSub, Nat.reduceAdd, Int.reduceNeg, Int.reducePow, Int.reduceLT, Int.reduceLE, Int.reduceMul, Int.reduceAdd, Int.reduceSub, Int.reduceDiv, Int.reduceMod, Int.reduceEq, Nat.reduceLeDiff, Nat.reduceLT, Nat.reduceEqDiff, and_true, true_and, and_false, false_and, and_self, gt_iff_lt, ge_iff_le, mKIx, mKGet, kGetR, mTold1, toldR, sTryX, Nat.reduceMul, Nat.reduceMod, Nat.reduceDiv, check_word j a0 a1 _, f0, f1]
/-! ### the dice -/
theorem fn21 (j : Nat) : prog G (j + 1) 21 = runN 1 (s32 (prog G j)) := fn_of_sh (d := d32) rfl sh32 j
theorem fn22 (j : Nat) : prog G (j + 1) 22 = runN 3 (s33 (prog G j)) := fn_of_sh (d := d33) rfl sh33 j
theorem fn23 (j : Nat) : prog G (j + 1) 23 = runN 4 (s34 (prog G j)) := fn_of_sh (d := d34) rfl sh34 j
theorem fn30 (j : Nat) : prog G (j + 1) 30 = runN 18 (s41 (prog G j)) := fn_of_sh (d := d41) rfl sh41 j
def sd (x y z : Int) : Sto := [.lst [.int x, .int y, .int z]]
theorem sd_ix {x y z : Int} : opIx (.ref 0) (.int 0) (sd x y z) = some (.int x, sd x y z) ∧ opIx (.ref 0) (.int 1) (sd x y z) = some (.int y, sd x y z) ∧ opIx (.ref 0) (.int 2) (sd x y z) = some (.int z, sd x y z) := ⟨rfl, rfl, rfl⟩
theorem sd_set {x y z v : Int} : setIx (.ref 0) (.int 0) (.int v) (sd x y z) = some (sd v y z) ∧ setIx (.ref 0) (.int 1) (.int v) (sd x y z) = some (sd x v z) ∧ setIx (.ref 0) (.int 2) (.int v) (sd x y z) = some (sd x y v) := ⟨rfl, rfl, rfl⟩
theorem roll (j : Nat) (x y z : Int) {m : Int} (h0 : 0 < m) (h1 : m ≤ 65536) : ∃ v x' y' z', 0 ≤ v ∧ v < m ∧ prog G (j + 1) 22 [.ref 0, .int m] (sd x y z) = .ok (.int v) (sd x' y' z') := by
  rw [fn22]
  have q1 : m < 1073741824 := by omega
  have q2 : ¬ (100000000 < m) := by omega
  by_cases hc : z = 2 ∨ (z = 1 ∧ 0 < x)
  · refine ⟨x % m, x / m, y, z, Int.emod_nonneg _ (by omega), Int.emod_lt_of_pos _ h0, ?_⟩
    unfold s33
    by_cases hz : z = 2
    · simp only [runN, sSeq, sIf, sRet, sRetN, sExpr, sAsg, sRaise, sPass, sAug, sPar, putAll, tName, tTup, tAll, goOn, Z.R.out, Z.R.bind_ok, Z.R.bind_exc, Z.R.bind_bad, Z.R.of, Z.R.nx, mC, mVar, m1, m2, mB, mT, mNot, mAnd, mOr, mIf, bNot, bAnd, bOr, bIf, truthR, truth, mTup, mkT, mLst, mkL, aNil, aCons, mCall, mB1, opBin, ipOp, ipAdd, ipMul, opAdd, opSub, opMul, opFdiv, opMod, unNeg, opC, opCmp, op_eq_int, op_in2, op_inl2, mChain, bYes, wVal, wRng, wOf, wR, wipeE, big, List.map_cons, List.map_nil, List.length_cons, List.length_nil, List.replicate, List.cons_append, List.nil_append, List.getElem?_cons_zero, List.getElem?_cons_succ, List.set_cons_zero, List.set_cons_succ, if_true, if_false, decide_true, decide_false, Bool.not_true, Bool.not_false, Bool.true_and, Bool.and_true, Bool.false_and, Bool.and_false, Bool.or_false, Bool.false_or, Bool.true_or, Bool.or_true, Bool.xor_false, Bool.xor_true, Bool.false_xor, Bool.true_xor, Bool.false_eq_true, Bool.true_eq_false, ite_true, ite_false, line, Nat.reduceSub, Nat.reduceAdd, Int.reduceNeg, Int.reducePow, Int.reduceLT, Int.reduceLE, Int.reduceMul, Int.reduceAdd, Int.reduceSub, Int.reduceDiv, Int.reduceMod, Int.reduceEq, Nat.reduceLeDiff, Nat.reduceLT, Nat.reduceEqDiff, and_true, true_and, and_false, false_and, and_self, gt_iff_lt, ge_iff_le, sd_ix, sd_set, tSub, hz, bInt, h0, q1]
    · have hx : z = 1 ∧ 0 < x := hc.resolve_left hz
      simp only [runN, sSeq, sIf, sRet, sRetN, sExpr, sAsg, sRaise, sPass, sAug, sPar, putAll, tName, tTup, tAll, goOn, Z.R.out, Z.R.bind_ok, Z.R.bind_exc, Z.R.bind_bad, Z.R.of, Z.R.nx, mC, mVar, m1, m2, mB, mT, mNot, mAnd, mOr, mIf, bNot, bAnd, bOr, bIf, truthR, truth, mTup, mkT, mLst, mkL, aNil, aCons, mCall, mB1, opBin, ipOp, ipAdd, ipMul, opAdd, opSub, opMul, opFdiv, opMod, unNeg, opC, opCmp, op_eq_int, op_in2, op_inl2, mChain, bYes, wVal, wRng, wOf, wR, wipeE, big, List.map_cons, List.map_nil, List.length_cons, List.length_nil, List.replicate, List.cons_append, List.nil_append, List.getElem?_cons_zero, List.getElem?_cons_succ, List.set_cons_zero, List.set_cons_succ, if_true, if_false, decide_true, decide_false, Bool.not_true, Bool.not_false, Bool.true_and, Bool.and_true, Bool.false_and, Bool.and_false, Bool.or_false, Bool.false_or, Bool.true_or, Bool.or_true, Bool.xor_false, Bool.xor_true, Bool.false_xor, Bool.true_xor, Bool.false_eq_true, Bool.true_eq_false, ite_true, ite_false, line, Nat.reduceSub, Nat.reduceAdd, Int.reduceNeg, Int.reducePow, Int.reduceLT, Int.reduceLE, Int.reduceMul, Int.reduceAdd, Int.reduceSub, Int.reduceDiv, Int.reduceMod, Int.reduceEq, Nat.reduceLeDiff, Nat.reduceLT, Nat.reduceEqDiff, and_true, true_and, and_false, false_and, and_self, gt_iff_lt, ge_iff_le, sd_ix, sd_set, tSub, hz, hx.1, hx.2, bInt, h0, q1]
  · refine ⟨(x * 48271 + y * 69621 + 11) % 2147483647 / 7 % m, (x * 48271 + y * 69621 + 11) % 2147483647, y + 1, 0, Int.emod_nonneg _ (by omega), Int.emod_lt_of_pos _ h0, ?_⟩
    unfold s33
    have hz : ¬ (z = 2) := fun h => hc (.inl h)
    by_cases h1 : z = 1
    · have hx : ¬ (0 < x) := fun h => hc (.inr ⟨h1, h⟩)
      simp only [runN, sSeq, sIf, sRet, sRetN, sExpr, sAsg, sRaise, sPass, sAug, sPar, putAll, tName, tTup, tAll, goOn, Z.R.out, Z.R.bind_ok, Z.R.bind_exc, Z.R.bind_bad, Z.R.of, Z.R.nx, mC, mVar, m1, m2, mB, mT, mNot, mAnd, mOr, mIf, bNot, bAnd, bOr, bIf, truthR, truth, mTup, mkT, mLst, mkL, aNil, aCons, mCall, mB1, opBin, ipOp, ipAdd, ipMul, opAdd, opSub, opMul, opFdiv, opMod, unNeg, opC, opCmp, op_eq_int, op_in2, op_inl2, mChain, bYes, wVal, wRng, wOf, wR, wipeE, big, List.map_cons, List.map_nil, List.length_cons, List.length_nil, List.replicate, List.cons_append, List.nil_append, List.getElem?_cons_zero, List.getElem?_cons_succ, List.set_cons_zero, List.set_cons_succ, if_true, if_false, decide_true, decide_false, Bool.not_true, Bool.not_false, Bool.true_and, Bool.and_true, Bool.false_and, Bool.and_false, Bool.or_false, Bool.false_or, Bool.true_or, Bool.or_true, Bool.xor_false, Bool.xor_true, Bool.false_xor, Bool.true_xor, Bool.false_eq_true, Bool.true_eq_false, ite_true, ite_false, line, Nat.reduceSub, Nat.reduceAdd, Int.reduceNeg, Int.reducePow, Int.reduceLT, Int.reduceLE, Int.reduceMul, Int.reduceAdd, Int.reduceSub, Int.reduceDiv, Int.reduceMod, Int.reduceEq, Nat.reduceLeDiff, Nat.reduceLT, Nat.reduceEqDiff, and_true, true_and, and_false, false_and, and_self, gt_iff_lt, ge_iff_le, sd_ix, sd_set, tSub, hz, h1, hx, bInt, h0, q1, q2]
    · simp only [runN, sSeq, sIf, sRet, sRetN, sExpr, sAsg, sRaise, sPass, sAug, sPar, putAll, tName, tTup, tAll, goOn, Z.R.out, Z.R.bind_ok, Z.R.bind_exc, Z.R.bind_bad, Z.R.of, Z.R.nx, mC, mVar, m1, m2, mB, mT, mNot, mAnd, mOr, mIf, bNot, bAnd, bOr, bIf, truthR, truth, mTup, mkT, mLst, mkL, aNil, aCons, mCall, mB1, opBin, ipOp, ipAdd, ipMul, opAdd, opSub, opMul, opFdiv, opMod, unNeg, opC, opCmp, op_eq_int, op_in2, op_inl2, mChain, bYes, wVal, wRng, wOf, wR, wipeE, big, List.map_cons, List.map_nil, List.length_cons, List.length_nil, List.replicate, List.cons_append, List.nil_append, List.getElem?_cons_zero, List.getElem?_cons_succ, List.set_cons_zero, List.set_cons_succ, if_true, if_false, decide_true, decide_false, Bool.not_true, Bool.not_false, Bool.true_and, Bool.and_true, Bool.false_and, Bool.and_false, Bool.or_false, Bool.false_or, Bool.true_or, Bool.or_true, Bool.xor_false, Bool.xor_true, Bool.false_xor, Bool.true_xor, Bool.false_eq_true, Bool.true_eq_false, ite_true, ite_false, line, Nat.reduceSub, Nat.reduceAdd, Int.reduceNeg, Int.reducePow, Int.reduceLT, Int.reduceLE, Int.reduceMul, Int.reduceAdd, Int.reduceSub, Int.reduceDiv, Int.reduceMod, Int.reduceEq, Nat.reduceLeDiff, Nat.reduceLT, Nat.reduceEqDiff, and_true, true_and, and_false, false_and, and_self, gt_iff_lt, ge_iff_le, sd_ix, sd_set, tSub, hz, h1, bInt, h0, q1, q2]
theorem pow18 {s : Sto} : opPow (.int 10) (.int 18) s = some (.int 1000000000000000000, s) := by
  unfold opPow
  show (if _ then _ else _) = _
  rw [if_pos (by decide)]
  rfl
theorem dice (j : Nat) (c : Int) : ∃ x y z, prog G (j + 1) 21 [.int c] [] = .ok (.ref 0) (sd x y z) := by
  rw [fn21]
  unfold s32
  by_cases h : -10 < c ∧ c < 10
  · refine ⟨if c < 0 then -c else c, 0, 2, ?_⟩
    simp only [runN, sSeq, sIf, sRet, sRetN, sExpr, sAsg, sRaise, sPass, sAug, sPar, putAll, tName, tTup, tAll, goOn, Z.R.out, Z.R.bind_ok, Z.R.bind_exc, Z.R.bind_bad, Z.R.of, Z.R.nx, mC, mVar, m1, m2, mB, mT, mNot, mAnd, mOr, mIf, bNot, bAnd, bOr, bIf, truthR, truth, mTup, mkT, mLst, mkL, aNil, aCons, mCall, mB1, opBin, ipOp, ipAdd, ipMul, opAdd, opSub, opMul, opFdiv, opMod, unNeg, opC, opCmp, op_eq_int, op_in2, op_inl2, mChain, bYes, wVal, wRng, wOf, wR, wipeE, big, List.map_cons, List.map_nil, List.length_cons, List.length_nil, List.replicate, List.cons_append, List.nil_append, List.getElem?_cons_zero, List.getElem?_cons_succ, List.set_cons_zero, List.set_cons_succ, if_true, if_false, decide_true, decide_false, Bool.not_true, Bool.not_false, Bool.true_and, Bool.and_true, Bool.false_and, Bool.and_false, Bool.or_false, Bool.false_or, Bool.true_or, Bool.or_true, Bool.xor_false, Bool.xor_true, Bool.false_xor, Bool.true_xor, Bool.false_eq_true, Bool.true_eq_false, ite_true, ite_false, line, Nat.reduceSub, Nat.reduceAdd, Int.reduceNeg, Int.reducePow, Int.reduceLT, Int.reduceLE, Int.reduceMul, Int.reduceAdd, Int.reduceSub, Int.reduceDiv, Int.reduceMod, Int.reduceEq, Nat.reduceLeDiff, Nat.reduceLT, Nat.reduceEqDiff, and_true, true_and, and_false, false_and, and_self, gt_iff_lt, ge_iff_le, h.1, h.2, bAbs]
    rfl
  · refine ⟨c, 1 + c % 1009, if 1000000000000000000 ≤ c then 1 else 0, ?_⟩
    have h' : ¬ (-10 < c) ∨ (-10 < c ∧ ¬ (c < 10)) := by omega
    rcases h' with h1 | ⟨h1, h2⟩
    · have hh : ¬ (1000000000000000000 ≤ c) := by omega
      simp only [runN, sSeq, sIf, sRet, sRetN, sExpr, sAsg, sRaise, sPass, sAug, sPar, putAll, tName, tTup, tAll, goOn, Z.R.out, Z.R.bind_ok, Z.R.bind_exc, Z.R.bind_bad, Z.R.of, Z.R.nx, mC, mVar, m1, m2, mB, mT, mNot, mAnd, mOr, mIf, bNot, bAnd, bOr, bIf, truthR, truth, mTup, mkT, mLst, mkL, aNil, aCons, mCall, mB1, opBin, ipOp, ipAdd, ipMul, opAdd, opSub, opMul, opFdiv, opMod, unNeg, opC, opCmp, op_eq_int, op_in2, op_inl2, mChain, bYes, wVal, wRng, wOf, wR, wipeE, big, List.map_cons, List.map_nil, List.length_cons, List.length_nil, List.replicate, List.cons_append, List.nil_append, List.getElem?_cons_zero, List.getElem?_cons_succ, List.set_cons_zero, List.set_cons_succ, if_true, if_false, decide_true, decide_false, Bool.not_true, Bool.not_false, Bool.true_and, Bool.and_true, Bool.false_and, Bool.and_false, Bool.or_false, Bool.false_or, Bool.true_or, Bool.or_true, Bool.xor_false, Bool.xor_true, Bool.false_xor, Bool.true_xor, Bool.false_eq_true, Bool.true_eq_false, ite_true, ite_false, line, Nat.reduceSub, Nat.reduceAdd, Int.reduceNeg, Int.reducePow, Int.reduceLT, Int.reduceLE, Int.reduceMul, Int.reduceAdd, Int.reduceSub, Int.reduceDiv, Int.reduceMod, Int.reduceEq, Nat.reduceLeDiff, Nat.reduceLT, Nat.reduceEqDiff, and_true, true_and, and_false, false_and, and_self, gt_iff_lt, ge_iff_le, h1, hh, bInt, pow18]
      rfl
    · by_cases hh : 1000000000000000000 ≤ c
      · simp only [runN, sSeq, sIf, sRet, sRetN, sExpr, sAsg, sRaise, sPass, sAug, sPar, putAll, tName, tTup, tAll, goOn, Z.R.out, Z.R.bind_ok, Z.R.bind_exc, Z.R.bind_bad, Z.R.of, Z.R.nx, mC, mVar, m1, m2, mB, mT, mNot, mAnd, mOr, mIf, bNot, bAnd, bOr, bIf, truthR, truth, mTup, mkT, mLst, mkL, aNil, aCons, mCall, mB1, opBin, ipOp, ipAdd, ipMul, opAdd, opSub, opMul, opFdiv, opMod, unNeg, opC, opCmp, op_eq_int, op_in2, op_inl2, mChain, bYes, wVal, wRng, wOf, wR, wipeE, big, List.map_cons, List.map_nil, List.length_cons, List.length_nil, List.replicate, List.cons_append, List.nil_append, List.getElem?_cons_zero, List.getElem?_cons_succ, List.set_cons_zero, List.set_cons_succ, if_true, if_false, decide_true, decide_false, Bool.not_true, Bool.not_false, Bool.true_and, Bool.and_true, Bool.false_and, Bool.and_false, Bool.or_false, Bool.false_or, Bool.true_or, Bool.or_true, Bool.xor_false, Bool.xor_true, Bool.false_xor, Bool.true_xor, Bool.false_eq_true, Bool.true_eq_false, ite_true, ite_false, line, Nat.reduceSub, Nat.reduceAdd, Int.reduceNeg, Int.reducePow, Int.reduceLT, Int.reduceLE, Int.reduceMul, Int.reduceAdd, Int.reduceSub, Int.reduceDiv, Int.reduceMod, Int.reduceEq, Nat.reduceLeDiff, Nat.reduceLT, Nat.reduceEqDiff, and_true, true_and, and_false, false_and, and_self, gt_iff_lt, ge_iff_le, h1, h2, hh, bInt, pow18]
        rfl
      · simp only [runN, sSeq, sIf, sRet, sRetN, sExpr, sAsg, sRaise, sPass, sAug, sPar, putAll, tName, tTup, tAll, goOn, Z.R.out, Z.R.bind_ok, Z.R.bind_exc, Z.R.bind_bad, Z.R.of, Z.R.nx, mC, mVar, m1, m2, mB, mT, mNot, mAnd, mOr, mIf, bNot, bAnd, bOr, bIf, truthR, truth, mTup, mkT, mLst, mkL, aNil, aCons, mCall, mB1, opBin, ipOp, ipAdd, ipMul, opAdd, opSub, opMul, opFdiv, opMod, unNeg, opC, opCmp, op_eq_int, op_in2, op_inl2, mChain, bYes, wVal, wRng, wOf, wR, wipeE, big, List.map_cons, List.map_nil, List.length_cons, List.length_nil, List.replicate, List.cons_append, List.nil_append, List.getElem?_cons_zero, List.getElem?_cons_succ, List.set_cons_zero, List.set_cons_succ, if_true, if_false, decide_true, decide_false, Bool.not_true, Bool.not_false, Bool.true_and, Bool.and_true, Bool.false_and, Bool.and_false, Bool.or_false, Bool.false_or, Bool.true_or, Bool.or_true, Bool.xor_false, Bool.xor_true, Bool.false_xor, Bool.true_xor, Bool.false_eq_true, Bool.true_eq_false, ite_true, ite_false, line, Nat.reduceSub, Nat.reduceAdd, Int.reduceNeg, Int.reducePow, Int.reduceLT, Int.reduceLE, Int.reduceMul, Int.reduceAdd, Int.reduceSub, Int.reduceDiv, Int.reduceMod, Int.reduceEq, Nat.reduceLeDiff, Nat.reduceLT, Nat.reduceEqDiff, and_true, true_and, and_false, false_and, and_self, gt_iff_lt, ge_iff_le, h1, h2, hh, bInt, pow18]
        rfl
theorem cut1 (c : Int) (r : List Int) : cutD ((c :: r).map D.int) none (some 1) = [.int c] := by
  unfold cutD HT.sIx
  simp
  try omega
theorem cut0 : cutD ([] : List D) none (some 1) = [] := by
  unfold cutD
  simp
theorem eq_nil {s : Sto} : opEq false (.lst []) (.lst []) s = some (.bl true, s) := rfl
theorem eq_one {s : Sto} {c : Int} : opEq false (.lst [.int c]) (.lst []) s = some (.bl false, s) := by
  have := op_eq_ll (s := s) (n := false) (i := [c]) (j := [])
  simpa using this
theorem rounds (j : Nat) (ns : List Int) : ∃ x y z, prog G (j + 2) 23 [.scr (ns.map D.int), .int 1] [] = .ok (.lst [.ref 0]) (sd x y z) := by
  rw [fn23]
  unfold s34
  cases ns with
  | nil =>
    obtain ⟨x, y, z, h⟩ := dice j 0
    refine ⟨x, y, z, ?_⟩
    simp only [runN, sSeq, sIf, sRet, sRetN, sExpr, sAsg, sRaise, sPass, sAug, sPar, putAll, tName, tTup, tAll, goOn, Z.R.out, Z.R.bind_ok, Z.R.bind_exc, Z.R.bind_bad, Z.R.of, Z.R.nx, mC, mVar, m1, m2, mB, mT, mNot, mAnd, mOr, mIf, bNot, bAnd, bOr, bIf, truthR, truth, mTup, mkT, mLst, mkL, aNil, aCons, mCall, mB1, opBin, ipOp, ipAdd, ipMul, opAdd, opSub, opMul, opFdiv, opMod, unNeg, opC, opCmp, op_eq_int, op_in2, op_inl2, mChain, bYes, wVal, wRng, wOf, wR, wipeE, big, List.map_cons, List.map_nil, List.length_cons, List.length_nil, List.replicate, List.cons_append, List.nil_append, List.getElem?_cons_zero, List.getElem?_cons_succ, List.set_cons_zero, List.set_cons_succ, if_true, if_false, decide_true, decide_false, Bool.not_true, Bool.not_false, Bool.true_and, Bool.and_true, Bool.false_and, Bool.and_false, Bool.or_false, Bool.false_or, Bool.true_or, Bool.or_true, Bool.xor_false, Bool.xor_true, Bool.false_xor, Bool.true_xor, Bool.false_eq_true, Bool.true_eq_false, ite_true, ite_false, line, Nat.reduceSub, Nat.reduceAdd, Int.reduceNeg, Int.reducePow, Int.reduceLT, Int.reduceLE, Int.reduceMul, Int.reduceAdd, Int.reduceSub, Int.reduceDiv, Int.reduceMod, Int.reduceEq, Nat.reduceLeDiff, Nat.reduceLT, Nat.reduceEqDiff, and_true, true_and, and_false, false_and, and_self, gt_iff_lt, ge_iff_le, mSl, oNone, oSome, opSl, cut0, eq_nil, mLc, lcS, lcF, lcT, h]
  | cons c r =>
    obtain ⟨x, y, z, h⟩ := dice j c
    refine ⟨x, y, z, ?_⟩
    have hc := cut1 c r
    rw [List.map_cons] at hc
    simp only [runN, sSeq, sIf, sRet, sRetN, sExpr, sAsg, sRaise, sPass, sAug, sPar, putAll, tName, tTup, tAll, goOn, Z.R.out, Z.R.bind_ok, Z.R.bind_exc, Z.R.bind_bad, Z.R.of, Z.R.nx, mC, mVar, m1, m2, mB, mT, mNot, mAnd, mOr, mIf, bNot, bAnd, bOr, bIf, truthR, truth, mTup, mkT, mLst, mkL, aNil, aCons, mCall, mB1, opBin, ipOp, ipAdd, ipMul, opAdd, opSub, opMul, opFdiv, opMod, unNeg, opC, opCmp, op_eq_int, op_in2, op_inl2, mChain, bYes, wVal, wRng, wOf, wR, wipeE, big, List.map_cons, List.map_nil, List.length_cons, List.length_nil, List.replicate, List.cons_append, List.nil_append, List.getElem?_cons_zero, List.getElem?_cons_succ, List.set_cons_zero, List.set_cons_succ, if_true, if_false, decide_true, decide_false, Bool.not_true, Bool.not_false, Bool.true_and, Bool.and_true, Bool.false_and, Bool.and_false, Bool.or_false, Bool.false_or, Bool.true_or, Bool.or_true, Bool.xor_false, Bool.xor_true, Bool.false_xor, Bool.true_xor, Bool.false_eq_true, Bool.true_eq_false, ite_true, ite_false, line, Nat.reduceSub, Nat.reduceAdd, Int.reduceNeg, Int.reducePow, Int.reduceLT, Int.reduceLE, Int.reduceMul, Int.reduceAdd, Int.reduceSub, Int.reduceDiv, Int.reduceMod, Int.reduceEq, Nat.reduceLeDiff, Nat.reduceLT, Nat.reduceEqDiff, and_true, true_and, and_false, false_and, and_self, gt_iff_lt, ge_iff_le, mSl, oNone, oSome, opSl, hc, eq_one, mLc, lcS, lcF, lcT, h]
end K02
end Z

set_option Elab.async false
set_option linter.all false
set_option maxRecDepth 100000
set_option maxHeartbeats 4000000
namespace Z
open PySem
/-- a comprehension, each turn known -/
theorem lcF_two {s : Sto} {t : Tg} {c : MB} {el : ME} {e : Env} : ∀ {l : List (D × D)}, (∀ q ∈ l, ∃ e1, t q.1 e s = some (e1, s) ∧ c e1 s = .ok true s ∧ el e1 s = .ok q.2 s) → lcF t c el (l.map (·.1)) e s = .ok (l.map (·.2)) s
  | [], _ => rfl
  | q :: l, h => by
    obtain ⟨e1, h1, h2, h3⟩ := h q (List.mem_cons_self ..)
    have ih := lcF_two (l := l) fun d hd => h d (List.mem_cons_of_mem _ hd)
    rw [List.map_cons, List.map_cons]
    unfold lcF lcT
    rw [h1]
    show (c e1 s).nx.bind _ = _
    rw [h2]
    show (if true then (el e1 s).nx.bind fun v s3 => (lcF t c el (l.map (·.1)) e s3).bind fun r s4 => R.ok (v :: r) s4 else lcF t c el (l.map (·.1)) e s) = _
    rw [if_pos rfl, h3]
    show ((lcF t c el (l.map (·.1)) e s).bind fun r s4 => R.ok (q.2 :: r) s4) = _
    rw [ih]
    rfl
namespace K02
abbrev Row := Nat × Int
def RowOk (r : Row) : Prop := r.1 < 56 ∧ fitB (wk r.1) r.2 = true
def bts (r : Row) : List Int := bytesI (Int.ofNat r.1) (wk r.1) r.2
theorem bts_len {r : Row} (h : r.1 < 56) : (bts r).length = sz (wk r.1) := by
  have hk := (code_at h).2.1
  unfold bts
  generalize wk r.1 = k at hk
  match k, hk with
  | 0, _ => rfl
  | 1, _ => rfl
  | 2, _ => rfl
  | 3, _ => rfl
  | 4, _ => rfl
  | 5, _ => rfl
theorem sz_pos {k : Nat} (h : k < 6) : 1 ≤ sz k ∧ sz k ≤ 3 := by
  match k, h with
  | 0, _ => decide
  | 1, _ => decide
  | 2, _ => decide
  | 3, _ => decide
  | 4, _ => decide
  | 5, _ => decide
def shw (r : Row) : D := if wk r.1 = 0 then .non else .int r.2
theorem shown_eq {r : Row} (h : RowOk r) : shown (wk r.1) (r.2 % 256) (r.2 / 256) = shw r := by
  have hk := (code_at h.1).2.1
  have hf := h.2
  obtain ⟨c, v⟩ := r
  unfold shw
  show shown (wk c) (v % 256) (v / 256) = _
  have hf : fitB (wk c) v = true := hf
  have hk : wk c < 6 := hk
  show _ = if wk c = 0 then D.non else .int v
  generalize wk c = k at hk hf
  match k, hk, hf with
  | 0, _, _ => rfl
  | 1, _, hf =>
    simp only [fitB, Bool.and_eq_true, decide_eq_true_eq] at hf
    show D.int (v % 256) = .int v
    rw [show v % 256 = v by omega]
  | 2, _, hf =>
    simp only [fitB, Bool.and_eq_true, decide_eq_true_eq] at hf
    show D.int (v % 256) = .int v
    rw [show v % 256 = v by omega]
  | 3, _, hf =>
    show D.int (v / 256 * 256 + v % 256) = .int v
    rw [show v / 256 * 256 + v % 256 = v by omega]
  | 4, _, hf =>
    show D.int (v / 256 * 256 + v % 256) = .int v
    rw [show v / 256 * 256 + v % 256 = v by omega]
  | 5, _, hf =>
    simp only [fitB, Bool.and_eq_true, decide_eq_true_eq] at hf
    show D.int (sg (v % 256)) = .int v
    rw [show sg (v % 256) = v by unfold sg; split <;> omega]
def decD (r : Row) : D := .tup [.str (nmS r.1), .str (ws (wk r.1)), shw r, .int (Int.ofNat (sz (wk r.1)))]
/-- what is read at a row's place -/
theorem dec_at (j : Nat) {d : D} {pre post : List Int} {r : Row} (h : RowOk r) (hs : Sq d (pre ++ (bts r ++ post))) : Ev G (j + 4) 14 [d, .int (Int.ofNat pre.length)] (decD r) := by
  have hl := bts_len h.1
  have hk := (code_at h.1).2.1
  have hz := sz_pos hk
  have at_ : ∀ i, (pre ++ (bts r ++ post))[pre.length + i]? = (bts r ++ post)[i]? := fun i => by rw [List.getElem?_append_right (by omega)]; congr 1; omega
  have h0 : (pre ++ (bts r ++ post))[pre.length]? = some (Int.ofNat r.1) := by
    have := at_ 0
    rw [Nat.add_zero] at this
    rw [this]
    unfold bts
    generalize wk r.1 = k at hk
    match k, hk with
    | 0, _ => rfl
    | 1, _ => rfl
    | 2, _ => rfl
    | 3, _ => rfl
    | 4, _ => rfl
    | 5, _ => rfl
  have q := decoded j hs (p := pre.length) (c := r.1) h.1 h0 (b1 := r.2 % 256) (b2 := r.2 / 256) (by rw [List.length_append, List.length_append, hl]; omega) (fun z => ⟨?_, by omega, by omega⟩) (fun z => ?_)
  · rw [shown_eq h] at q
    exact q
  · rw [at_ 1]
    unfold bts
    generalize wk r.1 = k at hk z
    match k, hk, z with
    | 0, _, z => exact absurd z (by decide)
    | 1, _, _ => rfl
    | 2, _, _ => rfl
    | 3, _, _ => rfl
    | 4, _, _ => rfl
    | 5, _, _ => rfl
  · have hf := h.2
    have e2 := at_ 2
    unfold bts at e2
    refine ⟨?_, ?_⟩
    · rw [at_ 2]
      unfold bts
      generalize wk r.1 = k at hk z
      match k, hk, z with
      | 0, _, z => exact absurd z (by decide)
      | 1, _, z => exact absurd z (by decide)
      | 2, _, z => exact absurd z (by decide)
      | 3, _, _ => rfl
      | 4, _, _ => rfl
      | 5, _, z => exact absurd z (by decide)
    · generalize wk r.1 = k at hk z hf
      match k, hk, z, hf with
      | 0, _, z, _ => exact absurd z (by decide)
      | 1, _, z, _ => exact absurd z (by decide)
      | 2, _, z, _ => exact absurd z (by decide)
      | 3, _, _, hf =>
        simp only [fitB, Bool.and_eq_true, decide_eq_true_eq] at hf
        omega
      | 4, _, _, hf =>
        simp only [fitB, Bool.and_eq_true, decide_eq_true_eq] at hf
        omega
      | 5, _, z, _ => exact absurd z (by decide)
/-! ### many rows -/
def nums (R : List Row) : List Int := (R.map bts).flatten
theorem nums_cons (r : Row) (R : List Row) : nums (r :: R) = bts r ++ nums R := by unfold nums; rw [List.map_cons, List.flatten_cons]
theorem nums_snoc (r : Row) (R : List Row) : nums (R ++ [r]) = nums R ++ bts r := by unfold nums; simp
/-- each row with its place -/
def offs : Nat → List Row → List (Nat × Row)
  | _, [] => []
  | o, r :: R => (o, r) :: offs (o + (bts r).length) R
theorem offs_snoc : ∀ (R : List Row) (o : Nat) (r : Row), offs o (R ++ [r]) = offs o R ++ [(o + (nums R).length, r)]
  | [], o, r => rfl
  | x :: R, o, r => by
    show (o, x) :: offs (o + (bts x).length) (R ++ [r]) = (o, x) :: offs (o + (bts x).length) R ++ [(o + (nums (x :: R)).length, r)]
    rw [offs_snoc R, nums_cons, List.length_append, Nat.add_assoc]
    rfl
theorem offs_mem : ∀ {R : List Row} {o : Nat} {pre : List Int} {q : Nat × Row}, pre.length = o → q ∈ offs o R → ∃ pre' post', pre ++ nums R = pre' ++ (bts q.2 ++ post') ∧ pre'.length = q.1 ∧ q.2 ∈ R
  | [], o, pre, q, h, hq => by cases hq
  | r :: R, o, pre, q, h, hq => by
    rcases List.mem_cons.mp hq with z | z
    · subst z
      exact ⟨pre, nums R, by rw [nums_cons], h, List.mem_cons_self ..⟩
    · obtain ⟨p', q', e1, e2, e3⟩ := offs_mem (pre := pre ++ bts r) (by rw [List.length_append, h]) z
      exact ⟨p', q', by rw [nums_cons, ← List.append_assoc, e1], e2, List.mem_cons_of_mem _ e3⟩
def offD (q : Nat × Row) : D := .int (Int.ofNat q.1)
theorem nums_len : ∀ {R : List Row}, (∀ r ∈ R, RowOk r) → R.length ≤ (nums R).length ∧ (nums R).length ≤ 3 * R.length
  | [], _ => ⟨Nat.le_refl _, Nat.le_refl _⟩
  | r :: R, h => by
    have ih := nums_len (R := R) fun x hx => h x (List.mem_cons_of_mem _ hx)
    have hr := h r (List.mem_cons_self ..)
    have h1 := bts_len hr.1
    have h2 := sz_pos (code_at hr.1).2.1
    rw [nums_cons, List.length_append, List.length_cons]
    omega
theorem offs_len : ∀ {R : List Row} {o : Nat}, (offs o R).length = R.length
  | [], _ => rfl
  | r :: R, o => by
    show (offs _ R).length + 1 = R.length + 1
    rw [offs_len]
/-! ### sizes_told -/
def szC (F : Nat → FM) : MB := mB (m2 (opC .Lt) (mVar 2) (mB1 bLen (aCons (mVar 0) aNil)))
def szB (F : Nat → FM) : MS := sSeq (sExpr (mMt .list mtAppend (mVar 1) (aCons (mVar 2) aNil))) (sSeq (sAug 2 (ipOp .Add) (m2 opIx (mCall 2 (F 14) (aCons (mVar 0) (aCons (mVar 2) aNil))) (mC (.int 3)))) sPass)
theorem s27_eq (F : Nat → FM) : s27 F = sSeq (sPar [1, 2] (aCons (mLst true aNil) (aCons (mC (.int 0)) aNil))) (sSeq (sWhile (szC F) (szB F)) (sSeq (sRet (mB1 bTup (aCons (mVar 1) aNil))) sPass)) := rfl
theorem szB_step (j : Nat) {d : D} {pre post : List Int} {r : Row} (h : RowOk r) (hs : Sq d (pre ++ (bts r ++ post))) {acc : List D} (ha : acc.length < 16777216) :
    szB (prog G (j + 4)) [some d, some (.ref 0), some (.int (Int.ofNat pre.length))] [.lst acc] = .nx [some d, some (.ref 0), some (.int (Int.ofNat (pre.length + (bts r).length)))] [.lst (acc ++ [.int (Int.ofNat pre.length)])] := by
  have q := dec_at j h hs
  have e1 : isTy .list (.ref 0) [.lst acc] = true := rfl
  have e2 : mtAppend (.ref 0) [.int (Int.ofNat pre.length)] [.lst acc] = some (.non, [.lst (acc ++ [.int (Int.ofNat pre.length)])]) := if_pos ha
  have e3 : ∀ s, opIx (decD r) (.int 3) s = some (.int (Int.ofNat (sz (wk r.1))), s) := fun s => rfl
  have e4 : Int.ofNat pre.length + Int.ofNat (sz (wk r.1)) = Int.ofNat (pre.length + (bts r).length) := by rw [bts_len h.1]; rfl
  unfold szB
  simp only [runN, sSeq, sIf, sRet, sRetN, sExpr, sAsg, sRaise, sPass, sAug, sPar, putAll, tName, tTup, tAll, goOn, Z.R.out, Z.R.bind_ok, Z.R.bind_exc, Z.R.bind_bad, Z.R.of, Z.R.nx, mC, mVar, m1, m2, mB, mT, mNot, mAnd, mOr, mIf, bNot, bAnd, bOr, bIf, truthR, truth, mTup, mkT, mLst, mkL, aNil, aCons, mCall, mB1, opBin, ipOp, ipAdd, ipMul, opAdd, opSub, opMul, opFdiv, opMod, unNeg, opC, opCmp, op_eq_int, op_in2, op_inl2, mChain, bYes, wVal, wRng, wOf, wR, wipeE, big, List.map_cons, List.map_nil, List.length_cons, List.length_nil, List.replicate, List.cons_append, List.nil_append, List.getElem?_cons_zero, List.getElem?_cons_succ, List.set_cons_zero, List.set_cons_succ, if_true, if_false, decide_true, decide_false, Bool.not_true, Bool.not_false, Bool.true_and, Bool.and_true, Bool.false_and, Bool.and_false, Bool.or_false, Bool.false_or, Bool.true_or, Bool.or_true, Bool.xor_false, Bool.xor_true, Bool.false_xor, Bool.true_xor, Bool.false_eq_true, Bool.true_eq_false, ite_true, ite_false, line, Nat.reduceSub, Nat.reduceAdd, Int.reduceNeg, Int.reducePow, Int.reduceLT, Int.reduceLE, Int.reduceMul, Int.reduceAdd, Int.reduceSub, Int.reduceDiv, Int.reduceMod, Int.reduceEq, Nat.reduceLeDiff, Nat.reduceLT, Nat.reduceEqDiff, and_true, true_and, and_false, false_and, and_self, gt_iff_lt, ge_iff_le, mMt, e1, e2, q _, e3, e4]
theorem szC_at {F : Nat → FM} {d : D} {ns : List Int} (hs : Sq d ns) (p : Nat) (s : Sto) : szC F [some d, some (.ref 0), some (.int (Int.ofNat p))] s = .ok (decide (p < ns.length)) s := by
  have hL := len_sq hs
  have e : decide (Int.ofNat p < (ns.length : Int)) = decide (p < ns.length) := decide_eq_decide.mpr Int.ofNat_lt
  unfold szC
  simp only [runN, sSeq, sIf, sRet, sRetN, sExpr, sAsg, sRaise, sPass, sAug, sPar, putAll, tName, tTup, tAll, goOn, Z.R.out, Z.R.bind_ok, Z.R.bind_exc, Z.R.bind_bad, Z.R.of, Z.R.nx, mC, mVar, m1, m2, mB, mT, mNot, mAnd, mOr, mIf, bNot, bAnd, bOr, bIf, truthR, truth, mTup, mkT, mLst, mkL, aNil, aCons, mCall, mB1, opBin, ipOp, ipAdd, ipMul, opAdd, opSub, opMul, opFdiv, opMod, unNeg, opC, opCmp, op_eq_int, op_in2, op_inl2, mChain, bYes, wVal, wRng, wOf, wR, wipeE, big, List.map_cons, List.map_nil, List.length_cons, List.length_nil, List.replicate, List.cons_append, List.nil_append, List.getElem?_cons_zero, List.getElem?_cons_succ, List.set_cons_zero, List.set_cons_succ, if_true, if_false, decide_true, decide_false, Bool.not_true, Bool.not_false, Bool.true_and, Bool.and_true, Bool.false_and, Bool.and_false, Bool.or_false, Bool.false_or, Bool.true_or, Bool.or_true, Bool.xor_false, Bool.xor_true, Bool.false_xor, Bool.true_xor, Bool.false_eq_true, Bool.true_eq_false, ite_true, ite_false, line, Nat.reduceSub, Nat.reduceAdd, Int.reduceNeg, Int.reducePow, Int.reduceLT, Int.reduceLE, Int.reduceMul, Int.reduceAdd, Int.reduceSub, Int.reduceDiv, Int.reduceMod, Int.reduceEq, Nat.reduceLeDiff, Nat.reduceLT, Nat.reduceEqDiff, and_true, true_and, and_false, false_and, and_self, gt_iff_lt, ge_iff_le, hL, e]
theorem sz_loop (j : Nat) {d : D} : ∀ (R : List Row) (pre : List Int) (acc : List D) (n : Nat), (∀ r ∈ R, RowOk r) → Sq d (pre ++ nums R) → R.length < n → acc.length + R.length < 16777216 →
    whileL (szC (prog G (j + 4))) (szB (prog G (j + 4))) n [some d, some (.ref 0), some (.int (Int.ofNat pre.length))] [.lst acc] = .nx [some d, some (.ref 0), some (.int (Int.ofNat (pre ++ nums R).length))] [.lst (acc ++ (offs pre.length R).map offD)]
  | [], pre, acc, 0, _, _, hn, _ => absurd hn (by simp)
  | r :: R, pre, acc, 0, _, _, hn, _ => absurd hn (by simp)
  | [], pre, acc, n + 1, hR, hs, hn, ha => by
    unfold whileL
    rw [szC_at hs]
    have e : (pre ++ nums []) = pre := by unfold nums; simp
    rw [e, decide_eq_false (Nat.lt_irrefl _)]
    show Out.nx _ _ = _
    unfold offs
    rw [List.map_nil, List.append_nil]
  | r :: R, pre, acc, n + 1, hR, hs, hn, ha => by
    have hr := hR r (List.mem_cons_self ..)
    have hl := bts_len hr.1
    have hz := sz_pos (code_at hr.1).2.1
    unfold whileL
    rw [szC_at hs]
    have lt : pre.length < (pre ++ nums (r :: R)).length := by rw [List.length_append, nums_cons, List.length_append]; omega
    rw [decide_eq_true lt]
    have hs' : Sq d (pre ++ (bts r ++ nums R)) := by rw [← nums_cons]; exact hs
    show (match szB (prog G (j + 4)) [some d, some (.ref 0), some (.int (Int.ofNat pre.length))] [.lst acc] with
      | .nx e2 s2 => whileL (szC (prog G (j + 4))) (szB (prog G (j + 4))) n e2 s2
      | .ct e2 s2 => whileL (szC (prog G (j + 4))) (szB (prog G (j + 4))) n e2 s2
      | .bk e2 s2 => .nx e2 s2
      | .rt d s2 => .rt d s2
      | .ex c e2 s2 => .ex c e2 s2
      | .bad => .bad) = _
    rw [List.length_cons] at ha hn
    rw [szB_step j hr hs' (by omega)]
    have ih := sz_loop j R (pre ++ bts r) (acc ++ [.int (Int.ofNat pre.length)]) n (fun x hx => hR x (List.mem_cons_of_mem _ hx)) (by rw [List.append_assoc]; exact hs') (by omega) (by rw [List.length_append, List.length_singleton]; omega)
    rw [List.length_append (as := pre)] at ih
    show whileL _ _ n _ _ = _
    rw [ih, nums_cons, List.append_assoc, List.append_assoc]
    rfl
theorem pure_offs (l : List (Nat × Row)) (k : Nat) : (l.map offD).all (pure? (k + 1)) = true := by
  induction l with
  | nil => rfl
  | cons n r ih => rw [List.map_cons, List.all_cons, ih]; rfl
theorem sizes_told (j : Nat) {d : D} {R : List Row} (hR : ∀ r ∈ R, RowOk r) (hs : Sq d (nums R)) (hl : R.length ≤ 100) : Ev G (j + 5) 17 [d] (.tup ((offs 0 R).map offD)) := by
  refine ev_of (d := d27) rfl rfl rfl sh27 (by rw [List.all_cons, pure_sq hs]; rfl) (pure_offs _ 10) (s' := [.lst ((offs 0 R).map offD)]) ?_
  show runN 3 (s27 (prog G (j + 4))) [d] [] = _
  rw [s27_eq]
  have q := sz_loop j R [] [] turns hR hs (by unfold turns; omega) (by simp only [List.length_nil]; omega)
  have e1 : mkL true [] [] = some (.ref 0, [.lst []]) := rfl
  have e2 : ∀ xs : List D, xs.length ≤ 16777216 → bTup [.ref 0] [.lst xs] = some (.tup xs, [.lst xs]) := fun xs hx => by
    show mkT xs [.lst xs] = _
    unfold mkT
    rw [if_pos hx]
  have e3 := e2 ((offs 0 R).map offD) (by rw [List.length_map, offs_len]; omega)
  have q : whileL (szC (prog G (j + 4))) (szB (prog G (j + 4))) turns [some d, some (.ref 0), some (.int 0)] [.lst []] = .nx [some d, some (.ref 0), some (.int (Int.ofNat (nums R).length))] [.lst ((offs 0 R).map offD)] := q
  have w : ∀ e s, sWhile (szC (prog G (j + 4))) (szB (prog G (j + 4))) e s = whileL (szC (prog G (j + 4))) (szB (prog G (j + 4))) turns e s := fun _ _ => rfl
  simp only [runN, sSeq, sPar, putAll, goOn, sRet, mLst, mC, aCons, aNil, mB1, mVar, Z.R.out, Z.R.of, Z.R.bind_ok, List.map_cons, List.map_nil, List.length_cons, List.length_nil, List.replicate, List.cons_append, List.nil_append, List.getElem?_cons_zero, List.getElem?_cons_succ, List.set_cons_zero, List.set_cons_succ, Nat.reduceSub, Nat.reduceAdd, e1, w, q, e3]
/-! ### steps_told -/
theorem intsOf_offs : ∀ l : List (Nat × Row), intsOf (l.map fun q => D.int (stp q.2.1)) = some (l.map fun q => stp q.2.1)
  | [] => rfl
  | q :: l => by
    have ih := intsOf_offs l
    rw [List.map_cons]
    unfold intsOf
    rw [ih]
    rfl
def stps (R : List Row) : Int := (R.map fun r => stp r.1).sum
theorem stps_snoc (r : Row) (R : List Row) : stps (R ++ [r]) = stps R + stp r.1 := by unfold stps; simp
theorem offs_snd : ∀ (R : List Row) (o : Nat), (offs o R).map (fun q => stp q.2.1) = R.map fun r => stp r.1
  | [], _ => rfl
  | r :: R, o => by
    show stp r.1 :: (offs _ R).map _ = stp r.1 :: _
    rw [offs_snd]
theorem steps_told (j : Nat) {d : D} {R : List Row} (hR : ∀ r ∈ R, RowOk r) (hs : Sq d (nums R)) (hl : R.length ≤ 100) : Ev G (j + 6) 18 [d] (.int (stps R)) := by
  refine ev_of (d := d28) rfl rfl rfl sh28 (by rw [List.all_cons, pure_sq hs]; rfl) rfl (s' := []) ?_
  show runN 2 (s28 (prog G (j + 5))) [d] [] = _
  have q := sizes_told j hR hs hl
  have hL : ((offs 0 R).map offD).length ≤ 16777216 := by rw [List.length_map, offs_len]; omega
  have key : lcF (tName 1) bYes (mChk okInt (mCall 1 (prog G (j + 5) 12) (aCons (m2 opIx (mVar 0) (mVar 1)) aNil))) (((offs 0 R).map fun q => (offD q, D.int (stp q.2.1))).map (·.1)) [some d, none] [] = .ok (((offs 0 R).map fun q => (offD q, D.int (stp q.2.1))).map (·.2)) [] := by
    refine lcF_two fun q hq => ?_
    obtain ⟨o, ho, rfl⟩ := List.mem_map.mp hq
    obtain ⟨pre, post, e1, e2, e3⟩ := offs_mem (pre := []) rfl ho
    have e1 : nums R = pre ++ (bts o.2 ++ post) := e1
    have hr := hR o.2 e3
    have hx : (nums R)[o.1]? = some (Int.ofNat o.2.1) := by
      rw [e1, ← e2, List.getElem?_append_right (Nat.le_refl _), Nat.sub_self]
      have hk := (code_at hr.1).2.1
      unfold bts
      generalize wk o.2.1 = k at hk
      match k, hk with
      | 0, _ => rfl
      | 1, _ => rfl
      | 2, _ => rfl
      | 3, _ => rfl
      | 4, _ => rfl
      | 5, _ => rfl
    have i0 := ix_sq hs hx
    have st := steps_of (j + 3) hr.1
    refine ⟨[some d, some (offD o)], rfl, rfl, ?_⟩
    unfold offD
    simp only [runN, sSeq, sIf, sRet, sRetN, sExpr, sAsg, sRaise, sPass, sAug, sPar, putAll, tName, tTup, tAll, goOn, Z.R.out, Z.R.bind_ok, Z.R.bind_exc, Z.R.bind_bad, Z.R.of, Z.R.nx, mC, mVar, m1, m2, mB, mT, mNot, mAnd, mOr, mIf, bNot, bAnd, bOr, bIf, truthR, truth, mTup, mkT, mLst, mkL, aNil, aCons, mCall, mB1, opBin, ipOp, ipAdd, ipMul, opAdd, opSub, opMul, opFdiv, opMod, unNeg, opC, opCmp, op_eq_int, op_in2, op_inl2, mChain, bYes, wVal, wRng, wOf, wR, wipeE, big, List.map_cons, List.map_nil, List.length_cons, List.length_nil, List.replicate, List.cons_append, List.nil_append, List.getElem?_cons_zero, List.getElem?_cons_succ, List.set_cons_zero, List.set_cons_succ, if_true, if_false, decide_true, decide_false, Bool.not_true, Bool.not_false, Bool.true_and, Bool.and_true, Bool.false_and, Bool.and_false, Bool.or_false, Bool.false_or, Bool.true_or, Bool.or_true, Bool.xor_false, Bool.xor_true, Bool.false_xor, Bool.true_xor, Bool.false_eq_true, Bool.true_eq_false, ite_true, ite_false, line, Nat.reduceSub, Nat.reduceAdd, Int.reduceNeg, Int.reducePow, Int.reduceLT, Int.reduceLE, Int.reduceMul, Int.reduceAdd, Int.reduceSub, Int.reduceDiv, Int.reduceMod, Int.reduceEq, Nat.reduceLeDiff, Nat.reduceLT, Nat.reduceEqDiff, and_true, true_and, and_false, false_and, and_self, gt_iff_lt, ge_iff_le, mChk, i0, st _, okInt]
  rw [List.map_map, List.map_map] at key
  have key : lcF (tName 1) bYes (mChk okInt (mCall 1 (prog G (j + 5) 12) (aCons (m2 opIx (mVar 0) (mVar 1)) aNil))) ((offs 0 R).map offD) [some d, none] [] = .ok ((offs 0 R).map fun q => D.int (stp q.2.1)) [] := key
  unfold s28
  have fs : ∀ s, finSum ((offs 0 R).map fun q => D.int (stp q.2.1)) s = .ok (.int (stps R)) s := fun s => by
    unfold finSum
    rw [intsOf_offs, offs_snd]
    rfl
  simp only [runN, sSeq, sRet, mGx, wVal, wOf, wR, mCall, aCons, aNil, mVar, Z.R.out, Z.R.of, Z.R.bind_ok, List.map_cons, List.map_nil, List.length_cons, List.length_nil, List.replicate, List.cons_append, List.nil_append, List.getElem?_cons_zero, List.getElem?_cons_succ, List.set_cons_zero, List.set_cons_succ, Nat.reduceSub, Nat.reduceAdd, q _, lcS, hL, line, wipeE, if_true, ite_true, key, fs]
end K02
end Z

set_option Elab.async false
set_option linter.all false
set_option maxRecDepth 100000
set_option maxHeartbeats 4000000
namespace Z
open PySem
namespace K02
-- slots [(0, 'script'), (1, 'dice'), (2, 'code'), (3, 'name'), (4, 'way'), (5, 'numbers'), (6, 'begins'), (7, 'steps'), (8, 'rows'), (9, 'k'), (10, 'number'), (11, 'value'), (12, 'due'), (13, 'shown'), (14, 'place'), (15, 'goal'), (16, 'far'), (17, 'one')]
-- if len(dict([(code, 1) for code in CODES])) != len(CODES) or [code_of(name, way) for name, way in CODES] != list(range(len(CODES))):
def lb0 (F : Nat → FM) : MS := (sIf (bOr (mB (m2 (opC .NotEq) (mLenD (mLc false [2] (tName 2) (wVal (mC cCODES)) bYes (mTup (aCons (mVar 2) (aCons (mC (.int 1)) aNil))))) (mB1 bLen (aCons (mC cCODES) aNil)))) (mB (m2 (opC .NotEq) (mLc false [3, 4] (tTup [(tName 3), (tName 4)]) (wVal (mC cCODES)) bYes (mCall 2 (F 8) (aCons (mVar 3) (aCons (mVar 4) aNil)))) (mRgL1 false (mB1 bLen (aCons (mC cCODES) aNil)))))) (sSeq (sRet (mC (.bl false))) sPass) sPass)
-- numbers, begins, steps, rows = ([], [], 0, [])
def lb1 (F : Nat → FM) : MS := (sAsg (tTup [(tName 5), (tName 6), (tName 7), (tName 8)]) (mTup (aCons (mLst false aNil) (aCons (mLst false aNil) (aCons (mC (.int 0)) (aCons (mLst false aNil) aNil))))))
-- for k in range(_law_roll(dice, 8)):
-- number = _law_roll(dice, len(CODES))
def lb2b0 (F : Nat → FM) : MS := (sAsg (tName 10) (mCall 2 (F 22) (aCons (mVar 1) (aCons (mB1 bLen (aCons (mC cCODES) aNil)) aNil))))
-- name, way = CODES[number]
def lb2b1 (F : Nat → FM) : MS := (sAsg (tTup [(tName 3), (tName 4)]) (m2 opIx (mC cCODES) (mVar 10)))
-- value = [_law_roll(dice, 256), _law_roll(dice, 65536), _law_roll(dice, 256) - 128][_law_roll(dice, 3)]
def lb2b2 (F : Nat → FM) : MS := (sAsg (tName 11) (m2 opIx (mLst false (aCons (mCall 2 (F 22) (aCons (mVar 1) (aCons (mC (.int 256)) aNil))) (aCons (mCall 2 (F 22) (aCons (mVar 1) (aCons (mC (.int 65536)) aNil))) (aCons (m2 (opBin false .Sub) (mCall 2 (F 22) (aCons (mVar 1) (aCons (mC (.int 256)) aNil))) (mC (.int 128))) aNil)))) (mCall 2 (F 22) (aCons (mVar 1) (aCons (mC (.int 3)) aNil)))))
-- due = _law_bytes(number, way, value) if _law_fits(way, value) else 'CodeError'
def lb2b3 (F : Nat → FM) : MS := (sAsg (tName 12) (mIf (mT (mCall 2 (F 25) (aCons (mVar 4) (aCons (mVar 11) aNil)))) (mCall 3 (F 26) (aCons (mVar 10) (aCons (mVar 4) (aCons (mVar 11) aNil)))) (mC (.str "CodeError"))))
-- if _law_told(lambda: encoded(name, way, value)) != due or named_code(number) != (name, way) or way not in ways_of(name):
def lb2b4 (F : Nat → FM) : MS := (sIf (bOr (mB (m2 (opC .NotEq) (mTold1 (catchOf G 1) "CodeError" (mCall 3 (F 13) (aCons (mVar 3) (aCons (mVar 4) (aCons (mVar 11) aNil))))) (mVar 12))) (bOr (mB (m2 (opC .NotEq) (mCall 1 (F 9) (aCons (mVar 10) aNil)) (mTup (aCons (mVar 3) (aCons (mVar 4) aNil))))) (mB (m2 (opC .NotIn) (mVar 4) (mCall 1 (F 10) (aCons (mVar 3) aNil)))))) (sSeq (sRet (mC (.bl false))) sPass) sPass)
-- if size_of(number) != len(_law_bytes(number, way, 0)) or steps_of(number) != _law_steps(name, way):
def lb2b5 (F : Nat → FM) : MS := (sIf (bOr (mB (m2 (opC .NotEq) (mCall 1 (F 11) (aCons (mVar 10) aNil)) (mB1 bLen (aCons (mCall 3 (F 26) (aCons (mVar 10) (aCons (mVar 4) (aCons (mC (.int 0)) aNil)))) aNil)))) (mB (m2 (opC .NotEq) (mCall 1 (F 12) (aCons (mVar 10) aNil)) (mCall 2 (F 28) (aCons (mVar 3) (aCons (mVar 4) aNil)))))) (sSeq (sRet (mC (.bl false))) sPass) sPass)
-- if due != 'CodeError':
-- shown = None if way == 'none' else value
def lb2b6t0 (F : Nat → FM) : MS := (sAsg (tName 13) (mIf (mB (m2 (opC .Eq) (mVar 4) (mC (.str "none")))) (mC .non) (mVar 11)))
-- if decoded(due, 0) != (name, way, shown, len(due)) or decoded([7] * k + list(due), k) != (name, way, shown, len(due)):
def lb2b6t1 (F : Nat → FM) : MS := (sIf (bOr (mB (m2 (opC .NotEq) (mCall 2 (F 14) (aCons (mVar 12) (aCons (mC (.int 0)) aNil))) (mTup (aCons (mVar 3) (aCons (mVar 4) (aCons (mVar 13) (aCons (mB1 bLen (aCons (mVar 12) aNil)) aNil))))))) (mB (m2 (opC .NotEq) (mCall 2 (F 14) (aCons (m2 (opBin false .Add) (m2 (opBin false .Mult) (mLst false (aCons (mC (.int 7)) aNil)) (mVar 9)) (mB1 (bList false) (aCons (mVar 12) aNil))) (aCons (mVar 9) aNil))) (mTup (aCons (mVar 3) (aCons (mVar 4) (aCons (mVar 13) (aCons (mB1 bLen (aCons (mVar 12) aNil)) aNil)))))))) (sSeq (sRet (mC (.bl false))) sPass) sPass)
-- if told_code(name, way, shown) != _law_text(name, way, value) or _law_told(lambda: decoded(due[:-1], 0)) != 'CodeError':
def lb2b6t2 (F : Nat → FM) : MS := (sIf (bOr (mB (m2 (opC .NotEq) (mCall 3 (F 15) (aCons (mVar 3) (aCons (mVar 4) (aCons (mVar 13) aNil)))) (mCall 3 (F 27) (aCons (mVar 3) (aCons (mVar 4) (aCons (mVar 11) aNil)))))) (mB (m2 (opC .NotEq) (mTold1 (catchOf G 1) "CodeError" (mCall 2 (F 14) (aCons (mSl false (mVar 12) oNone (oSome (m1 unNeg (mC (.int 1))))) (aCons (mC (.int 0)) aNil)))) (mC (.str "CodeError"))))) (sSeq (sRet (mC (.bl false))) sPass) sPass)
-- begins, numbers, steps = (begins + [len(numbers)], numbers + list(due), steps + _law_steps(name, way))
def lb2b6t3 (F : Nat → FM) : MS := (sAsg (tTup [(tName 6), (tName 5), (tName 7)]) (mTup (aCons (m2 (opBin false .Add) (mVar 6) (mLst false (aCons (mB1 bLen (aCons (mVar 5) aNil)) aNil))) (aCons (m2 (opBin false .Add) (mVar 5) (mB1 (bList false) (aCons (mVar 12) aNil))) (aCons (m2 (opBin false .Add) (mVar 7) (mCall 2 (F 28) (aCons (mVar 3) (aCons (mVar 4) aNil)))) aNil)))))
-- rows = rows + [(name, way, shown)]
def lb2b6t4 (F : Nat → FM) : MS := (sAsg (tName 8) (m2 (opBin false .Add) (mVar 8) (mLst false (aCons (mTup (aCons (mVar 3) (aCons (mVar 4) (aCons (mVar 13) aNil)))) aNil))))
def lb2b6 (F : Nat → FM) : MS := sIf (mB (m2 (opC .NotEq) (mVar 12) (mC (.str "CodeError")))) ((sSeq (lb2b6t0 F) (sSeq (lb2b6t1 F) (sSeq (lb2b6t2 F) (sSeq (lb2b6t3 F) (sSeq (lb2b6t4 F) sPass)))))) sPass
def lb2 (F : Nat → FM) : MS := sForW (tName 9) (wRng (aCons (mCall 2 (F 22) (aCons (mVar 1) (aCons (mC (.int 8)) aNil))) aNil)) ((sSeq (lb2b0 F) (sSeq (lb2b1 F) (sSeq (lb2b2 F) (sSeq (lb2b3 F) (sSeq (lb2b4 F) (sSeq (lb2b5 F) (sSeq (lb2b6 F) sPass))))))))
-- if list(sizes_told(numbers)) != begins or steps_told(numbers) != steps or [decoded(numbers, place)[:3] for place in begins] != rows:
def lb3 (F : Nat → FM) : MS := (sIf (bOr (mB (m2 (opC .NotEq) (mB1 (bList false) (aCons (mCall 1 (F 17) (aCons (mVar 5) aNil)) aNil)) (mVar 6))) (bOr (mB (m2 (opC .NotEq) (mCall 1 (F 18) (aCons (mVar 5) aNil)) (mVar 7))) (mB (m2 (opC .NotEq) (mLc false [14] (tName 14) (wVal (mVar 6)) bYes (mSl false (mCall 2 (F 14) (aCons (mVar 5) (aCons (mVar 14) aNil))) oNone (oSome (mC (.int 3))))) (mVar 8))))) (sSeq (sRet (mC (.bl false))) sPass) sPass)
-- place, goal, far = (_law_roll(dice, 400), _law_roll(dice, 400), _law_roll(dice, 256) - 128)
def lb4 (F : Nat → FM) : MS := (sAsg (tTup [(tName 14), (tName 15), (tName 16)]) (mTup (aCons (mCall 2 (F 22) (aCons (mVar 1) (aCons (mC (.int 400)) aNil))) (aCons (mCall 2 (F 22) (aCons (mVar 1) (aCons (mC (.int 400)) aNil))) (aCons (m2 (opBin false .Sub) (mCall 2 (F 22) (aCons (mVar 1) (aCons (mC (.int 256)) aNil))) (mC (.int 128))) aNil)))))
-- if _law_told(lambda: far_between(place, goal)) != (goal - place - 2 if -128 <= goal - place - 2 <= 127 else 'CodeError'):
def lb5 (F : Nat → FM) : MS := (sIf (mB (m2 (opC .NotEq) (mTold1 (catchOf G 1) "CodeError" (mCall 2 (F 19) (aCons (mVar 14) (aCons (mVar 15) aNil)))) (mIf (mB (mChain (opC .LtE) (opC .LtE) (m1 unNeg (mC (.int 128))) (m2 (opBin false .Sub) (m2 (opBin false .Sub) (mVar 15) (mVar 14)) (mC (.int 2))) (mC (.int 127)))) (m2 (opBin false .Sub) (m2 (opBin false .Sub) (mVar 15) (mVar 14)) (mC (.int 2))) (mC (.str "CodeError"))))) (sSeq (sRet (mC (.bl false))) sPass) sPass)
-- if goal_of(place, far) != (place + 2 + far) % 65536 or far_between(place, place + 2 + far) != far:
def lb6 (F : Nat → FM) : MS := (sIf (bOr (mB (m2 (opC .NotEq) (mCall 2 (F 20) (aCons (mVar 14) (aCons (mVar 16) aNil))) (m2 (opBin false .Mod) (m2 (opBin false .Add) (m2 (opBin false .Add) (mVar 14) (mC (.int 2))) (mVar 16)) (mC (.int 65536))))) (mB (m2 (opC .NotEq) (mCall 2 (F 19) (aCons (mVar 14) (aCons (m2 (opBin false .Add) (m2 (opBin false .Add) (mVar 14) (mC (.int 2))) (mVar 16)) aNil))) (mVar 16)))) (sSeq (sRet (mC (.bl false))) sPass) sPass)
-- name = CODES[_law_roll(dice, len(CODES))][0]
def lb7 (F : Nat → FM) : MS := (sAsg (tName 3) (m2 opIx (m2 opIx (mC cCODES) (mCall 2 (F 22) (aCons (mVar 1) (aCons (mB1 bLen (aCons (mC cCODES) aNil)) aNil)))) (mC (.int 0))))
-- if list(ways_of(name)) != [way for one, way in CODES if one == name] or fits_near(name, goal) != ((name, 'near') in CODES and goal < 256):
def lb8 (F : Nat → FM) : MS := (sIf (bOr (mB (m2 (opC .NotEq) (mB1 (bList false) (aCons (mCall 1 (F 10) (aCons (mVar 3) aNil)) aNil)) (mLc false [17, 4] (tTup [(tName 17), (tName 4)]) (wVal (mC cCODES)) (mB (m2 (opC .Eq) (mVar 17) (mVar 3))) (mVar 4)))) (mB (m2 (opC .NotEq) (mCall 2 (F 16) (aCons (mVar 3) (aCons (mVar 15) aNil))) (mAnd (m2 (opC .In) (mTup (aCons (mVar 3) (aCons (mC (.str "near")) aNil))) (mC cCODES)) (m2 (opC .Lt) (mVar 15) (mC (.int 256))))))) (sSeq (sRet (mC (.bl false))) sPass) sPass)
def lawBody (F : Nat → FM) : MS := (sSeq (lb0 F) (sSeq (lb1 F) (sSeq (lb2 F) (sSeq (lb3 F) (sSeq (lb4 F) (sSeq (lb5 F) (sSeq (lb6 F) (sSeq (lb7 F) (sSeq (lb8 F) sPass)))))))))
theorem law_split (F : Nat → FM) : s41 F = sSeq (sForW (tName 1) (wVal (mCall 2 (F 23) (aCons (mVar 0) (aCons (mC (.int 1)) aNil)))) (lawBody F)) (sSeq (sRet (mCall 0 (F 29) aNil)) sPass) := rfl
end K02
end Z

set_option Elab.async false
set_option linter.all false
set_option maxRecDepth 100000
set_option maxHeartbeats 4000000
namespace Z
open PySem
namespace K02
variable {a0 a1 a2 a3 a4 a5 a6 a7 a8 a9 a10 a11 a12 a13 a14 a15 a16 a17 : Option D}
theorem cat_len (s : Sto) : bLen [cCODES] s = some (.int 56, s) := rfl
theorem cat_ix {c : Nat} (h : c < 56) (s : Sto) : opIx cCODES (.int (Int.ofNat c)) s = some (.tup [.str (nmS c), .str (ws (wk c))], s) := by
  have e := atI_ok (code_at h).1
  show (match L2.atI tCODES (Int.ofNat c) with | some v => some (v, s) | none => none) = _
  rw [e]
theorem l0 (j : Nat) (s : Sto) : lb0 (prog G (j + 6)) [a0, some (.ref 0), a2, a3, a4, a5, a6, a7, a8, a9, a10, a11, a12, a13, a14, a15, a16, a17] s = .nx [a0, some (.ref 0), a2, a3, a4, a5, a6, a7, a8, a9, a10, a11, a12, a13, a14, a15, a16, a17] s := by kernel_rfl
theorem l1 (j : Nat) (s : Sto) : lb1 (prog G (j + 6)) [a0, some (.ref 0), a2, a3, a4, a5, a6, a7, a8, a9, a10, a11, a12, a13, a14, a15, a16, a17] s = .nx [a0, some (.ref 0), a2, a3, a4, some (.lst []), some (.lst []), some (.int 0), some (.lst []), a9, a10, a11, a12, a13, a14, a15, a16, a17] s := by kernel_rfl
theorem i0 (j : Nat) (x y z : Int) : ∃ (c : Nat) (x' y' z' : Int), c < 56 ∧ lb2b0 (prog G (j + 6)) [a0, some (.ref 0), a2, a3, a4, a5, a6, a7, a8, a9, a10, a11, a12, a13, a14, a15, a16, a17] (sd x y z) = .nx [a0, some (.ref 0), a2, a3, a4, a5, a6, a7, a8, a9, some (.int (Int.ofNat c)), a11, a12, a13, a14, a15, a16, a17] (sd x' y' z') := by
  obtain ⟨v, x1, y1, z1, h0, h1, e1⟩ := roll (j + 5) x y z (m := 56) (by decide) (by decide)
  obtain ⟨c, rfl⟩ : ∃ c : Nat, v = Int.ofNat c := ⟨v.toNat, (Int.toNat_of_nonneg h0).symm⟩
  refine ⟨c, x1, y1, z1, Int.ofNat_lt.mp h1, ?_⟩
  unfold lb2b0
  simp only [runN, sSeq, sIf, sRet, sRetN, sExpr, sAsg, sRaise, sPass, sAug, sPar, putAll, tName, tTup, tAll, goOn, Z.R.out, Z.R.bind_ok, Z.R.bind_exc, Z.R.bind_bad, Z.R.of, Z.R.nx, mC, mVar, m1, m2, mB, mT, mNot, mAnd, mOr, mIf, bNot, bAnd, bOr, bIf, truthR, truth, mTup, mkT, mLst, mkL, aNil, aCons, mCall, mB1, opBin, ipOp, ipAdd, ipMul, opAdd, opSub, opMul, opFdiv, opMod, unNeg, opC, opCmp, op_eq_int, op_in2, op_inl2, mChain, bYes, wVal, wRng, wOf, wR, wipeE, big, List.map_cons, List.map_nil, List.length_cons, List.length_nil, List.replicate, List.cons_append, List.nil_append, List.getElem?_cons_zero, List.getElem?_cons_succ, List.set_cons_zero, List.set_cons_succ, if_true, if_false, decide_true, decide_false, Bool.not_true, Bool.not_false, Bool.true_and, Bool.and_true, Bool.false_and, Bool.and_false, Bool.or_false, Bool.false_or, Bool.true_or, Bool.or_true, Bool.xor_false, Bool.xor_true, Bool.false_xor, Bool.true_xor, Bool.false_eq_true, Bool.true_eq_false, ite_true, ite_false, line, Nat.reduceSub, Nat.reduceAdd, Int.reduceNeg, Int.reducePow, Int.reduceLT, Int.reduceLE, Int.reduceMul, Int.reduceAdd, Int.reduceSub, Int.reduceDiv, Int.reduceMod, Int.reduceEq, Nat.reduceLeDiff, Nat.reduceLT, Nat.reduceEqDiff, and_true, true_and, and_false, false_and, and_self, gt_iff_lt, ge_iff_le, cat_len, e1]
section
variable {c : Nat} (hc : c < 56) {v : Int}
include hc
theorem i1 (j : Nat) (s : Sto) : lb2b1 (prog G (j + 6)) [a0, some (.ref 0), a2, a3, a4, a5, a6, a7, a8, a9, some (.int (Int.ofNat c)), a11, a12, a13, a14, a15, a16, a17] s = .nx [a0, some (.ref 0), a2, some (.str (nmS c)), some (.str (ws (wk c))), a5, a6, a7, a8, a9, some (.int (Int.ofNat c)), a11, a12, a13, a14, a15, a16, a17] s := by
  unfold lb2b1
  simp only [runN, sSeq, sIf, sRet, sRetN, sExpr, sAsg, sRaise, sPass, sAug, sPar, putAll, tName, tTup, tAll, goOn, Z.R.out, Z.R.bind_ok, Z.R.bind_exc, Z.R.bind_bad, Z.R.of, Z.R.nx, mC, mVar, m1, m2, mB, mT, mNot, mAnd, mOr, mIf, bNot, bAnd, bOr, bIf, truthR, truth, mTup, mkT, mLst, mkL, aNil, aCons, mCall, mB1, opBin, ipOp, ipAdd, ipMul, opAdd, opSub, opMul, opFdiv, opMod, unNeg, opC, opCmp, op_eq_int, op_in2, op_inl2, mChain, bYes, wVal, wRng, wOf, wR, wipeE, big, List.map_cons, List.map_nil, List.length_cons, List.length_nil, List.replicate, List.cons_append, List.nil_append, List.getElem?_cons_zero, List.getElem?_cons_succ, List.set_cons_zero, List.set_cons_succ, if_true, if_false, decide_true, decide_false, Bool.not_true, Bool.not_false, Bool.true_and, Bool.and_true, Bool.false_and, Bool.and_false, Bool.or_false, Bool.false_or, Bool.true_or, Bool.or_true, Bool.xor_false, Bool.xor_true, Bool.false_xor, Bool.true_xor, Bool.false_eq_true, Bool.true_eq_false, ite_true, ite_false, line, Nat.reduceSub, Nat.reduceAdd, Int.reduceNeg, Int.reducePow, Int.reduceLT, Int.reduceLE, Int.reduceMul, Int.reduceAdd, Int.reduceSub, Int.reduceDiv, Int.reduceMod, Int.reduceEq, Nat.reduceLeDiff, Nat.reduceLT, Nat.reduceEqDiff, and_true, true_and, and_false, false_and, and_self, gt_iff_lt, ge_iff_le, cat_ix hc]
end
theorem i2 (j : Nat) (x y z : Int) : ∃ (v x' y' z' : Int), -128 ≤ v ∧ v ≤ 65535 ∧ lb2b2 (prog G (j + 6)) [a0, some (.ref 0), a2, a3, a4, a5, a6, a7, a8, a9, a10, a11, a12, a13, a14, a15, a16, a17] (sd x y z) = .nx [a0, some (.ref 0), a2, a3, a4, a5, a6, a7, a8, a9, a10, some (.int v), a12, a13, a14, a15, a16, a17] (sd x' y' z') := by
  obtain ⟨v1, x1, y1, z1, p1, q1, e1⟩ := roll (j + 5) x y z (m := 256) (by decide) (by decide)
  obtain ⟨v2, x2, y2, z2, p2, q2, e2⟩ := roll (j + 5) x1 y1 z1 (m := 65536) (by decide) (by decide)
  obtain ⟨v3, x3, y3, z3, p3, q3, e3⟩ := roll (j + 5) x2 y2 z2 (m := 256) (by decide) (by decide)
  obtain ⟨v4, x4, y4, z4, p4, q4, e4⟩ := roll (j + 5) x3 y3 z3 (m := 3) (by decide) (by decide)
  have hv : v4 = 0 ∨ v4 = 1 ∨ v4 = 2 := by omega
  rcases hv with rfl | rfl | rfl
  · refine ⟨v1, x4, y4, z4, by omega, by omega, ?_⟩
    have e5 : ∀ s, opIx (.lst [.int v1, .int v2, .int (v3 - 128)]) (.int 0) s = some (.int v1, s) := fun s => rfl
    unfold lb2b2
    simp only [runN, sSeq, sIf, sRet, sRetN, sExpr, sAsg, sRaise, sPass, sAug, sPar, putAll, tName, tTup, tAll, goOn, Z.R.out, Z.R.bind_ok, Z.R.bind_exc, Z.R.bind_bad, Z.R.of, Z.R.nx, mC, mVar, m1, m2, mB, mT, mNot, mAnd, mOr, mIf, bNot, bAnd, bOr, bIf, truthR, truth, mTup, mkT, mLst, mkL, aNil, aCons, mCall, mB1, opBin, ipOp, ipAdd, ipMul, opAdd, opSub, opMul, opFdiv, opMod, unNeg, opC, opCmp, op_eq_int, op_in2, op_inl2, mChain, bYes, wVal, wRng, wOf, wR, wipeE, big, List.map_cons, List.map_nil, List.length_cons, List.length_nil, List.replicate, List.cons_append, List.nil_append, List.getElem?_cons_zero, List.getElem?_cons_succ, List.set_cons_zero, List.set_cons_succ, if_true, if_false, decide_true, decide_false, Bool.not_true, Bool.not_false, Bool.true_and, Bool.and_true, Bool.false_and, Bool.and_false, Bool.or_false, Bool.false_or, Bool.true_or, Bool.or_true, Bool.xor_false, Bool.xor_true, Bool.false_xor, Bool.true_xor, Bool.false_eq_true, Bool.true_eq_false, ite_true, ite_false, line, Nat.reduceSub, Nat.reduceAdd, Int.reduceNeg, Int.reducePow, Int.reduceLT, Int.reduceLE, Int.reduceMul, Int.reduceAdd, Int.reduceSub, Int.reduceDiv, Int.reduceMod, Int.reduceEq, Nat.reduceLeDiff, Nat.reduceLT, Nat.reduceEqDiff, and_true, true_and, and_false, false_and, and_self, gt_iff_lt, ge_iff_le, e1, e2, e3, e4, e5]
  · refine ⟨v2, x4, y4, z4, by omega, by omega, ?_⟩
    have e5 : ∀ s, opIx (.lst [.int v1, .int v2, .int (v3 - 128)]) (.int 1) s = some (.int v2, s) := fun s => rfl
    unfold lb2b2
    simp only [runN, sSeq, sIf, sRet, sRetN, sExpr, sAsg, sRaise, sPass, sAug, sPar, putAll, tName, tTup, tAll, goOn, Z.R.out, Z.R.bind_ok, Z.R.bind_exc, Z.R.bind_bad, Z.R.of, Z.R.nx, mC, mVar, m1, m2, mB, mT, mNot, mAnd, mOr, mIf, bNot, bAnd, bOr, bIf, truthR, truth, mTup, mkT, mLst, mkL, aNil, aCons, mCall, mB1, opBin, ipOp, ipAdd, ipMul, opAdd, opSub, opMul, opFdiv, opMod, unNeg, opC, opCmp, op_eq_int, op_in2, op_inl2, mChain, bYes, wVal, wRng, wOf, wR, wipeE, big, List.map_cons, List.map_nil, List.length_cons, List.length_nil, List.replicate, List.cons_append, List.nil_append, List.getElem?_cons_zero, List.getElem?_cons_succ, List.set_cons_zero, List.set_cons_succ, if_true, if_false, decide_true, decide_false, Bool.not_true, Bool.not_false, Bool.true_and, Bool.and_true, Bool.false_and, Bool.and_false, Bool.or_false, Bool.false_or, Bool.true_or, Bool.or_true, Bool.xor_false, Bool.xor_true, Bool.false_xor, Bool.true_xor, Bool.false_eq_true, Bool.true_eq_false, ite_true, ite_false, line, Nat.reduceSub, Nat.reduceAdd, Int.reduceNeg, Int.reducePow, Int.reduceLT, Int.reduceLE, Int.reduceMul, Int.reduceAdd, Int.reduceSub, Int.reduceDiv, Int.reduceMod, Int.reduceEq, Nat.reduceLeDiff, Nat.reduceLT, Nat.reduceEqDiff, and_true, true_and, and_false, false_and, and_self, gt_iff_lt, ge_iff_le, e1, e2, e3, e4, e5]
  · refine ⟨v3 - 128, x4, y4, z4, by omega, by omega, ?_⟩
    have e5 : ∀ s, opIx (.lst [.int v1, .int v2, .int (v3 - 128)]) (.int 2) s = some (.int (v3 - 128), s) := fun s => rfl
    unfold lb2b2
    simp only [runN, sSeq, sIf, sRet, sRetN, sExpr, sAsg, sRaise, sPass, sAug, sPar, putAll, tName, tTup, tAll, goOn, Z.R.out, Z.R.bind_ok, Z.R.bind_exc, Z.R.bind_bad, Z.R.of, Z.R.nx, mC, mVar, m1, m2, mB, mT, mNot, mAnd, mOr, mIf, bNot, bAnd, bOr, bIf, truthR, truth, mTup, mkT, mLst, mkL, aNil, aCons, mCall, mB1, opBin, ipOp, ipAdd, ipMul, opAdd, opSub, opMul, opFdiv, opMod, unNeg, opC, opCmp, op_eq_int, op_in2, op_inl2, mChain, bYes, wVal, wRng, wOf, wR, wipeE, big, List.map_cons, List.map_nil, List.length_cons, List.length_nil, List.replicate, List.cons_append, List.nil_append, List.getElem?_cons_zero, List.getElem?_cons_succ, List.set_cons_zero, List.set_cons_succ, if_true, if_false, decide_true, decide_false, Bool.not_true, Bool.not_false, Bool.true_and, Bool.and_true, Bool.false_and, Bool.and_false, Bool.or_false, Bool.false_or, Bool.true_or, Bool.or_true, Bool.xor_false, Bool.xor_true, Bool.false_xor, Bool.true_xor, Bool.false_eq_true, Bool.true_eq_false, ite_true, ite_false, line, Nat.reduceSub, Nat.reduceAdd, Int.reduceNeg, Int.reducePow, Int.reduceLT, Int.reduceLE, Int.reduceMul, Int.reduceAdd, Int.reduceSub, Int.reduceDiv, Int.reduceMod, Int.reduceEq, Nat.reduceLeDiff, Nat.reduceLT, Nat.reduceEqDiff, and_true, true_and, and_false, false_and, and_self, gt_iff_lt, ge_iff_le, e1, e2, e3, e4, e5]
theorem py_ints (ns : List Int) (s : Sto) : pyOf s 12 (.tup (ns.map .int)) = some (.tuple (ns.map PyData.int)) := by
  rw [py_tup, all_ints]; rfl
/-- what is due -/
def due (r : Row) : D := if fitB (wk r.1) r.2 then .tup ((bts r).map .int) else .str "CodeError"
section
variable {c : Nat} (hc : c < 56) {v : Int}
include hc
theorem i3 (j : Nat) (s : Sto) : lb2b3 (prog G (j + 6)) [a0, some (.ref 0), a2, some (.str (nmS c)), some (.str (ws (wk c))), a5, a6, a7, a8, a9, some (.int (Int.ofNat c)), some (.int v), a12, a13, a14, a15, a16, a17] s = .nx [a0, some (.ref 0), a2, some (.str (nmS c)), some (.str (ws (wk c))), a5, a6, a7, a8, a9, some (.int (Int.ofNat c)), some (.int v), some (due (c, v)), a13, a14, a15, a16, a17] s := by
  have hk := (code_at hc).2.1
  have q1 := law_fits (j + 5) hk v
  have q2 := law_bytes (j + 5) hk (Int.ofNat c) v
  unfold lb2b3
  by_cases h : fitB (wk c) v = true
  · have e : due (c, v) = .tup ((bytesI (Int.ofNat c) (wk c) v).map .int) := if_pos h
    rw [e]
    simp only [runN, sSeq, sIf, sRet, sRetN, sExpr, sAsg, sRaise, sPass, sAug, sPar, putAll, tName, tTup, tAll, goOn, Z.R.out, Z.R.bind_ok, Z.R.bind_exc, Z.R.bind_bad, Z.R.of, Z.R.nx, mC, mVar, m1, m2, mB, mT, mNot, mAnd, mOr, mIf, bNot, bAnd, bOr, bIf, truthR, truth, mTup, mkT, mLst, mkL, aNil, aCons, mCall, mB1, opBin, ipOp, ipAdd, ipMul, opAdd, opSub, opMul, opFdiv, opMod, unNeg, opC, opCmp, op_eq_int, op_in2, op_inl2, mChain, bYes, wVal, wRng, wOf, wR, wipeE, big, List.map_cons, List.map_nil, List.length_cons, List.length_nil, List.replicate, List.cons_append, List.nil_append, List.getElem?_cons_zero, List.getElem?_cons_succ, List.set_cons_zero, List.set_cons_succ, if_true, if_false, decide_true, decide_false, Bool.not_true, Bool.not_false, Bool.true_and, Bool.and_true, Bool.false_and, Bool.and_false, Bool.or_false, Bool.false_or, Bool.true_or, Bool.or_true, Bool.xor_false, Bool.xor_true, Bool.false_xor, Bool.true_xor, Bool.false_eq_true, Bool.true_eq_false, ite_true, ite_false, line, Nat.reduceSub, Nat.reduceAdd, Int.reduceNeg, Int.reducePow, Int.reduceLT, Int.reduceLE, Int.reduceMul, Int.reduceAdd, Int.reduceSub, Int.reduceDiv, Int.reduceMod, Int.reduceEq, Nat.reduceLeDiff, Nat.reduceLT, Nat.reduceEqDiff, and_true, true_and, and_false, false_and, and_self, gt_iff_lt, ge_iff_le, q1 _, q2 _, h]
  · have e : due (c, v) = .str "CodeError" := if_neg h
    have h2 : fitB (wk c) v = false := by simpa using h
    rw [e]
    simp only [runN, sSeq, sIf, sRet, sRetN, sExpr, sAsg, sRaise, sPass, sAug, sPar, putAll, tName, tTup, tAll, goOn, Z.R.out, Z.R.bind_ok, Z.R.bind_exc, Z.R.bind_bad, Z.R.of, Z.R.nx, mC, mVar, m1, m2, mB, mT, mNot, mAnd, mOr, mIf, bNot, bAnd, bOr, bIf, truthR, truth, mTup, mkT, mLst, mkL, aNil, aCons, mCall, mB1, opBin, ipOp, ipAdd, ipMul, opAdd, opSub, opMul, opFdiv, opMod, unNeg, opC, opCmp, op_eq_int, op_in2, op_inl2, mChain, bYes, wVal, wRng, wOf, wR, wipeE, big, List.map_cons, List.map_nil, List.length_cons, List.length_nil, List.replicate, List.cons_append, List.nil_append, List.getElem?_cons_zero, List.getElem?_cons_succ, List.set_cons_zero, List.set_cons_succ, if_true, if_false, decide_true, decide_false, Bool.not_true, Bool.not_false, Bool.true_and, Bool.and_true, Bool.false_and, Bool.and_false, Bool.or_false, Bool.false_or, Bool.true_or, Bool.or_true, Bool.xor_false, Bool.xor_true, Bool.false_xor, Bool.true_xor, Bool.false_eq_true, Bool.true_eq_false, ite_true, ite_false, line, Nat.reduceSub, Nat.reduceAdd, Int.reduceNeg, Int.reducePow, Int.reduceLT, Int.reduceLE, Int.reduceMul, Int.reduceAdd, Int.reduceSub, Int.reduceDiv, Int.reduceMod, Int.reduceEq, Nat.reduceLeDiff, Nat.reduceLT, Nat.reduceEqDiff, and_true, true_and, and_false, false_and, and_self, gt_iff_lt, ge_iff_le, q1 _, h2]
theorem i4 (j : Nat) (s : Sto) : lb2b4 (prog G (j + 6)) [a0, some (.ref 0), a2, some (.str (nmS c)), some (.str (ws (wk c))), a5, a6, a7, a8, a9, some (.int (Int.ofNat c)), some (.int v), some (due (c, v)), a13, a14, a15, a16, a17] s = .nx [a0, some (.ref 0), a2, some (.str (nmS c)), some (.str (ws (wk c))), a5, a6, a7, a8, a9, some (.int (Int.ofNat c)), some (.int v), some (due (c, v)), a13, a14, a15, a16, a17] s := by
  obtain ⟨_, hk, hs, _⟩ := code_at hc
  have q2 := named_code (j + 5) hc
  have q3 := ways_of (j + 5) hc
  have q4 := in_ways hc
  have hw : strB (ws (wk c)) = true := by
    generalize wk c = k at hk
    match k, hk with
    | 0, _ => rfl
    | 1, _ => rfl
    | 2, _ => rfl
    | 3, _ => rfl
    | 4, _ => rfl
    | 5, _ => rfl
  have p2 : pyOf s 12 (.tup [.str (nmS c), .str (ws (wk c))]) = some (.tuple [.str (nmS c), .str (ws (wk c))]) := by
    rw [py_tup, optAll_cons, optAll_cons, optAll_nil, py_str hs, py_str hw]; rfl
  have q5 := op_eq_rf p2 true
  unfold lb2b4
  by_cases h : fitB (wk c) v = true
  · have e : due (c, v) = .tup ((bytesI (Int.ofNat c) (wk c) v).map .int) := if_pos h
    have q1 := encoded (j + 3) hc h
    have q6 := op_eq_rf (py_ints (bytesI (Int.ofNat c) (wk c) v) s) true
    rw [e]
    simp only [runN, sSeq, sIf, sRet, sRetN, sExpr, sAsg, sRaise, sPass, sAug, sPar, putAll, tName, tTup, tAll, goOn, Z.R.out, Z.R.bind_ok, Z.R.bind_exc, Z.R.bind_bad, Z.R.of, Z.R.nx, mC, mVar, m1, m2, mB, mT, mNot, mAnd, mOr, mIf, bNot, bAnd, bOr, bIf, truthR, truth, mTup, mkT, mLst, mkL, aNil, aCons, mCall, mB1, opBin, ipOp, ipAdd, ipMul, opAdd, opSub, opMul, opFdiv, opMod, unNeg, opC, opCmp, op_eq_int, op_in2, op_inl2, mChain, bYes, wVal, wRng, wOf, wR, wipeE, big, List.map_cons, List.map_nil, List.length_cons, List.length_nil, List.replicate, List.cons_append, List.nil_append, List.getElem?_cons_zero, List.getElem?_cons_succ, List.set_cons_zero, List.set_cons_succ, if_true, if_false, decide_true, decide_false, Bool.not_true, Bool.not_false, Bool.true_and, Bool.and_true, Bool.false_and, Bool.and_false, Bool.or_false, Bool.false_or, Bool.true_or, Bool.or_true, Bool.xor_false, Bool.xor_true, Bool.false_xor, Bool.true_xor, Bool.false_eq_true, Bool.true_eq_false, ite_true, ite_false, line, Nat.reduceSub, Nat.reduceAdd, Int.reduceNeg, Int.reducePow, Int.reduceLT, Int.reduceLE, Int.reduceMul, Int.reduceAdd, Int.reduceSub, Int.reduceDiv, Int.reduceMod, Int.reduceEq, Nat.reduceLeDiff, Nat.reduceLT, Nat.reduceEqDiff, and_true, true_and, and_false, false_and, and_self, gt_iff_lt, ge_iff_le, mKIx, mKGet, kGetR, mTold1, toldR, sTryX, Nat.reduceMul, Nat.reduceMod, Nat.reduceDiv, q1 _, q2 _, q3, q4, q5, q6]
  · have e : due (c, v) = .str "CodeError" := if_neg h
    have h2 : fitB (wk c) v = false := by simpa using h
    have q1 := no_encoded (j + 3) hc h2
    have q6 := w_eq "CodeError" "CodeError" true (by decide +kernel) true s
    rw [e]
    simp only [runN, sSeq, sIf, sRet, sRetN, sExpr, sAsg, sRaise, sPass, sAug, sPar, putAll, tName, tTup, tAll, goOn, Z.R.out, Z.R.bind_ok, Z.R.bind_exc, Z.R.bind_bad, Z.R.of, Z.R.nx, mC, mVar, m1, m2, mB, mT, mNot, mAnd, mOr, mIf, bNot, bAnd, bOr, bIf, truthR, truth, mTup, mkT, mLst, mkL, aNil, aCons, mCall, mB1, opBin, ipOp, ipAdd, ipMul, opAdd, opSub, opMul, opFdiv, opMod, unNeg, opC, opCmp, op_eq_int, op_in2, op_inl2, mChain, bYes, wVal, wRng, wOf, wR, wipeE, big, List.map_cons, List.map_nil, List.length_cons, List.length_nil, List.replicate, List.cons_append, List.nil_append, List.getElem?_cons_zero, List.getElem?_cons_succ, List.set_cons_zero, List.set_cons_succ, if_true, if_false, decide_true, decide_false, Bool.not_true, Bool.not_false, Bool.true_and, Bool.and_true, Bool.false_and, Bool.and_false, Bool.or_false, Bool.false_or, Bool.true_or, Bool.or_true, Bool.xor_false, Bool.xor_true, Bool.false_xor, Bool.true_xor, Bool.false_eq_true, Bool.true_eq_false, ite_true, ite_false, line, Nat.reduceSub, Nat.reduceAdd, Int.reduceNeg, Int.reducePow, Int.reduceLT, Int.reduceLE, Int.reduceMul, Int.reduceAdd, Int.reduceSub, Int.reduceDiv, Int.reduceMod, Int.reduceEq, Nat.reduceLeDiff, Nat.reduceLT, Nat.reduceEqDiff, and_true, true_and, and_false, false_and, and_self, gt_iff_lt, ge_iff_le, mKIx, mKGet, kGetR, mTold1, toldR, sTryX, Nat.reduceMul, Nat.reduceMod, Nat.reduceDiv, q1 _, q2 _, q3, q4, q5, q6, catch11]
theorem i5 (j : Nat) (s : Sto) : lb2b5 (prog G (j + 6)) [a0, some (.ref 0), a2, some (.str (nmS c)), some (.str (ws (wk c))), a5, a6, a7, a8, a9, some (.int (Int.ofNat c)), some (.int v), some (due (c, v)), a13, a14, a15, a16, a17] s = .nx [a0, some (.ref 0), a2, some (.str (nmS c)), some (.str (ws (wk c))), a5, a6, a7, a8, a9, some (.int (Int.ofNat c)), some (.int v), some (due (c, v)), a13, a14, a15, a16, a17] s := by
  obtain ⟨_, hk, hs, _⟩ := code_at hc
  have q1 := size_of (j + 4) hc
  have q2 := law_bytes (j + 5) hk (Int.ofNat c) 0
  have q3 := steps_of (j + 4) hc
  have q4 := law_steps (j + 5) hc
  have hl : (bytesI (Int.ofNat c) (wk c) 0).length = sz (wk c) := bts_len (r := (c, 0)) hc
  have q5 : ∀ s, bLen [.tup ((bytesI (Int.ofNat c) (wk c) 0).map .int)] s = some (.int (Int.ofNat (sz (wk c))), s) := fun s => by
    rw [len_sq (.inl rfl), hl]; rfl
  unfold lb2b5
  simp only [runN, sSeq, sIf, sRet, sRetN, sExpr, sAsg, sRaise, sPass, sAug, sPar, putAll, tName, tTup, tAll, goOn, Z.R.out, Z.R.bind_ok, Z.R.bind_exc, Z.R.bind_bad, Z.R.of, Z.R.nx, mC, mVar, m1, m2, mB, mT, mNot, mAnd, mOr, mIf, bNot, bAnd, bOr, bIf, truthR, truth, mTup, mkT, mLst, mkL, aNil, aCons, mCall, mB1, opBin, ipOp, ipAdd, ipMul, opAdd, opSub, opMul, opFdiv, opMod, unNeg, opC, opCmp, op_eq_int, op_in2, op_inl2, mChain, bYes, wVal, wRng, wOf, wR, wipeE, big, List.map_cons, List.map_nil, List.length_cons, List.length_nil, List.replicate, List.cons_append, List.nil_append, List.getElem?_cons_zero, List.getElem?_cons_succ, List.set_cons_zero, List.set_cons_succ, if_true, if_false, decide_true, decide_false, Bool.not_true, Bool.not_false, Bool.true_and, Bool.and_true, Bool.false_and, Bool.and_false, Bool.or_false, Bool.false_or, Bool.true_or, Bool.or_true, Bool.xor_false, Bool.xor_true, Bool.false_xor, Bool.true_xor, Bool.false_eq_true, Bool.true_eq_false, ite_true, ite_false, line, Nat.reduceSub, Nat.reduceAdd, Int.reduceNeg, Int.reducePow, Int.reduceLT, Int.reduceLE, Int.reduceMul, Int.reduceAdd, Int.reduceSub, Int.reduceDiv, Int.reduceMod, Int.reduceEq, Nat.reduceLeDiff, Nat.reduceLT, Nat.reduceEqDiff, and_true, true_and, and_false, false_and, and_self, gt_iff_lt, ge_iff_le, mKIx, mKGet, kGetR, mTold1, toldR, sTryX, Nat.reduceMul, Nat.reduceMod, Nat.reduceDiv, q1 _, q2 _, q3 _, q4, q5]
end
end K02
end Z

set_option Elab.async false
set_option linter.all false
set_option maxRecDepth 100000
set_option maxHeartbeats 4000000
namespace Z
open PySem
namespace K02
variable {a0 a1 a2 a3 a4 a5 a6 a7 a8 a9 a10 a11 a12 a13 a14 a15 a16 a17 : Option D}
theorem strB_ws {k : Nat} (hk : k < 6) : strB (ws k) = true := by
  match k, hk with
  | 0, _ => rfl
  | 1, _ => rfl
  | 2, _ => rfl
  | 3, _ => rfl
  | 4, _ => rfl
  | 5, _ => rfl
theorem py_shw (r : Row) (s : Sto) (k : Nat) : ∃ x, pyOf s (k + 1) (shw r) = some x := by
  unfold shw
  split
  · exact ⟨_, rfl⟩
  · exact ⟨_, rfl⟩
theorem py_dec {r : Row} (h : r.1 < 56) (s : Sto) : ∃ x, pyOf s 12 (decD r) = some x := by
  obtain ⟨_, hk, hs, _⟩ := code_at h
  obtain ⟨x, e⟩ := py_shw r s 10
  refine ⟨.tuple [.str (nmS r.1), .str (ws (wk r.1)), x, .int (Int.ofNat (sz (wk r.1)))], ?_⟩
  unfold decD
  rw [py_tup, optAll_cons, optAll_cons, optAll_cons, optAll_cons, optAll_nil, py_str hs, py_str (strB_ws hk), e]; rfl
theorem tup_ne (ns : List Int) (x : Str) (hx : strB x = true) (n : Bool) (s : Sto) : opEq n (.tup (ns.map .int)) (.str x) s = some (.bl (xor n false), s) := by
  unfold opEq
  rw [py_ints, py_str hx]
  show some (D.bl (xor n (PyData.eqv (.tuple (ns.map PyData.int)) (.str x))), s) = _
  have : PyData.eqv (.tuple (ns.map PyData.int)) (.str x) = false := by unfold PyData.eqv; rfl
  rw [this]
theorem opAdd_int {m : Bool} {i j : Int} {s : Sto} : opAdd m (.int i) (.int j) s = some (.int (i + j), s) := rfl
theorem m2_eq {f : B2} {a b : ME} {e : Env} {s : Sto} {x y z : D} (ha : a e s = .ok x s) (hb : b e s = .ok y s) (hf : f x y s = some (z, s)) : m2 f a b e s = .ok z s := by
  unfold m2
  rw [ha]
  show ((b e s).bind fun y s2 => R.of (f x y s2)) = _
  rw [hb]
  show R.of (f x y s) = _
  rw [hf]; rfl
theorem mB1_eq {f : FB} {as : MA} {e : Env} {s : Sto} {ds : List D} {z : D} (ha : as e s = .ok ds s) (hf : f ds s = some (z, s)) : mB1 f as e s = .ok z s := by
  unfold mB1
  rw [ha]
  show R.of (f ds s) = _
  rw [hf]; rfl
theorem aCons_eq {a : ME} {as : MA} {e : Env} {s : Sto} {d : D} {ds : List D} (ha : a e s = .ok d s) (h : as e s = .ok ds s) : aCons a as e s = .ok (d :: ds) s := by
  unfold aCons
  rw [ha]
  show ((as e s).bind fun xs s2 => R.ok (d :: xs) s2) = _
  rw [h]; rfl
theorem mCall_eq {n : Nat} {f : FM} {as : MA} {e : Env} {s : Sto} {ds : List D} {z : D} (ha : as e s = .ok ds s) (hl : ds.length = n) (hf : f ds s = .ok z s) : mCall n f as e s = .ok z s := by
  unfold mCall
  rw [ha]
  show (if ds.length = n then f ds s else .bad) = _
  rw [if_pos hl, hf]
def rowD (r : Row) : D := .tup [.str (nmS r.1), .str (ws (wk r.1)), shw r]
section
variable {c : Nat} {v : Int} (hr : RowOk (c, v)) (v0 : -128 ≤ v) (v1 : v ≤ 65535)
include hr in
theorem t0 (j : Nat) (s : Sto) : lb2b6t0 (prog G (j + 6)) [a0, some (.ref 0), a2, some (.str (nmS c)), some (.str (ws (wk c))), a5, a6, a7, a8, a9, some (.int (Int.ofNat c)), some (.int v), some (.tup ((bts (c, v)).map .int)), a13, a14, a15, a16, a17] s = .nx [a0, some (.ref 0), a2, some (.str (nmS c)), some (.str (ws (wk c))), a5, a6, a7, a8, a9, some (.int (Int.ofNat c)), some (.int v), some (.tup ((bts (c, v)).map .int)), some (shw (c, v)), a14, a15, a16, a17] s := by
  have hk := (code_at hr.1).2.1
  have hk : wk c < 6 := hk
  unfold lb2b6t0 shw
  show _ = Out.nx [a0, some (.ref 0), a2, some (.str (nmS c)), some (.str (ws (wk c))), a5, a6, a7, a8, a9, some (.int (Int.ofNat c)), some (.int v), some (.tup ((bts (c, v)).map .int)), some (if wk c = 0 then D.non else .int v), a14, a15, a16, a17] s
  have q := eqN (wk c) hk false
  by_cases h : wk c = 0
  · rw [h] at q ⊢
    simp only [runN, sSeq, sIf, sRet, sRetN, sExpr, sAsg, sRaise, sPass, sAug, sPar, putAll, tName, tTup, tAll, goOn, Z.R.out, Z.R.bind_ok, Z.R.bind_exc, Z.R.bind_bad, Z.R.of, Z.R.nx, mC, mVar, m1, m2, mB, mT, mNot, mAnd, mOr, mIf, bNot, bAnd, bOr, bIf, truthR, truth, mTup, mkT, mLst, mkL, aNil, aCons, mCall, mB1, opBin, ipOp, ipAdd, ipMul, opAdd, opSub, opMul, opFdiv, opMod, unNeg, opC, opCmp, op_eq_int, op_in2, op_inl2, mChain, bYes, wVal, wRng, wOf, wR, wipeE, big, List.map_cons, List.map_nil, List.length_cons, List.length_nil, List.replicate, List.cons_append, List.nil_append, List.getElem?_cons_zero, List.getElem?_cons_succ, List.set_cons_zero, List.set_cons_succ, if_true, if_false, decide_true, decide_false, Bool.not_true, Bool.not_false, Bool.true_and, Bool.and_true, Bool.false_and, Bool.and_false, Bool.or_false, Bool.false_or, Bool.true_or, Bool.or_true, Bool.xor_false, Bool.xor_true, Bool.false_xor, Bool.true_xor, Bool.false_eq_true, Bool.true_eq_false, ite_true, ite_false, line, Nat.reduceSub, Nat.reduceAdd, Int.reduceNeg, Int.reducePow, Int.reduceLT, Int.reduceLE, Int.reduceMul, Int.reduceAdd, Int.reduceSub, Int.reduceDiv, Int.reduceMod, Int.reduceEq, Nat.reduceLeDiff, Nat.reduceLT, Nat.reduceEqDiff, and_true, true_and, and_false, false_and, and_self, gt_iff_lt, ge_iff_le, q, Nat.reduceBEq]
  · have hb : (wk c == 0) = false := by simpa using h
    rw [hb] at q
    simp only [runN, sSeq, sIf, sRet, sRetN, sExpr, sAsg, sRaise, sPass, sAug, sPar, putAll, tName, tTup, tAll, goOn, Z.R.out, Z.R.bind_ok, Z.R.bind_exc, Z.R.bind_bad, Z.R.of, Z.R.nx, mC, mVar, m1, m2, mB, mT, mNot, mAnd, mOr, mIf, bNot, bAnd, bOr, bIf, truthR, truth, mTup, mkT, mLst, mkL, aNil, aCons, mCall, mB1, opBin, ipOp, ipAdd, ipMul, opAdd, opSub, opMul, opFdiv, opMod, unNeg, opC, opCmp, op_eq_int, op_in2, op_inl2, mChain, bYes, wVal, wRng, wOf, wR, wipeE, big, List.map_cons, List.map_nil, List.length_cons, List.length_nil, List.replicate, List.cons_append, List.nil_append, List.getElem?_cons_zero, List.getElem?_cons_succ, List.set_cons_zero, List.set_cons_succ, if_true, if_false, decide_true, decide_false, Bool.not_true, Bool.not_false, Bool.true_and, Bool.and_true, Bool.false_and, Bool.and_false, Bool.or_false, Bool.false_or, Bool.true_or, Bool.or_true, Bool.xor_false, Bool.xor_true, Bool.false_xor, Bool.true_xor, Bool.false_eq_true, Bool.true_eq_false, ite_true, ite_false, line, Nat.reduceSub, Nat.reduceAdd, Int.reduceNeg, Int.reducePow, Int.reduceLT, Int.reduceLE, Int.reduceMul, Int.reduceAdd, Int.reduceSub, Int.reduceDiv, Int.reduceMod, Int.reduceEq, Nat.reduceLeDiff, Nat.reduceLT, Nat.reduceEqDiff, and_true, true_and, and_false, false_and, and_self, gt_iff_lt, ge_iff_le, q, h]
theorem rep7 (k0 : Nat) (h : k0 < 8) (s : Sto) : opMul false (.lst [.int 7]) (.int (Int.ofNat k0)) s = some (.lst ((List.replicate k0 (7 : Int)).map .int), s) := by
  match k0, h with
  | 0, _ => kernel_rfl
  | 1, _ => kernel_rfl
  | 2, _ => kernel_rfl
  | 3, _ => kernel_rfl
  | 4, _ => kernel_rfl
  | 5, _ => kernel_rfl
  | 6, _ => kernel_rfl
  | 7, _ => kernel_rfl
theorem mkL_f {xs : List D} (h : xs.length ≤ 16777216) (s : Sto) : mkL false xs s = some (.lst xs, s) := by
  unfold mkL
  rw [if_pos h]; rfl
theorem list_tup {xs : List D} (h : xs.length ≤ 16777216) (s : Sto) : bList false [.tup xs] s = some (.lst xs, s) := mkL_f h s
theorem add_l {xs ys : List D} (h : (xs ++ ys).length ≤ 16777216) (s : Sto) : opAdd false (.lst xs) (.lst ys) s = some (.lst (xs ++ ys), s) := mkL_f h s
include hr in
theorem t1 (j : Nat) {k0 : Nat} (h0 : k0 < 8) (s : Sto) : lb2b6t1 (prog G (j + 6)) [a0, some (.ref 0), a2, some (.str (nmS c)), some (.str (ws (wk c))), a5, a6, a7, a8, some (.int (Int.ofNat k0)), some (.int (Int.ofNat c)), some (.int v), some (.tup ((bts (c, v)).map .int)), some (shw (c, v)), a14, a15, a16, a17] s = .nx [a0, some (.ref 0), a2, some (.str (nmS c)), some (.str (ws (wk c))), a5, a6, a7, a8, some (.int (Int.ofNat k0)), some (.int (Int.ofNat c)), some (.int v), some (.tup ((bts (c, v)).map .int)), some (shw (c, v)), a14, a15, a16, a17] s := by
  have hk := (code_at hr.1).2.1
  have hl := bts_len (r := (c, v)) hr.1
  have hz := sz_pos hk
  have q1 := dec_at (j + 2) (d := .tup ((bts (c, v)).map .int)) (pre := []) (post := []) hr (.inl (by rw [List.nil_append, List.append_nil]))
  have q1 : ∀ s, prog G (j + 6) 14 [.tup ((bts (c, v)).map .int), .int 0] s = .ok (decD (c, v)) s := q1
  have q2 := dec_at (j + 2) (d := .lst ((List.replicate k0 (7 : Int) ++ (bts (c, v) ++ [])).map .int)) (pre := List.replicate k0 7) (post := []) hr (.inr rfl)
  rw [List.length_replicate, List.append_nil, List.map_append] at q2
  have q2 : ∀ s, prog G (j + 6) 14 [.lst ((List.replicate k0 (7 : Int)).map .int ++ (bts (c, v)).map .int), .int (Int.ofNat k0)] s = .ok (decD (c, v)) s := q2
  have q3 : ∀ s, bLen [.tup ((bts (c, v)).map .int)] s = some (.int (Int.ofNat (sz (wk c))), s) := fun s => by
    rw [len_sq (.inl rfl), hl]; rfl
  have q4 := rep7 k0 h0
  have q5 : ∀ s, bList false [.tup ((bts (c, v)).map .int)] s = some (.lst ((bts (c, v)).map .int), s) := list_tup (by rw [List.length_map]; omega)
  have q6 : ∀ s, opAdd false (.lst ((List.replicate k0 (7 : Int)).map .int)) (.lst ((bts (c, v)).map .int)) s = some (.lst ((List.replicate k0 (7 : Int)).map .int ++ (bts (c, v)).map .int), s) := add_l (by rw [List.length_append, List.length_map, List.length_map, List.length_replicate]; omega)
  obtain ⟨x, hx⟩ := py_dec (r := (c, v)) hr.1 s
  have q7 : opEq true (decD (c, v)) (.tup [.str (nmS c), .str (ws (wk c)), shw (c, v), .int (Int.ofNat (sz (wk c)))]) s = some (.bl (xor true true), s) := op_eq_rf hx true
  generalize prog G (j + 6) = F at q1 q2 ⊢
  have H : ∃ M : ME, lb2b6t1 (F) = sIf (bOr (mB (m2 (opC .NotEq) (mCall 2 (F 14) (aCons (mVar 12) (aCons (mC (.int 0)) aNil))) (mTup (aCons (mVar 3) (aCons (mVar 4) (aCons (mVar 13) (aCons (mB1 bLen (aCons (mVar 12) aNil)) aNil))))))) (mB (m2 (opC .NotEq) M (mTup (aCons (mVar 3) (aCons (mVar 4) (aCons (mVar 13) (aCons (mB1 bLen (aCons (mVar 12) aNil)) aNil)))))))) (sSeq (sRet (mC (.bl false))) sPass) sPass ∧ M [a0, some (.ref 0), a2, some (.str (nmS c)), some (.str (ws (wk c))), a5, a6, a7, a8, some (.int (Int.ofNat k0)), some (.int (Int.ofNat c)), some (.int v), some (.tup ((bts (c, v)).map .int)), some (shw (c, v)), a14, a15, a16, a17] s = .ok (decD (c, v)) s :=
    ⟨mCall 2 (F 14) (aCons (m2 (opBin false .Add) (m2 (opBin false .Mult) (mLst false (aCons (mC (.int 7)) aNil)) (mVar 9)) (mB1 (bList false) (aCons (mVar 12) aNil))) (aCons (mVar 9) aNil)), rfl, mCall_eq (aCons_eq (m2_eq (f := opAdd false) (m2_eq (f := opMul false) (x := .lst [.int 7]) (y := .int (Int.ofNat k0)) rfl rfl (q4 s)) (mB1_eq (ds := [.tup ((bts (c, v)).map .int)]) rfl (q5 s)) (q6 s)) (aCons_eq (d := .int (Int.ofNat k0)) (ds := []) rfl rfl)) rfl (q2 s)⟩
  obtain ⟨M, e1, e2⟩ := H
  rw [e1]
  simp only [sSeq, sIf, sRet, sRetN, sExpr, sAsg, sPass, goOn, tName, tTup, tAll, Z.R.out, Z.R.bind_ok, Z.R.bind_exc, Z.R.of, Z.R.nx, mC, mVar, m1, m2, mB, mT, mNot, mAnd, mOr, mIf, bNot, bAnd, bOr, bIf, truthR, truth, mTup, mkT, mLst, mkL, aNil, aCons, mCall, mB1, opBin, opC, List.map_cons, List.map_nil, List.length_cons, List.length_nil, List.cons_append, List.nil_append, List.getElem?_cons_zero, List.getElem?_cons_succ, List.set_cons_zero, List.set_cons_succ, if_true, if_false, decide_true, decide_false, Bool.not_true, Bool.not_false, Bool.xor_false, Bool.xor_true, Bool.false_xor, Bool.true_xor, Bool.false_eq_true, Bool.true_eq_false, ite_true, ite_false, line, Nat.reduceSub, Nat.reduceAdd, Nat.reduceLeDiff, Nat.reduceLT, q1, q3, q7, e2]
include hr v0 v1 in
theorem t2 (j : Nat) (s : Sto) : lb2b6t2 (prog G (j + 6)) [a0, some (.ref 0), a2, some (.str (nmS c)), some (.str (ws (wk c))), a5, a6, a7, a8, a9, some (.int (Int.ofNat c)), some (.int v), some (.tup ((bts (c, v)).map .int)), some (shw (c, v)), a14, a15, a16, a17] s = .nx [a0, some (.ref 0), a2, some (.str (nmS c)), some (.str (ws (wk c))), a5, a6, a7, a8, a9, some (.int (Int.ofNat c)), some (.int v), some (.tup ((bts (c, v)).map .int)), some (shw (c, v)), a14, a15, a16, a17] s := by
  obtain ⟨_, hk, hs, _⟩ := code_at hr.1
  have hk : wk c < 6 := hk
  have hs : strB (nmS c) = true := hs
  have q1 : prog G (j + 6) 15 [.str (nmS c), .str (ws (wk c)), shw (c, v)] s = .ok (.str (txt (wk c) (nmS c) v)) s := by
    by_cases h : wk c = 0
    · have e : shw (c, v) = .non := if_pos h
      rw [e]
      have := told_code0 (j + 2) hr.1 h s
      rw [this, h]; rfl
    · have e : shw (c, v) = .int v := if_neg h
      rw [e]
      exact told_code (j + 2) hr.1 h hr.2 (by omega) (by omega) s
  have q2 := law_text (j + 5) hr.1 (v := v) (by omega) (by omega)
  have q3 := t_eq (a := txt (wk c) (nmS c) v) (b := txt (wk c) (nmS c) v) rfl (strB_txt hs v) true s
  have q4 : opSl false (.tup ((bts (c, v)).map .int)) none (some (-1)) s = some (.tup ((bts (c, v)).dropLast.map .int), s) := by
    have e : cutD ((bts (c, v)).map D.int) none (some (-1)) = (bts (c, v)).dropLast.map .int := by
      have hl := bts_len (r := (c, v)) hr.1
      unfold bts
      show cutD ((bytesI (Int.ofNat c) (wk c) v).map D.int) none (some (-1)) = (bytesI (Int.ofNat c) (wk c) v).dropLast.map .int
      generalize wk c = k at hk
      match k, hk with
      | 0, _ => rfl
      | 1, _ => rfl
      | 2, _ => rfl
      | 3, _ => rfl
      | 4, _ => rfl
      | 5, _ => rfl
    show some (D.tup (cutD ((bts (c, v)).map D.int) none (some (-1))), s) = _
    rw [e]
  have q5 : prog G (j + 6) 14 [.tup ((bts (c, v)).dropLast.map .int), .int 0] s = .exc 2 s := by
    by_cases h : wk c = 0
    · have e : (bts (c, v)).dropLast = [] := by
        show (bytesI (Int.ofNat c) (wk c) v).dropLast = []
        rw [h]; rfl
      rw [e]
      exact nil_decoded (j + 2) (.inl rfl) s
    · have hl := bts_len (r := (c, v)) hr.1
      have hl : (bts (c, v)).length = sz (wk c) := hl
      have e0 : (bts (c, v)).dropLast[0]? = some (Int.ofNat c) := by
        show (bytesI (Int.ofNat c) (wk c) v).dropLast[0]? = _
        generalize wk c = k at hk h
        match k, hk, h with
        | 0, _, h => exact absurd rfl h
        | 1, _, _ => rfl
        | 2, _, _ => rfl
        | 3, _, _ => rfl
        | 4, _, _ => rfl
        | 5, _, _ => rfl
      have hz := sz_pos hk
      exact no_decoded (j + 2) (d := .tup ((bts (c, v)).dropLast.map .int)) (ns := (bts (c, v)).dropLast) (p := 0) (.inl rfl) hr.1 e0 (by rw [List.length_dropLast, hl]; omega) s
  have q6 := w_eq "CodeError" "CodeError" true (by decide +kernel) true s
  have q2 : ∀ s, prog G (j + 6) 27 [.str (nmS c), .str (ws (wk c)), .int v] s = .ok (.str (txt (wk c) (nmS c) v)) s := q2
  generalize prog G (j + 6) = F at q1 q2 q5 ⊢
  unfold lb2b6t2
  simp only [runN, sSeq, sIf, sRet, sRetN, sExpr, sAsg, sRaise, sPass, sAug, sPar, putAll, tName, tTup, tAll, goOn, Z.R.out, Z.R.bind_ok, Z.R.bind_exc, Z.R.bind_bad, Z.R.of, Z.R.nx, mC, mVar, m1, m2, mB, mT, mNot, mAnd, mOr, mIf, bNot, bAnd, bOr, bIf, truthR, truth, mTup, mkT, mLst, mkL, aNil, aCons, mCall, mB1, opBin, ipOp, ipAdd, ipMul, opAdd, opSub, opMul, opFdiv, opMod, unNeg, opC, opCmp, op_eq_int, op_in2, op_inl2, mChain, bYes, wVal, wRng, wOf, wR, wipeE, big, List.map_cons, List.map_nil, List.length_cons, List.length_nil, List.replicate, List.cons_append, List.nil_append, List.getElem?_cons_zero, List.getElem?_cons_succ, List.set_cons_zero, List.set_cons_succ, if_true, if_false, decide_true, decide_false, Bool.not_true, Bool.not_false, Bool.true_and, Bool.and_true, Bool.false_and, Bool.and_false, Bool.or_false, Bool.false_or, Bool.true_or, Bool.or_true, Bool.xor_false, Bool.xor_true, Bool.false_xor, Bool.true_xor, Bool.false_eq_true, Bool.true_eq_false, ite_true, ite_false, line, Nat.reduceSub, Nat.reduceAdd, Int.reduceNeg, Int.reducePow, Int.reduceLT, Int.reduceLE, Int.reduceMul, Int.reduceAdd, Int.reduceSub, Int.reduceDiv, Int.reduceMod, Int.reduceEq, Nat.reduceLeDiff, Nat.reduceLT, Nat.reduceEqDiff, and_true, true_and, and_false, false_and, and_self, gt_iff_lt, ge_iff_le, mKIx, mKGet, kGetR, mTold1, toldR, sTryX, Nat.reduceMul, Nat.reduceMod, Nat.reduceDiv, q1, q2, q3, mSl, oNone, oSome, q4, q5, q6, catch11]
include hr in
theorem t3 (j : Nat) {R : List Row} (hR : ∀ r ∈ R, RowOk r) (hn : R.length ≤ 50) (s : Sto) : lb2b6t3 (prog G (j + 6)) [a0, some (.ref 0), a2, some (.str (nmS c)), some (.str (ws (wk c))), some (.lst ((nums R).map .int)), some (.lst ((offs 0 R).map offD)), some (.int (stps R)), a8, a9, some (.int (Int.ofNat c)), some (.int v), some (.tup ((bts (c, v)).map .int)), a13, a14, a15, a16, a17] s = .nx [a0, some (.ref 0), a2, some (.str (nmS c)), some (.str (ws (wk c))), some (.lst ((nums (R ++ [(c, v)])).map .int)), some (.lst ((offs 0 (R ++ [(c, v)])).map offD)), some (.int (stps (R ++ [(c, v)]))), a8, a9, some (.int (Int.ofNat c)), some (.int v), some (.tup ((bts (c, v)).map .int)), a13, a14, a15, a16, a17] s := by
  have hl := nums_len hR
  have hb := bts_len (r := (c, v)) hr.1
  have hz := sz_pos (code_at hr.1).2.1
  have q1 : ∀ s, bLen [.lst ((nums R).map .int)] s = some (.int (Int.ofNat (nums R).length), s) := len_sq (.inr rfl)
  have q2 : ∀ s, opAdd false (.lst ((offs 0 R).map offD)) (.lst [.int (Int.ofNat (nums R).length)]) s = some (.lst ((offs 0 (R ++ [(c, v)])).map offD), s) := fun s => by
    rw [offs_snoc, List.map_append, Nat.zero_add]
    exact add_l (by rw [List.length_append, List.length_map, offs_len, List.length_singleton]; omega) s
  have q3 : ∀ s, bList false [.tup ((bts (c, v)).map .int)] s = some (.lst ((bts (c, v)).map .int), s) := list_tup (by rw [List.length_map]; omega)
  have q4 : ∀ s, opAdd false (.lst ((nums R).map .int)) (.lst ((bts (c, v)).map .int)) s = some (.lst ((nums (R ++ [(c, v)])).map .int), s) := fun s => by
    rw [nums_snoc, List.map_append]
    exact add_l (by rw [List.length_append, List.length_map, List.length_map]; omega) s
  have q5 := law_steps (j + 5) hr.1
  have q6 : stps (R ++ [(c, v)]) = stps R + stp c := stps_snoc _ _
  have q5 : ∀ s, prog G (j + 6) 28 [.str (nmS c), .str (ws (wk c))] s = .ok (.int (stp c)) s := q5
  rw [q6]
  generalize prog G (j + 6) = F at q5 ⊢
  unfold lb2b6t3
  simp only [sSeq, sIf, sRet, sRetN, sExpr, sAsg, sPass, goOn, tName, tTup, tAll, Z.R.out, Z.R.bind_ok, Z.R.bind_exc, Z.R.of, Z.R.nx, mC, mVar, m1, m2, mB, mT, mNot, mAnd, mOr, mIf, bNot, bAnd, bOr, bIf, truthR, truth, mTup, mkT, mLst, mkL, aNil, aCons, mCall, mB1, opBin, opC, List.map_cons, List.map_nil, List.length_cons, List.length_nil, List.cons_append, List.nil_append, List.getElem?_cons_zero, List.getElem?_cons_succ, List.set_cons_zero, List.set_cons_succ, if_true, if_false, decide_true, decide_false, Bool.not_true, Bool.not_false, Bool.xor_false, Bool.xor_true, Bool.false_xor, Bool.true_xor, Bool.false_eq_true, Bool.true_eq_false, ite_true, ite_false, line, Nat.reduceSub, Nat.reduceAdd, Nat.reduceLeDiff, Nat.reduceLT, q1, q2, q3, q4, q5, opAdd_int]
omit hr v0 v1 in
theorem t4 (j : Nat) {R : List Row} (hn : R.length ≤ 50) (s : Sto) : lb2b6t4 (prog G (j + 6)) [a0, some (.ref 0), a2, some (.str (nmS c)), some (.str (ws (wk c))), a5, a6, a7, some (.lst (R.map rowD)), a9, some (.int (Int.ofNat c)), some (.int v), some (.tup ((bts (c, v)).map .int)), some (shw (c, v)), a14, a15, a16, a17] s = .nx [a0, some (.ref 0), a2, some (.str (nmS c)), some (.str (ws (wk c))), a5, a6, a7, some (.lst ((R ++ [(c, v)]).map rowD)), a9, some (.int (Int.ofNat c)), some (.int v), some (.tup ((bts (c, v)).map .int)), some (shw (c, v)), a14, a15, a16, a17] s := by
  have q1 : ∀ s, opAdd false (.lst (R.map rowD)) (.lst [.tup [.str (nmS c), .str (ws (wk c)), shw (c, v)]]) s = some (.lst ((R ++ [(c, v)]).map rowD), s) := fun s => by
    rw [List.map_append]
    exact add_l (by rw [List.length_append, List.length_map, List.length_singleton]; omega) s
  generalize prog G (j + 6) = F
  unfold lb2b6t4
  simp only [sSeq, sIf, sRet, sRetN, sExpr, sAsg, sPass, goOn, tName, tTup, tAll, Z.R.out, Z.R.bind_ok, Z.R.bind_exc, Z.R.of, Z.R.nx, mC, mVar, m1, m2, mB, mT, mNot, mAnd, mOr, mIf, bNot, bAnd, bOr, bIf, truthR, truth, mTup, mkT, mLst, mkL, aNil, aCons, mCall, mB1, opBin, opC, List.map_cons, List.map_nil, List.length_cons, List.length_nil, List.cons_append, List.nil_append, List.getElem?_cons_zero, List.getElem?_cons_succ, List.set_cons_zero, List.set_cons_succ, if_true, if_false, decide_true, decide_false, Bool.not_true, Bool.not_false, Bool.xor_false, Bool.xor_true, Bool.false_xor, Bool.true_xor, Bool.false_eq_true, Bool.true_eq_false, ite_true, ite_false, line, Nat.reduceSub, Nat.reduceAdd, Nat.reduceLeDiff, Nat.reduceLT, q1]
end
end K02
end Z

set_option Elab.async false
set_option linter.all false
set_option maxRecDepth 100000
set_option maxHeartbeats 4000000
namespace Z
open PySem
theorem seq_nx {a b : MS} {e e1 : Env} {s s1 : Sto} (h : a e s = .nx e1 s1) : sSeq a b e s = b e1 s1 := by
  unfold sSeq
  rw [h]
/-- a loop kept by an invariant of the names and the store -/
theorem forF_ind {t : Tg} {b : MS} (P : List D → Env → Sto → Prop) (h : ∀ d ds e s, P (d :: ds) e s → ∃ e1 e2 s2, t d e s = some (e1, s) ∧ b e1 s = .nx e2 s2 ∧ P ds e2 s2) : ∀ (ds : List D) (e : Env) (s : Sto), P ds e s → ∃ e2 s2, forF t b ds e s = .nx e2 s2 ∧ P [] e2 s2
  | [], e, s, h0 => ⟨e, s, rfl, h0⟩
  | d :: ds, e, s, h0 => by
    obtain ⟨e1, e2, s2, q1, q2, q3⟩ := h d ds e s h0
    rw [forF_cons q1 q2]
    exact forF_ind P h ds e2 s2 q3
namespace K02
variable {a0 a1 a2 a3 a4 a5 a6 a7 a8 a9 a10 a11 a12 a13 a14 a15 a16 a17 : Option D}
def IB (F : Nat → FM) : MS := sSeq (lb2b0 F) (sSeq (lb2b1 F) (sSeq (lb2b2 F) (sSeq (lb2b3 F) (sSeq (lb2b4 F) (sSeq (lb2b5 F) (sSeq (lb2b6 F) sPass))))))
def IT (F : Nat → FM) : MS := sSeq (lb2b6t0 F) (sSeq (lb2b6t1 F) (sSeq (lb2b6t2 F) (sSeq (lb2b6t3 F) (sSeq (lb2b6t4 F) sPass))))
theorem mCall_eq' {n : Nat} {f : FM} {as : MA} {e : Env} {s s1 : Sto} {ds : List D} {r : R D} (ha : as e s = .ok ds s1) (hl : ds.length = n) (hf : f ds s1 = r) : mCall n f as e s = r := by
  unfold mCall
  rw [ha]
  show (if ds.length = n then f ds s1 else .bad) = _
  rw [if_pos hl, hf]
theorem aCons1 {a : ME} {e : Env} {s s1 : Sto} {d : D} (ha : a e s = .ok d s1) : aCons a aNil e s = .ok [d] s1 := by
  unfold aCons
  rw [ha]; rfl
theorem if_yes {c : MB} {a b : MS} {e : Env} {s s1 : Sto} (h : c e s = .ok true s1) : sIf c a b e s = a e s1 := by
  unfold sIf
  rw [h]; rfl
theorem if_no {c : MB} {a b : MS} {e : Env} {s s1 : Sto} (h : c e s = .ok false s1) : sIf c a b e s = b e s1 := by
  unfold sIf
  rw [h]; rfl
theorem lb2_eq (F : Nat → FM) : lb2 F = sForW (tName 9) (wRng (aCons (mCall 2 (F 22) (aCons (mVar 1) (aCons (mC (.int 8)) aNil))) aNil)) (IB F) := rfl
theorem lb2b6_eq (F : Nat → FM) : lb2b6 F = sIf (mB (m2 (opC .NotEq) (mVar 12) (mC (.str "CodeError")))) (IT F) sPass := rfl
/-- what stands between the turns -/
def St (R : List Row) (e : Env) (s : Sto) : Prop := (∀ r ∈ R, RowOk r) ∧ ∃ (a0 a2 a3 a4 a9 a10 a11 a12 a13 a14 a15 a16 a17 : Option D) (x y z : Int), e = [a0, some (.ref 0), a2, a3, a4, some (.lst ((nums R).map .int)), some (.lst ((offs 0 R).map offD)), some (.int (stps R)), some (.lst (R.map rowD)), a9, a10, a11, a12, a13, a14, a15, a16, a17] ∧ s = sd x y z
theorem not_ce (d : D) {F : Nat → FM} (b : Bool) (s : Sto) (h : opEq true d (.str "CodeError") s = some (.bl b, s)) : mB (m2 (opC .NotEq) (mVar 12) (mC (.str "CodeError"))) [a0, a1, a2, a3, a4, a5, a6, a7, a8, a9, a10, a11, some d, a13, a14, a15, a16, a17] s = .ok b s := by
  simp only [sSeq, sIf, sRet, sRetN, sExpr, sAsg, sPass, goOn, tName, tTup, tAll, Z.R.out, Z.R.bind_ok, Z.R.bind_exc, Z.R.of, Z.R.nx, mC, mVar, m1, m2, mB, mT, mNot, mAnd, mOr, mIf, bNot, bAnd, bOr, bIf, truthR, truth, mTup, mkT, mLst, mkL, aNil, aCons, mCall, mB1, opBin, opC, List.map_cons, List.map_nil, List.length_cons, List.length_nil, List.cons_append, List.nil_append, List.getElem?_cons_zero, List.getElem?_cons_succ, List.set_cons_zero, List.set_cons_succ, if_true, if_false, decide_true, decide_false, Bool.not_true, Bool.not_false, Bool.xor_false, Bool.xor_true, Bool.false_xor, Bool.true_xor, Bool.false_eq_true, Bool.true_eq_false, ite_true, ite_false, line, Nat.reduceSub, Nat.reduceAdd, Nat.reduceLeDiff, Nat.reduceLT, h]
theorem body_step (j : Nat) {R : List Row} (hR : ∀ r ∈ R, RowOk r) (hn : R.length ≤ 20) {k0 : Nat} (h0 : k0 < 8) (x y z : Int) : ∃ R' e2 s2, IB (prog G (j + 6)) [a0, some (.ref 0), a2, a3, a4, some (.lst ((nums R).map .int)), some (.lst ((offs 0 R).map offD)), some (.int (stps R)), some (.lst (R.map rowD)), some (.int (Int.ofNat k0)), a10, a11, a12, a13, a14, a15, a16, a17] (sd x y z) = .nx e2 s2 ∧ St R' e2 s2 ∧ R'.length ≤ R.length + 1 := by
  obtain ⟨c, x1, y1, z1, hc, E0⟩ := i0 (a0 := a0) (a2 := a2) (a3 := a3) (a4 := a4) (a5 := some (.lst ((nums R).map .int))) (a6 := some (.lst ((offs 0 R).map offD))) (a7 := some (.int (stps R))) (a8 := some (.lst (R.map rowD))) (a9 := some (.int (Int.ofNat k0))) (a10 := a10) (a11 := a11) (a12 := a12) (a13 := a13) (a14 := a14) (a15 := a15) (a16 := a16) (a17 := a17) j x y z
  obtain ⟨v, x2, y2, z2, v0, v1, E2⟩ := i2 (a0 := a0) (a2 := a2) (a3 := some (.str (nmS c))) (a4 := some (.str (ws (wk c)))) (a5 := some (.lst ((nums R).map .int))) (a6 := some (.lst ((offs 0 R).map offD))) (a7 := some (.int (stps R))) (a8 := some (.lst (R.map rowD))) (a9 := some (.int (Int.ofNat k0))) (a10 := some (.int (Int.ofNat c))) (a11 := a11) (a12 := a12) (a13 := a13) (a14 := a14) (a15 := a15) (a16 := a16) (a17 := a17) j x1 y1 z1
  unfold IB
  rw [seq_nx E0, seq_nx (i1 hc j _), seq_nx E2, seq_nx (i3 hc j _), seq_nx (i4 hc j _), seq_nx (i5 hc j _), lb2b6_eq]
  by_cases hf : fitB (wk c) v = true
  · have hr : RowOk (c, v) := ⟨hc, hf⟩
    have e : due (c, v) = .tup ((bts (c, v)).map .int) := if_pos hf
    rw [e]
    have hce := not_ce (a0 := a0) (a1 := some (.ref 0)) (a2 := a2) (a3 := some (.str (nmS c))) (a4 := some (.str (ws (wk c)))) (a5 := some (.lst ((nums R).map .int))) (a6 := some (.lst ((offs 0 R).map offD))) (a7 := some (.int (stps R))) (a8 := some (.lst (R.map rowD))) (a9 := some (.int (Int.ofNat k0))) (a10 := some (.int (Int.ofNat c))) (a11 := some (.int v)) (a13 := a13) (a14 := a14) (a15 := a15) (a16 := a16) (a17 := a17) (F := prog G 0) (.tup ((bts (c, v)).map .int)) true (sd x2 y2 z2) (tup_ne _ "CodeError" (by decide +kernel) true _)
    refine ⟨R ++ [(c, v)], ?_⟩
    have hIT : IT (prog G (j + 6)) [a0, some (.ref 0), a2, some (.str (nmS c)), some (.str (ws (wk c))), some (.lst ((nums R).map .int)), some (.lst ((offs 0 R).map offD)), some (.int (stps R)), some (.lst (R.map rowD)), some (.int (Int.ofNat k0)), some (.int (Int.ofNat c)), some (.int v), some (.tup ((bts (c, v)).map .int)), a13, a14, a15, a16, a17] (sd x2 y2 z2) = .nx [a0, some (.ref 0), a2, some (.str (nmS c)), some (.str (ws (wk c))), some (.lst ((nums (R ++ [(c, v)])).map .int)), some (.lst ((offs 0 (R ++ [(c, v)])).map offD)), some (.int (stps (R ++ [(c, v)]))), some (.lst ((R ++ [(c, v)]).map rowD)), some (.int (Int.ofNat k0)), some (.int (Int.ofNat c)), some (.int v), some (.tup ((bts (c, v)).map .int)), some (shw (c, v)), a14, a15, a16, a17] (sd x2 y2 z2) := by
      unfold IT
      rw [seq_nx (t0 hr j _), seq_nx (t1 hr j h0 _), seq_nx (t2 hr v0 v1 j _), seq_nx (t3 hr j hR (by omega) _), seq_nx (t4 j (by omega) _)]
      rfl
    refine ⟨_, _, seq_nx (by rw [if_yes hce]; exact hIT), ⟨fun r h => ?_, _, _, _, _, _, _, _, _, _, _, _, _, _, x2, y2, z2, rfl, rfl⟩, by rw [List.length_append, List.length_singleton]; exact Nat.le_refl _⟩
    rcases List.mem_append.mp h with q | q
    · exact hR r q
    · rw [List.mem_singleton.mp q]; exact hr
  · have e : due (c, v) = .str "CodeError" := if_neg hf
    rw [e]
    have hce := not_ce (a0 := a0) (a1 := some (.ref 0)) (a2 := a2) (a3 := some (.str (nmS c))) (a4 := some (.str (ws (wk c)))) (a5 := some (.lst ((nums R).map .int))) (a6 := some (.lst ((offs 0 R).map offD))) (a7 := some (.int (stps R))) (a8 := some (.lst (R.map rowD))) (a9 := some (.int (Int.ofNat k0))) (a10 := some (.int (Int.ofNat c))) (a11 := some (.int v)) (a13 := a13) (a14 := a14) (a15 := a15) (a16 := a16) (a17 := a17) (F := prog G 0) (.str "CodeError") false (sd x2 y2 z2) (w_eq "CodeError" "CodeError" true (by decide +kernel) true _)
    exact ⟨R, _, _, seq_nx (by rw [if_no hce]; rfl), ⟨hR, _, _, _, _, _, _, _, _, _, _, _, _, _, x2, y2, z2, rfl, rfl⟩, by omega⟩
/-- the loop -/
theorem l2 (j : Nat) (x y z : Int) : ∃ R e2 s2, lb2 (prog G (j + 6)) [a0, some (.ref 0), a2, a3, a4, some (.lst []), some (.lst []), some (.int 0), some (.lst []), a9, a10, a11, a12, a13, a14, a15, a16, a17] (sd x y z) = .nx e2 s2 ∧ St R e2 s2 ∧ R.length ≤ 8 := by
  obtain ⟨m, x1, y1, z1, m0, m1, E1⟩ := roll (j + 5) x y z (m := 8) (by decide) (by decide)
  obtain ⟨n, hm⟩ : ∃ n : Nat, m = Int.ofNat n := ⟨m.toNat, (Int.toNat_of_nonneg m0).symm⟩
  have hn : n < 8 := by rw [hm] at m1; exact Int.ofNat_lt.mp m1
  have hr : rng [.int m] = some (rngL 0 1 n) := by
    rw [hm]
    match n, hn with
    | 0, _ => kernel_rfl
    | 1, _ => kernel_rfl
    | 2, _ => kernel_rfl
    | 3, _ => kernel_rfl
    | 4, _ => kernel_rfl
    | 5, _ => kernel_rfl
    | 6, _ => kernel_rfl
    | 7, _ => kernel_rfl
  have key := forF_ind (t := tName 9) (b := IB (prog G (j + 6))) (fun ds e s => (∀ d ∈ ds, ∃ k0, k0 < 8 ∧ d = .int (Int.ofNat k0)) ∧ ∃ R, St R e s ∧ R.length + ds.length ≤ 8) (fun d ds e s ⟨h1, R, ⟨hR, hst⟩, hl⟩ => by
    obtain ⟨a0, a2, a3, a4, a9, a10, a11, a12, a13, a14, a15, a16, a17, x, y, z, rfl, rfl⟩ := hst
    obtain ⟨k0, hk0, rfl⟩ := h1 d (List.mem_cons_self ..)
    rw [List.length_cons] at hl
    obtain ⟨R', e2, s2, q1, q2, q3⟩ := body_step (a0 := a0) (a2 := a2) (a3 := a3) (a4 := a4) (a10 := a10) (a11 := a11) (a12 := a12) (a13 := a13) (a14 := a14) (a15 := a15) (a16 := a16) (a17 := a17) j hR (by omega) hk0 x y z
    exact ⟨_, e2, s2, rfl, q1, fun d hd => h1 d (List.mem_cons_of_mem _ hd), R', q2, by omega⟩)
  have hL : ∀ d ∈ rngL 0 1 n, ∃ k0, k0 < 8 ∧ d = .int (Int.ofNat k0) := fun d hd => by
    unfold rngL at hd
    obtain ⟨k, hk, rfl⟩ := List.mem_map.mp hd
    have hk := List.mem_range.mp hk
    refine ⟨k, by omega, ?_⟩
    rw [Int.mul_one, Int.zero_add]
    rfl
  have hlen : (rngL 0 1 n).length = n := by unfold rngL; rw [List.length_map, List.length_range]
  obtain ⟨e2, s2, q1, _, R, q2, q3⟩ := key (rngL 0 1 n) [a0, some (.ref 0), a2, a3, a4, some (.lst []), some (.lst []), some (.int 0), some (.lst []), a9, a10, a11, a12, a13, a14, a15, a16, a17] (sd x1 y1 z1) ⟨hL, [], ⟨fun r h => (by cases h), _, _, _, _, _, _, _, _, _, _, _, _, _, x1, y1, z1, rfl, rfl⟩, by rw [hlen]; show 0 + n ≤ 8; omega⟩
  refine ⟨R, e2, s2, ?_, q2, by rw [List.length_nil] at q3; omega⟩
  rw [lb2_eq]
  have hw : wRng (aCons (mCall 2 (prog G (j + 6) 22) (aCons (mVar 1) (aCons (mC (.int 8)) aNil))) aNil) [a0, some (.ref 0), a2, a3, a4, some (.lst []), some (.lst []), some (.int 0), some (.lst []), a9, a10, a11, a12, a13, a14, a15, a16, a17] (sd x y z) = .ok (.fix (rngL 0 1 n)) (sd x1 y1 z1) := by
    have hA := aCons1 (mCall_eq' (n := 2) (f := prog G (j + 6) 22) (as := aCons (mVar 1) (aCons (mC (.int 8)) aNil)) (ds := [.ref 0, .int 8]) (e := [a0, some (.ref 0), a2, a3, a4, some (.lst []), some (.lst []), some (.int 0), some (.lst []), a9, a10, a11, a12, a13, a14, a15, a16, a17]) (s := sd x y z) (s1 := sd x y z) rfl rfl E1)
    unfold wRng
    rw [hA]
    show wR ((rng [.int m]).map .fix) (sd x1 y1 z1) = _
    rw [hr]
    rfl
  unfold sForW
  rw [hw]
  exact q1
end K02
end Z

set_option Elab.async false
set_option linter.all false
set_option maxRecDepth 100000
set_option maxHeartbeats 4000000
namespace Z
open PySem
namespace K02
variable {a0 a1 a2 a3 a4 a5 a6 a7 a8 a9 a10 a11 a12 a13 a14 a15 a16 a17 : Option D}
theorem offs_map {β : Type} (f : Row → β) : ∀ (R : List Row) (o : Nat), (offs o R).map (fun q => f q.2) = R.map f
  | [], _ => rfl
  | r :: R, o => by
    show f r :: (offs _ R).map _ = f r :: _
    rw [offs_map f R]
theorem all_py {f : D → Option PyData} : ∀ {ds : List D}, (∀ d ∈ ds, ∃ x, f d = some x) → ∃ xs, optAll f ds = some xs
  | [], _ => ⟨[], rfl⟩
  | d :: ds, h => by
    obtain ⟨x, e1⟩ := h d (List.mem_cons_self ..)
    obtain ⟨xs, e2⟩ := all_py (ds := ds) fun d hd => h d (List.mem_cons_of_mem _ hd)
    exact ⟨x :: xs, by rw [optAll_cons, e1, e2]⟩
theorem py_offs (R : List Row) (s : Sto) : ∃ x, pyOf s 12 (.lst ((offs 0 R).map offD)) = some x := by
  obtain ⟨xs, e⟩ := all_py (f := pyOf s 11) (ds := (offs 0 R).map offD) fun d hd => by
    obtain ⟨q, _, rfl⟩ := List.mem_map.mp hd
    exact ⟨_, rfl⟩
  exact ⟨_, by rw [py_lst, e]; rfl⟩
theorem py_rows {R : List Row} (hR : ∀ r ∈ R, RowOk r) (s : Sto) : ∃ x, pyOf s 12 (.lst (R.map rowD)) = some x := by
  obtain ⟨xs, e⟩ := all_py (f := pyOf s 11) (ds := R.map rowD) fun d hd => by
    obtain ⟨r, hr, rfl⟩ := List.mem_map.mp hd
    obtain ⟨_, hk, hs, _⟩ := code_at (hR r hr).1
    obtain ⟨x, e⟩ := py_shw r s 9
    refine ⟨.tuple [.str (nmS r.1), .str (ws (wk r.1)), x], ?_⟩
    unfold rowD
    rw [py_tup, optAll_cons, optAll_cons, optAll_cons, optAll_nil, py_str hs, py_str (strB_ws hk), e]; rfl
  exact ⟨_, by rw [py_lst, e]; rfl⟩
theorem bOr_no {a b : MB} {e : Env} {s : Sto} (ha : a e s = .ok false s) (hb : b e s = .ok false s) : bOr a b e s = .ok false s := by
  unfold bOr
  rw [ha]
  show b e s = _
  rw [hb]
theorem ne_no {a b : ME} {e : Env} {s : Sto} {d : D} {x : PyData} (ha : a e s = .ok d s) (hb : b e s = .ok d s) (hp : pyOf s 12 d = some x) : mB (m2 (opC .NotEq) a b) e s = .ok false s := by
  have h := op_eq_rf hp true
  unfold mB
  rw [m2_eq (f := opC .NotEq) ha hb h]
  rfl
theorem rows_at (j : Nat) {R : List Row} (hR : ∀ r ∈ R, RowOk r) (hn : R.length ≤ 50) (s : Sto) : mLc false [14] (tName 14) (wVal (mVar 6)) bYes (mSl false (mCall 2 (prog G (j + 6) 14) (aCons (mVar 5) (aCons (mVar 14) aNil))) oNone (oSome (mC (.int 3)))) [a0, some (.ref 0), a2, a3, a4, some (.lst ((nums R).map .int)), some (.lst ((offs 0 R).map offD)), some (.int (stps R)), some (.lst (R.map rowD)), a9, a10, a11, a12, a13, a14, a15, a16, a17] s = .ok (.lst (R.map rowD)) s := by
  have hL : ((offs 0 R).map offD).length ≤ 16777216 := by rw [List.length_map, offs_len]; omega
  have key : lcF (tName 14) bYes (mSl false (mCall 2 (prog G (j + 6) 14) (aCons (mVar 5) (aCons (mVar 14) aNil))) oNone (oSome (mC (.int 3)))) (((offs 0 R).map fun q => (offD q, rowD q.2)).map (·.1)) [a0, some (.ref 0), a2, a3, a4, some (.lst ((nums R).map .int)), some (.lst ((offs 0 R).map offD)), some (.int (stps R)), some (.lst (R.map rowD)), a9, a10, a11, a12, a13, none, a15, a16, a17] s = .ok (((offs 0 R).map fun q => (offD q, rowD q.2)).map (·.2)) s := by
    refine lcF_two fun q hq => ?_
    obtain ⟨o, ho, rfl⟩ := List.mem_map.mp hq
    obtain ⟨pre, post, e1, e2, e3⟩ := offs_mem (pre := []) rfl ho
    have e1 : nums R = pre ++ (bts o.2 ++ post) := e1
    have hd := dec_at (j + 2) (d := .lst ((nums R).map .int)) (pre := pre) (post := post) (hR o.2 e3) (.inr (by rw [e1]))
    rw [e2] at hd
    have hd : ∀ s, prog G (j + 6) 14 [.lst ((nums R).map .int), offD o] s = .ok (decD o.2) s := hd
    have h1 : mCall 2 (prog G (j + 6) 14) (aCons (mVar 5) (aCons (mVar 14) aNil)) [a0, some (.ref 0), a2, a3, a4, some (.lst ((nums R).map .int)), some (.lst ((offs 0 R).map offD)), some (.int (stps R)), some (.lst (R.map rowD)), a9, a10, a11, a12, a13, some (offD o), a15, a16, a17] s = .ok (decD o.2) s := mCall_eq (ds := [.lst ((nums R).map .int), offD o]) rfl rfl (hd s)
    refine ⟨_, rfl, rfl, ?_⟩
    show mSl false _ _ _ [a0, some (.ref 0), a2, a3, a4, some (.lst ((nums R).map .int)), some (.lst ((offs 0 R).map offD)), some (.int (stps R)), some (.lst (R.map rowD)), a9, a10, a11, a12, a13, some (offD o), a15, a16, a17] s = _
    unfold mSl
    rw [h1]
    rfl
  rw [List.map_map, List.map_map] at key
  have key : lcF (tName 14) bYes (mSl false (mCall 2 (prog G (j + 6) 14) (aCons (mVar 5) (aCons (mVar 14) aNil))) oNone (oSome (mC (.int 3)))) ((offs 0 R).map offD) [a0, some (.ref 0), a2, a3, a4, some (.lst ((nums R).map .int)), some (.lst ((offs 0 R).map offD)), some (.int (stps R)), some (.lst (R.map rowD)), a9, a10, a11, a12, a13, none, a15, a16, a17] s = .ok ((offs 0 R).map fun q => rowD q.2) s := key
  rw [offs_map rowD] at key
  unfold mLc
  show ((lcS (tName 14) bYes _ (.fix ((offs 0 R).map offD)) [a0, some (.ref 0), a2, a3, a4, some (.lst ((nums R).map .int)), some (.lst ((offs 0 R).map offD)), some (.int (stps R)), some (.lst (R.map rowD)), a9, a10, a11, a12, a13, none, a15, a16, a17] s).bind fun r s2 => Z.R.of (mkL false r s2)) = _
  unfold lcS
  show ((if ((offs 0 R).map offD).length ≤ 16777216 then lcF (tName 14) bYes _ ((offs 0 R).map offD) [a0, some (.ref 0), a2, a3, a4, some (.lst ((nums R).map .int)), some (.lst ((offs 0 R).map offD)), some (.int (stps R)), some (.lst (R.map rowD)), a9, a10, a11, a12, a13, none, a15, a16, a17] s else .bad).bind fun r s2 => Z.R.of (mkL false r s2)) = _
  rw [if_pos hL, key]
  show Z.R.of (mkL false (R.map rowD) s) = _
  rw [mkL_f (by rw [List.length_map]; omega)]
  rfl
theorem l3 (j : Nat) {R : List Row} (hR : ∀ r ∈ R, RowOk r) (hn : R.length ≤ 50) (s : Sto) : lb3 (prog G (j + 6)) [a0, some (.ref 0), a2, a3, a4, some (.lst ((nums R).map .int)), some (.lst ((offs 0 R).map offD)), some (.int (stps R)), some (.lst (R.map rowD)), a9, a10, a11, a12, a13, a14, a15, a16, a17] s = .nx [a0, some (.ref 0), a2, a3, a4, some (.lst ((nums R).map .int)), some (.lst ((offs 0 R).map offD)), some (.int (stps R)), some (.lst (R.map rowD)), a9, a10, a11, a12, a13, a14, a15, a16, a17] s := by
  obtain ⟨x1, p1⟩ := py_offs R s
  obtain ⟨x3, p3⟩ := py_rows hR s
  have q1 : mCall 1 (prog G (j + 6) 17) (aCons (mVar 5) aNil) [a0, some (.ref 0), a2, a3, a4, some (.lst ((nums R).map .int)), some (.lst ((offs 0 R).map offD)), some (.int (stps R)), some (.lst (R.map rowD)), a9, a10, a11, a12, a13, a14, a15, a16, a17] s = .ok (.tup ((offs 0 R).map offD)) s := mCall_eq (ds := [.lst ((nums R).map .int)]) rfl rfl (sizes_told (j + 1) hR (.inr rfl) (by omega) s)
  have q2 : mB1 (bList false) (aCons (mCall 1 (prog G (j + 6) 17) (aCons (mVar 5) aNil)) aNil) [a0, some (.ref 0), a2, a3, a4, some (.lst ((nums R).map .int)), some (.lst ((offs 0 R).map offD)), some (.int (stps R)), some (.lst (R.map rowD)), a9, a10, a11, a12, a13, a14, a15, a16, a17] s = .ok (.lst ((offs 0 R).map offD)) s := mB1_eq (ds := [.tup ((offs 0 R).map offD)]) (aCons_eq q1 rfl) (list_tup (by rw [List.length_map, offs_len]; omega) s)
  have q3 : mCall 1 (prog G (j + 6) 18) (aCons (mVar 5) aNil) [a0, some (.ref 0), a2, a3, a4, some (.lst ((nums R).map .int)), some (.lst ((offs 0 R).map offD)), some (.int (stps R)), some (.lst (R.map rowD)), a9, a10, a11, a12, a13, a14, a15, a16, a17] s = .ok (.int (stps R)) s := mCall_eq (ds := [.lst ((nums R).map .int)]) rfl rfl (steps_told j hR (.inr rfl) (by omega) s)
  unfold lb3
  rw [if_no (bOr_no (ne_no q2 rfl p1) (bOr_no (ne_no q3 rfl py_int) (ne_no (rows_at j hR hn s) rfl p3)))]
  rfl
theorem l4 (j : Nat) (x y z : Int) : ∃ p g f x' y' z' : Int, (0 ≤ p ∧ p < 400) ∧ (0 ≤ g ∧ g < 400) ∧ (-128 ≤ f ∧ f ≤ 127) ∧ lb4 (prog G (j + 6)) [a0, some (.ref 0), a2, a3, a4, a5, a6, a7, a8, a9, a10, a11, a12, a13, a14, a15, a16, a17] (sd x y z) = .nx [a0, some (.ref 0), a2, a3, a4, a5, a6, a7, a8, a9, a10, a11, a12, a13, some (.int p), some (.int g), some (.int f), a17] (sd x' y' z') := by
  obtain ⟨p, x1, y1, z1, p0, p1, e1⟩ := roll (j + 5) x y z (m := 400) (by decide) (by decide)
  obtain ⟨g, x2, y2, z2, g0, g1, e2⟩ := roll (j + 5) x1 y1 z1 (m := 400) (by decide) (by decide)
  obtain ⟨f, x3, y3, z3, f0, f1, e3⟩ := roll (j + 5) x2 y2 z2 (m := 256) (by decide) (by decide)
  refine ⟨p, g, f - 128, x3, y3, z3, ⟨p0, p1⟩, ⟨g0, g1⟩, by omega, ?_⟩
  unfold lb4
  simp only [runN, sSeq, sIf, sRet, sRetN, sExpr, sAsg, sRaise, sPass, sAug, sPar, putAll, tName, tTup, tAll, goOn, Z.R.out, Z.R.bind_ok, Z.R.bind_exc, Z.R.bind_bad, Z.R.of, Z.R.nx, mC, mVar, m1, m2, mB, mT, mNot, mAnd, mOr, mIf, bNot, bAnd, bOr, bIf, truthR, truth, mTup, mkT, mLst, mkL, aNil, aCons, mCall, mB1, opBin, ipOp, ipAdd, ipMul, opAdd, opSub, opMul, opFdiv, opMod, unNeg, opC, opCmp, op_eq_int, op_in2, op_inl2, mChain, bYes, wVal, wRng, wOf, wR, wipeE, big, List.map_cons, List.map_nil, List.length_cons, List.length_nil, List.replicate, List.cons_append, List.nil_append, List.getElem?_cons_zero, List.getElem?_cons_succ, List.set_cons_zero, List.set_cons_succ, if_true, if_false, decide_true, decide_false, Bool.not_true, Bool.not_false, Bool.true_and, Bool.and_true, Bool.false_and, Bool.and_false, Bool.or_false, Bool.false_or, Bool.true_or, Bool.or_true, Bool.xor_false, Bool.xor_true, Bool.false_xor, Bool.true_xor, Bool.false_eq_true, Bool.true_eq_false, ite_true, ite_false, line, Nat.reduceSub, Nat.reduceAdd, Int.reduceNeg, Int.reducePow, Int.reduceLT, Int.reduceLE, Int.reduceMul, Int.reduceAdd, Int.reduceSub, Int.reduceDiv, Int.reduceMod, Int.reduceEq, Nat.reduceLeDiff, Nat.reduceLT, Nat.reduceEqDiff, and_true, true_and, and_false, false_and, and_self, gt_iff_lt, ge_iff_le, e1, e2, e3]
section
variable {p g f : Int} (hp : 0 ≤ p ∧ p < 400) (hg : 0 ≤ g ∧ g < 400) (hf : -128 ≤ f ∧ f ≤ 127)
theorem l5 (j : Nat) (s : Sto) : lb5 (prog G (j + 6)) [a0, a1, a2, a3, a4, a5, a6, a7, a8, a9, a10, a11, a12, a13, some (.int p), some (.int g), some (.int f), a17] s = .nx [a0, a1, a2, a3, a4, a5, a6, a7, a8, a9, a10, a11, a12, a13, some (.int p), some (.int g), some (.int f), a17] s := by
  by_cases h : -128 ≤ g - p - 2 ∧ g - p - 2 ≤ 127
  · have q1 := far_between (j + 5) h s
    have h1 := h.1
    have h2 := h.2
    unfold lb5
    simp only [runN, sSeq, sIf, sRet, sRetN, sExpr, sAsg, sRaise, sPass, sAug, sPar, putAll, tName, tTup, tAll, goOn, Z.R.out, Z.R.bind_ok, Z.R.bind_exc, Z.R.bind_bad, Z.R.of, Z.R.nx, mC, mVar, m1, m2, mB, mT, mNot, mAnd, mOr, mIf, bNot, bAnd, bOr, bIf, truthR, truth, mTup, mkT, mLst, mkL, aNil, aCons, mCall, mB1, opBin, ipOp, ipAdd, ipMul, opAdd, opSub, opMul, opFdiv, opMod, unNeg, opC, opCmp, op_eq_int, op_in2, op_inl2, mChain, bYes, wVal, wRng, wOf, wR, wipeE, big, List.map_cons, List.map_nil, List.length_cons, List.length_nil, List.replicate, List.cons_append, List.nil_append, List.getElem?_cons_zero, List.getElem?_cons_succ, List.set_cons_zero, List.set_cons_succ, if_true, if_false, decide_true, decide_false, Bool.not_true, Bool.not_false, Bool.true_and, Bool.and_true, Bool.false_and, Bool.and_false, Bool.or_false, Bool.false_or, Bool.true_or, Bool.or_true, Bool.xor_false, Bool.xor_true, Bool.false_xor, Bool.true_xor, Bool.false_eq_true, Bool.true_eq_false, ite_true, ite_false, line, Nat.reduceSub, Nat.reduceAdd, Int.reduceNeg, Int.reducePow, Int.reduceLT, Int.reduceLE, Int.reduceMul, Int.reduceAdd, Int.reduceSub, Int.reduceDiv, Int.reduceMod, Int.reduceEq, Nat.reduceLeDiff, Nat.reduceLT, Nat.reduceEqDiff, and_true, true_and, and_false, false_and, and_self, gt_iff_lt, ge_iff_le, mKIx, mKGet, kGetR, mTold1, toldR, sTryX, Nat.reduceMul, Nat.reduceMod, Nat.reduceDiv, q1, h1, h2]
  · have q1 := no_far (j + 5) h s
    have q2 := w_eq "CodeError" "CodeError" true (by decide +kernel) true s
    unfold lb5
    by_cases h1 : -128 ≤ g - p - 2
    · have h2 : ¬ (g - p - 2 ≤ 127) := fun z => h ⟨h1, z⟩
      simp only [runN, sSeq, sIf, sRet, sRetN, sExpr, sAsg, sRaise, sPass, sAug, sPar, putAll, tName, tTup, tAll, goOn, Z.R.out, Z.R.bind_ok, Z.R.bind_exc, Z.R.bind_bad, Z.R.of, Z.R.nx, mC, mVar, m1, m2, mB, mT, mNot, mAnd, mOr, mIf, bNot, bAnd, bOr, bIf, truthR, truth, mTup, mkT, mLst, mkL, aNil, aCons, mCall, mB1, opBin, ipOp, ipAdd, ipMul, opAdd, opSub, opMul, opFdiv, opMod, unNeg, opC, opCmp, op_eq_int, op_in2, op_inl2, mChain, bYes, wVal, wRng, wOf, wR, wipeE, big, List.map_cons, List.map_nil, List.length_cons, List.length_nil, List.replicate, List.cons_append, List.nil_append, List.getElem?_cons_zero, List.getElem?_cons_succ, List.set_cons_zero, List.set_cons_succ, if_true, if_false, decide_true, decide_false, Bool.not_true, Bool.not_false, Bool.true_and, Bool.and_true, Bool.false_and, Bool.and_false, Bool.or_false, Bool.false_or, Bool.true_or, Bool.or_true, Bool.xor_false, Bool.xor_true, Bool.false_xor, Bool.true_xor, Bool.false_eq_true, Bool.true_eq_false, ite_true, ite_false, line, Nat.reduceSub, Nat.reduceAdd, Int.reduceNeg, Int.reducePow, Int.reduceLT, Int.reduceLE, Int.reduceMul, Int.reduceAdd, Int.reduceSub, Int.reduceDiv, Int.reduceMod, Int.reduceEq, Nat.reduceLeDiff, Nat.reduceLT, Nat.reduceEqDiff, and_true, true_and, and_false, false_and, and_self, gt_iff_lt, ge_iff_le, mKIx, mKGet, kGetR, mTold1, toldR, sTryX, Nat.reduceMul, Nat.reduceMod, Nat.reduceDiv, q1, h1, h2, q2, catch11]
    · simp only [runN, sSeq, sIf, sRet, sRetN, sExpr, sAsg, sRaise, sPass, sAug, sPar, putAll, tName, tTup, tAll, goOn, Z.R.out, Z.R.bind_ok, Z.R.bind_exc, Z.R.bind_bad, Z.R.of, Z.R.nx, mC, mVar, m1, m2, mB, mT, mNot, mAnd, mOr, mIf, bNot, bAnd, bOr, bIf, truthR, truth, mTup, mkT, mLst, mkL, aNil, aCons, mCall, mB1, opBin, ipOp, ipAdd, ipMul, opAdd, opSub, opMul, opFdiv, opMod, unNeg, opC, opCmp, op_eq_int, op_in2, op_inl2, mChain, bYes, wVal, wRng, wOf, wR, wipeE, big, List.map_cons, List.map_nil, List.length_cons, List.length_nil, List.replicate, List.cons_append, List.nil_append, List.getElem?_cons_zero, List.getElem?_cons_succ, List.set_cons_zero, List.set_cons_succ, if_true, if_false, decide_true, decide_false, Bool.not_true, Bool.not_false, Bool.true_and, Bool.and_true, Bool.false_and, Bool.and_false, Bool.or_false, Bool.false_or, Bool.true_or, Bool.or_true, Bool.xor_false, Bool.xor_true, Bool.false_xor, Bool.true_xor, Bool.false_eq_true, Bool.true_eq_false, ite_true, ite_false, line, Nat.reduceSub, Nat.reduceAdd, Int.reduceNeg, Int.reducePow, Int.reduceLT, Int.reduceLE, Int.reduceMul, Int.reduceAdd, Int.reduceSub, Int.reduceDiv, Int.reduceMod, Int.reduceEq, Nat.reduceLeDiff, Nat.reduceLT, Nat.reduceEqDiff, and_true, true_and, and_false, false_and, and_self, gt_iff_lt, ge_iff_le, mKIx, mKGet, kGetR, mTold1, toldR, sTryX, Nat.reduceMul, Nat.reduceMod, Nat.reduceDiv, q1, h1, q2, catch11]
include hp hf in
theorem l6 (j : Nat) (s : Sto) : lb6 (prog G (j + 6)) [a0, a1, a2, a3, a4, a5, a6, a7, a8, a9, a10, a11, a12, a13, some (.int p), some (.int g), some (.int f), a17] s = .nx [a0, a1, a2, a3, a4, a5, a6, a7, a8, a9, a10, a11, a12, a13, some (.int p), some (.int g), some (.int f), a17] s := by
  have q1 := goal_of (j + 4) (a := p) (f := f) hp.1 (by omega) hf.1 hf.2 s
  have q2 := far_between (j + 5) (a := p) (b := p + 2 + f) ⟨by omega, by omega⟩ s
  rw [show p + 2 + f - p - 2 = f by omega] at q2
  unfold lb6
  simp only [runN, sSeq, sIf, sRet, sRetN, sExpr, sAsg, sRaise, sPass, sAug, sPar, putAll, tName, tTup, tAll, goOn, Z.R.out, Z.R.bind_ok, Z.R.bind_exc, Z.R.bind_bad, Z.R.of, Z.R.nx, mC, mVar, m1, m2, mB, mT, mNot, mAnd, mOr, mIf, bNot, bAnd, bOr, bIf, truthR, truth, mTup, mkT, mLst, mkL, aNil, aCons, mCall, mB1, opBin, ipOp, ipAdd, ipMul, opAdd, opSub, opMul, opFdiv, opMod, unNeg, opC, opCmp, op_eq_int, op_in2, op_inl2, mChain, bYes, wVal, wRng, wOf, wR, wipeE, big, List.map_cons, List.map_nil, List.length_cons, List.length_nil, List.replicate, List.cons_append, List.nil_append, List.getElem?_cons_zero, List.getElem?_cons_succ, List.set_cons_zero, List.set_cons_succ, if_true, if_false, decide_true, decide_false, Bool.not_true, Bool.not_false, Bool.true_and, Bool.and_true, Bool.false_and, Bool.and_false, Bool.or_false, Bool.false_or, Bool.true_or, Bool.or_true, Bool.xor_false, Bool.xor_true, Bool.false_xor, Bool.true_xor, Bool.false_eq_true, Bool.true_eq_false, ite_true, ite_false, line, Nat.reduceSub, Nat.reduceAdd, Int.reduceNeg, Int.reducePow, Int.reduceLT, Int.reduceLE, Int.reduceMul, Int.reduceAdd, Int.reduceSub, Int.reduceDiv, Int.reduceMod, Int.reduceEq, Nat.reduceLeDiff, Nat.reduceLT, Nat.reduceEqDiff, and_true, true_and, and_false, false_and, and_self, gt_iff_lt, ge_iff_le, mKIx, mKGet, kGetR, mTold1, toldR, sTryX, Nat.reduceMul, Nat.reduceMod, Nat.reduceDiv, q1, q2]
end
theorem l7 (j : Nat) (x y z : Int) : ∃ (c : Nat) (x' y' z' : Int), c < 56 ∧ lb7 (prog G (j + 6)) [a0, some (.ref 0), a2, a3, a4, a5, a6, a7, a8, a9, a10, a11, a12, a13, a14, a15, a16, a17] (sd x y z) = .nx [a0, some (.ref 0), a2, some (.str (nmS c)), a4, a5, a6, a7, a8, a9, a10, a11, a12, a13, a14, a15, a16, a17] (sd x' y' z') := by
  obtain ⟨v, x1, y1, z1, h0, h1, e1⟩ := roll (j + 5) x y z (m := 56) (by decide) (by decide)
  obtain ⟨c, hv⟩ : ∃ c : Nat, v = Int.ofNat c := ⟨v.toNat, (Int.toNat_of_nonneg h0).symm⟩
  have hc : c < 56 := by rw [hv] at h1; exact Int.ofNat_lt.mp h1
  refine ⟨c, x1, y1, z1, hc, ?_⟩
  have q1 := cat_ix hc
  rw [← hv] at q1
  have q2 : ∀ s, opIx (.tup [.str (nmS c), .str (ws (wk c))]) (.int 0) s = some (.str (nmS c), s) := fun s => rfl
  unfold lb7
  simp only [runN, sSeq, sIf, sRet, sRetN, sExpr, sAsg, sRaise, sPass, sAug, sPar, putAll, tName, tTup, tAll, goOn, Z.R.out, Z.R.bind_ok, Z.R.bind_exc, Z.R.bind_bad, Z.R.of, Z.R.nx, mC, mVar, m1, m2, mB, mT, mNot, mAnd, mOr, mIf, bNot, bAnd, bOr, bIf, truthR, truth, mTup, mkT, mLst, mkL, aNil, aCons, mCall, mB1, opBin, ipOp, ipAdd, ipMul, opAdd, opSub, opMul, opFdiv, opMod, unNeg, opC, opCmp, op_eq_int, op_in2, op_inl2, mChain, bYes, wVal, wRng, wOf, wR, wipeE, big, List.map_cons, List.map_nil, List.length_cons, List.length_nil, List.replicate, List.cons_append, List.nil_append, List.getElem?_cons_zero, List.getElem?_cons_succ, List.set_cons_zero, List.set_cons_succ, if_true, if_false, decide_true, decide_false, Bool.not_true, Bool.not_false, Bool.true_and, Bool.and_true, Bool.false_and, Bool.and_false, Bool.or_false, Bool.false_or, Bool.true_or, Bool.or_true, Bool.xor_false, Bool.xor_true, Bool.false_xor, Bool.true_xor, Bool.false_eq_true, Bool.true_eq_false, ite_true, ite_false, line, Nat.reduceSub, Nat.reduceAdd, Int.reduceNeg, Int.reducePow, Int.reduceLT, Int.reduceLE, Int.reduceMul, Int.reduceAdd, Int.reduceSub, Int.reduceDiv, Int.reduceMod, Int.reduceEq, Nat.reduceLeDiff, Nat.reduceLT, Nat.reduceEqDiff, and_true, true_and, and_false, false_and, and_self, gt_iff_lt, ge_iff_le, cat_len, e1, q1, q2]
theorem py_wvS {c : Nat} (h : c < 56) (s : Sto) : ∃ x, pyOf s 12 (.lst ((wvS c).map .str)) = some x := by
  revert s
  refine all56 (P := fun c => ∀ s : Sto, ∃ x, pyOf s 12 (.lst ((wvS c).map .str)) = some x) ?_ ?_ ?_ ?_ ?_ ?_ ?_ ?_ ?_ ?_ ?_ ?_ ?_ ?_ ?_ ?_ ?_ ?_ ?_ ?_ ?_ ?_ ?_ ?_ ?_ ?_ ?_ ?_ ?_ ?_ ?_ ?_ ?_ ?_ ?_ ?_ ?_ ?_ ?_ ?_ ?_ ?_ ?_ ?_ ?_ ?_ ?_ ?_ ?_ ?_ ?_ ?_ ?_ ?_ ?_ ?_ h
  all_goals intro s
  all_goals exact ⟨_, rfl⟩
theorem l8 (j : Nat) {c : Nat} (hc : c < 56) {g : Int} (g0 : 0 ≤ g) (s : Sto) : lb8 (prog G (j + 6)) [a0, a1, a2, some (.str (nmS c)), a4, a5, a6, a7, a8, a9, a10, a11, a12, a13, a14, some (.int g), a16, a17] s = .nx [a0, a1, a2, some (.str (nmS c)), a4, a5, a6, a7, a8, a9, a10, a11, a12, a13, a14, some (.int g), a16, a17] s := by
  obtain ⟨x1, p1⟩ := py_wvS hc s
  have hl : (wvS c).length ≤ 56 := by unfold wvS; exact List.length_filterMap_le ..
  have q1 : mB1 (bList false) (aCons (mCall 1 (prog G (j + 6) 10) (aCons (mVar 3) aNil)) aNil) [a0, a1, a2, some (.str (nmS c)), a4, a5, a6, a7, a8, a9, a10, a11, a12, a13, a14, some (.int g), a16, a17] s = .ok (.lst ((wvS c).map .str)) s :=
    mB1_eq (ds := [.tup ((wvS c).map .str)]) (aCons_eq (mCall_eq (ds := [.str (nmS c)]) rfl rfl (ways_of (j + 5) hc s)) rfl) (list_tup (by rw [List.length_map]; omega) s)
  have q2 : wcM [a0, a1, a2, some (.str (nmS c)), a4, a5, a6, a7, a8, a9, a10, a11, a12, a13, a14, some (.int g), a16, a17] s = .ok (.lst ((wvS c).map .str)) s := wc_at hc s
  have q3 : mCall 2 (prog G (j + 6) 16) (aCons (mVar 3) (aCons (mVar 15) aNil)) [a0, a1, a2, some (.str (nmS c)), a4, a5, a6, a7, a8, a9, a10, a11, a12, a13, a14, some (.int g), a16, a17] s = .ok (.bl (nearB c && decide (g < 256))) s := mCall_eq (ds := [.str (nmS c), .int g]) rfl rfl (fits_near (j + 5) hc g0 s)
  have q4 : mAnd (m2 (opC .In) (mTup (aCons (mVar 3) (aCons (mC (.str "near")) aNil))) (mC cCODES)) (m2 (opC .Lt) (mVar 15) (mC (.int 256))) [a0, a1, a2, some (.str (nmS c)), a4, a5, a6, a7, a8, a9, a10, a11, a12, a13, a14, some (.int g), a16, a17] s = .ok (.bl (nearB c && decide (g < 256))) s := by
    have q := in_codes hc
    cases hb : nearB c with
    | false => rw [hb] at q; simp only [runN, sSeq, sIf, sRet, sRetN, sExpr, sAsg, sRaise, sPass, sAug, sPar, putAll, tName, tTup, tAll, goOn, Z.R.out, Z.R.bind_ok, Z.R.bind_exc, Z.R.bind_bad, Z.R.of, Z.R.nx, mC, mVar, m1, m2, mB, mT, mNot, mAnd, mOr, mIf, bNot, bAnd, bOr, bIf, truthR, truth, mTup, mkT, mLst, mkL, aNil, aCons, mCall, mB1, opBin, ipOp, ipAdd, ipMul, opAdd, opSub, opMul, opFdiv, opMod, unNeg, opC, opCmp, op_eq_int, op_in2, op_inl2, mChain, bYes, wVal, wRng, wOf, wR, wipeE, big, List.map_cons, List.map_nil, List.length_cons, List.length_nil, List.replicate, List.cons_append, List.nil_append, List.getElem?_cons_zero, List.getElem?_cons_succ, List.set_cons_zero, List.set_cons_succ, if_true, if_false, decide_true, decide_false, Bool.not_true, Bool.not_false, Bool.true_and, Bool.and_true, Bool.false_and, Bool.and_false, Bool.or_false, Bool.false_or, Bool.true_or, Bool.or_true, Bool.xor_false, Bool.xor_true, Bool.false_xor, Bool.true_xor, Bool.false_eq_true, Bool.true_eq_false, ite_true, ite_false, line, Nat.reduceSub, Nat.reduceAdd, Int.reduceNeg, Int.reducePow, Int.reduceLT, Int.reduceLE, Int.reduceMul, Int.reduceAdd, Int.reduceSub, Int.reduceDiv, Int.reduceMod, Int.reduceEq, Nat.reduceLeDiff, Nat.reduceLT, Nat.reduceEqDiff, and_true, true_and, and_false, false_and, and_self, gt_iff_lt, ge_iff_le, q]
    | true => rw [hb] at q; simp only [runN, sSeq, sIf, sRet, sRetN, sExpr, sAsg, sRaise, sPass, sAug, sPar, putAll, tName, tTup, tAll, goOn, Z.R.out, Z.R.bind_ok, Z.R.bind_exc, Z.R.bind_bad, Z.R.of, Z.R.nx, mC, mVar, m1, m2, mB, mT, mNot, mAnd, mOr, mIf, bNot, bAnd, bOr, bIf, truthR, truth, mTup, mkT, mLst, mkL, aNil, aCons, mCall, mB1, opBin, ipOp, ipAdd, ipMul, opAdd, opSub, opMul, opFdiv, opMod, unNeg, opC, opCmp, op_eq_int, op_in2, op_inl2, mChain, bYes, wVal, wRng, wOf, wR, wipeE, big, List.map_cons, List.map_nil, List.length_cons, List.length_nil, List.replicate, List.cons_append, List.nil_append, List.getElem?_cons_zero, List.getElem?_cons_succ, List.set_cons_zero, List.set_cons_succ, if_true, if_false, decide_true, decide_false, Bool.not_true, Bool.not_false, Bool.true_and, Bool.and_true, Bool.false_and, Bool.and_false, Bool.or_false, Bool.false_or, Bool.true_or, Bool.or_true, Bool.xor_false, Bool.xor_true, Bool.false_xor, Bool.true_xor, Bool.false_eq_true, Bool.true_eq_false, ite_true, ite_false, line, Nat.reduceSub, Nat.reduceAdd, Int.reduceNeg, Int.reducePow, Int.reduceLT, Int.reduceLE, Int.reduceMul, Int.reduceAdd, Int.reduceSub, Int.reduceDiv, Int.reduceMod, Int.reduceEq, Nat.reduceLeDiff, Nat.reduceLT, Nat.reduceEqDiff, and_true, true_and, and_false, false_and, and_self, gt_iff_lt, ge_iff_le, q]
  unfold wcM at q2
  unfold lb8
  rw [if_no (bOr_no (ne_no q1 q2 p1) (ne_no q3 q4 py_bl))]
  rfl
theorem law_body (j : Nat) (x y z : Int) (a : Option D) : ∃ e2 x' y' z', lawBody (prog G (j + 6)) [a, some (.ref 0), none, none, none, none, none, none, none, none, none, none, none, none, none, none, none, none] (sd x y z) = .nx e2 (sd x' y' z') := by
  unfold lawBody
  rw [seq_nx (l0 j _), seq_nx (l1 j _)]
  obtain ⟨R, e2, s2, h2, ⟨hR, b0, b2, b3, b4, b9, b10, b11, b12, b13, b14, b15, b16, b17, x2, y2, z2, he, hs⟩, hn⟩ := l2 (a0 := a) (a2 := none) (a3 := none) (a4 := none) (a9 := none) (a10 := none) (a11 := none) (a12 := none) (a13 := none) (a14 := none) (a15 := none) (a16 := none) (a17 := none) j x y z
  subst he hs
  rw [seq_nx h2, seq_nx (l3 j hR (by omega) _)]
  obtain ⟨p, g, f, x3, y3, z3, hp, hg, hf, h4⟩ := l4 (a0 := b0) (a2 := b2) (a3 := b3) (a4 := b4) (a5 := some (.lst ((nums R).map .int))) (a6 := some (.lst ((offs 0 R).map offD))) (a7 := some (.int (stps R))) (a8 := some (.lst (R.map rowD))) (a9 := b9) (a10 := b10) (a11 := b11) (a12 := b12) (a13 := b13) (a14 := b14) (a15 := b15) (a16 := b16) (a17 := b17) j x2 y2 z2
  rw [seq_nx h4, seq_nx (l5 j _), seq_nx (l6 hp hf j _)]
  obtain ⟨c, x4, y4, z4, hc, h7⟩ := l7 (a0 := b0) (a2 := b2) (a3 := b3) (a4 := b4) (a5 := some (.lst ((nums R).map .int))) (a6 := some (.lst ((offs 0 R).map offD))) (a7 := some (.int (stps R))) (a8 := some (.lst (R.map rowD))) (a9 := b9) (a10 := b10) (a11 := b11) (a12 := b12) (a13 := b13) (a14 := some (.int p)) (a15 := some (.int g)) (a16 := some (.int f)) (a17 := b17) j x3 y3 z3
  rw [seq_nx h7, seq_nx (l8 j hc hg.1 _)]
  exact ⟨_, x4, y4, z4, rfl⟩
theorem plain (x y z : Int) : prog G 9 29 [] (sd x y z) = .ok (.bl true) (sd x y z) := by kernel_rfl
theorem law_true (ns : List Int) : ∃ s', prog G 10 30 [.scr (ns.map D.int)] [] = .ok (.bl true) s' := by
  obtain ⟨x, y, z, h1⟩ := rounds 7 ns
  obtain ⟨e2, x2, y2, z2, h2⟩ := law_body 3 x y z (some (.scr (ns.map D.int)))
  refine ⟨sd x2 y2 z2, ?_⟩
  rw [fn30, law_split]
  have w1 : mCall 2 (prog G 9 23) (aCons (mVar 0) (aCons (mC (.int 1)) aNil)) [some (.scr (ns.map D.int)), none, none, none, none, none, none, none, none, none, none, none, none, none, none, none, none, none] [] = .ok (.lst [.ref 0]) (sd x y z) := mCall_eq' (ds := [.scr (ns.map D.int), .int 1]) rfl rfl h1
  have w2 : sForW (tName 1) (wVal (mCall 2 (prog G 9 23) (aCons (mVar 0) (aCons (mC (.int 1)) aNil)))) (lawBody (prog G 9)) [some (.scr (ns.map D.int)), none, none, none, none, none, none, none, none, none, none, none, none, none, none, none, none, none] [] = .nx e2 (sd x2 y2 z2) := by
    unfold sForW wVal
    rw [w1]
    show forF (tName 1) (lawBody (prog G 9)) [.ref 0] _ (sd x y z) = _
    rw [forF_cons (e1 := [some (.scr (ns.map D.int)), some (.ref 0), none, none, none, none, none, none, none, none, none, none, none, none, none, none, none, none]) rfl h2]
    rfl
  have w3 : mCall 0 (prog G 9 29) aNil e2 (sd x2 y2 z2) = .ok (.bl true) (sd x2 y2 z2) := mCall_eq' (ds := []) rfl rfl (plain x2 y2 z2)
  show (match sSeq _ _ [some (.scr (ns.map D.int)), none, none, none, none, none, none, none, none, none, none, none, none, none, none, none, none, none] [] with
    | .nx _ s' => .ok .non s'
    | .rt d s' => .ok d s'
    | .ex c _ s' => .exc c s'
    | _ => .bad : R D) = _
  rw [seq_nx w2]
  unfold sSeq sRet
  rw [w3]
  rfl
end K02
end Z

set_option Elab.async false
set_option linter.all false
set_option maxRecDepth 100000
set_option maxHeartbeats 0
namespace Z
open PySem PySem.Spec PyProof.Rows L2
namespace K02
abbrev R : PySem.W.OpenRow := PySem.W.OpenLaw.row PySem.Challenge.rw_emustack_k02_codes_that_come_back
abbrev hk : PySem.W.Hook := He.hookX 4 (faOf G) (G.defs.map ddOf) (tsOf G) (tfOf G) (exOf G)
def ob (s : PySem.W.SharedT) : He.AlX := He.obsX 4 (faOf G) (G.defs.map ddOf) (tsOf G) (tfOf G) (exOf G) (HandSHeadRun.getT s)
theorem ob_eq (s : PySem.W.SharedT) : ob s = hk.obs s.abs := He.obsX_eq (HandSHeadRun.getT_eq s)
abbrev loose : List Str := (["EmuFault", "WordError", "CodeError", "check_byte", "check_word", "check_bits", "power_of", "signed_of", "plain_of", "halves_of", "joined", "WAYS_OF_TELLING", "CODES", "SIZES_BY_WAY", "MORE_STEPS", "code_of", "named_code", "ways_of", "size_of", "steps_of", "encoded", "decoded", "told_code", "fits_near", "sizes_told", "steps_told", "far_between", "goal_of", "_law_dice", "_law_roll"] : List Str) ++ (["_law_rounds", "_law_told", "_law_fits", "_law_bytes", "_law_text", "_law_steps", "_law_plain"] : List Str)
theorem runF (w : World) : HandSHeadRun.RunEq R (PySem.W.view R.prog [41]) hk ob 20000 loose (w.withFollow "special-get-raises" false) := by
  intro os
  kernel_rfl
theorem runT (w : World) : HandSHeadRun.RunEq R (PySem.W.view R.prog [41]) hk ob 20000 loose (w.withFollow "special-get-raises" true) := by
  intro os
  kernel_rfl
theorem run (w : World) : HandSHeadRun.RunEq R (PySem.W.view R.prog [41]) hk ob 20000 loose w := by
  have e := World.withFollow_self w "special-get-raises"
  cases h : w.params.followText "special-get-raises" with
  | false => rw [h] at e; rw [← e]; exact runF w
  | true => rw [h] at e; rw [← e]; exact runT w
end K02
end Z

set_option Elab.async false
set_option linter.all false
set_option maxRecDepth 100000
set_option maxHeartbeats 0
namespace Z
open PySem PySem.Spec PyProof.Rows L2
namespace K02
theorem sc5 : FnScope d5.N d5.ps d5.scope := ⟨rfl, rfl, rfl, by decide +kernel, rfl, by decide +kernel, by decide +kernel⟩
theorem bd5 (kV doc pm : Value) (an : Option Addr) (cdv ct : Value) (us : List Value) (h : us.length = d5.ps.length) : bindArgs (PySem.W.fnOf d5.name d5.name d5.params d5.body d5.scope .none kV doc pm an cdv ct) ⟨us, []⟩ = pure (d5.ps.zip us) := match us, h with | [_], _ => rfl
theorem sc6 : FnScope d6.N d6.ps d6.scope := ⟨rfl, rfl, rfl, by decide +kernel, rfl, by decide +kernel, by decide +kernel⟩
theorem bd6 (kV doc pm : Value) (an : Option Addr) (cdv ct : Value) (us : List Value) (h : us.length = d6.ps.length) : bindArgs (PySem.W.fnOf d6.name d6.name d6.params d6.body d6.scope .none kV doc pm an cdv ct) ⟨us, []⟩ = pure (d6.ps.zip us) := match us, h with | [_], _ => rfl
theorem sc7 : FnScope d7.N d7.ps d7.scope := ⟨rfl, rfl, rfl, by decide +kernel, rfl, by decide +kernel, by decide +kernel⟩
theorem bd7 (kV doc pm : Value) (an : Option Addr) (cdv ct : Value) (us : List Value) (h : us.length = d7.ps.length) : bindArgs (PySem.W.fnOf d7.name d7.name d7.params d7.body d7.scope .none kV doc pm an cdv ct) ⟨us, []⟩ = pure (d7.ps.zip us) := match us, h with | [_, _], _ => rfl
theorem sc8 : FnScope d8.N d8.ps d8.scope := ⟨rfl, rfl, rfl, by decide +kernel, rfl, by decide +kernel, by decide +kernel⟩
theorem bd8 (kV doc pm : Value) (an : Option Addr) (cdv ct : Value) (us : List Value) (h : us.length = d8.ps.length) : bindArgs (PySem.W.fnOf d8.name d8.name d8.params d8.body d8.scope .none kV doc pm an cdv ct) ⟨us, []⟩ = pure (d8.ps.zip us) := match us, h with | [_], _ => rfl
theorem sc9 : FnScope d9.N d9.ps d9.scope := ⟨rfl, rfl, rfl, by decide +kernel, rfl, by decide +kernel, by decide +kernel⟩
theorem bd9 (kV doc pm : Value) (an : Option Addr) (cdv ct : Value) (us : List Value) (h : us.length = d9.ps.length) : bindArgs (PySem.W.fnOf d9.name d9.name d9.params d9.body d9.scope .none kV doc pm an cdv ct) ⟨us, []⟩ = pure (d9.ps.zip us) := match us, h with | [_, _], _ => rfl
theorem sc10 : FnScope d10.N d10.ps d10.scope := ⟨rfl, rfl, rfl, by decide +kernel, rfl, by decide +kernel, by decide +kernel⟩
theorem bd10 (kV doc pm : Value) (an : Option Addr) (cdv ct : Value) (us : List Value) (h : us.length = d10.ps.length) : bindArgs (PySem.W.fnOf d10.name d10.name d10.params d10.body d10.scope .none kV doc pm an cdv ct) ⟨us, []⟩ = pure (d10.ps.zip us) := match us, h with | [_, _], _ => rfl
theorem sc11 : FnScope d11.N d11.ps d11.scope := ⟨rfl, rfl, rfl, by decide +kernel, rfl, by decide +kernel, by decide +kernel⟩
theorem bd11 (kV doc pm : Value) (an : Option Addr) (cdv ct : Value) (us : List Value) (h : us.length = d11.ps.length) : bindArgs (PySem.W.fnOf d11.name d11.name d11.params d11.body d11.scope .none kV doc pm an cdv ct) ⟨us, []⟩ = pure (d11.ps.zip us) := match us, h with | [_], _ => rfl
theorem sc12 : FnScope d12.N d12.ps d12.scope := ⟨rfl, rfl, rfl, by decide +kernel, rfl, by decide +kernel, by decide +kernel⟩
theorem bd12 (kV doc pm : Value) (an : Option Addr) (cdv ct : Value) (us : List Value) (h : us.length = d12.ps.length) : bindArgs (PySem.W.fnOf d12.name d12.name d12.params d12.body d12.scope .none kV doc pm an cdv ct) ⟨us, []⟩ = pure (d12.ps.zip us) := match us, h with | [_, _], _ => rfl
theorem sc18 : FnScope d18.N d18.ps d18.scope := ⟨rfl, rfl, rfl, by decide +kernel, rfl, by decide +kernel, by decide +kernel⟩
theorem bd18 (kV doc pm : Value) (an : Option Addr) (cdv ct : Value) (us : List Value) (h : us.length = d18.ps.length) : bindArgs (PySem.W.fnOf d18.name d18.name d18.params d18.body d18.scope .none kV doc pm an cdv ct) ⟨us, []⟩ = pure (d18.ps.zip us) := match us, h with | [_, _], _ => rfl
theorem sc19 : FnScope d19.N d19.ps d19.scope := ⟨rfl, rfl, rfl, by decide +kernel, rfl, by decide +kernel, by decide +kernel⟩
theorem bd19 (kV doc pm : Value) (an : Option Addr) (cdv ct : Value) (us : List Value) (h : us.length = d19.ps.length) : bindArgs (PySem.W.fnOf d19.name d19.name d19.params d19.body d19.scope .none kV doc pm an cdv ct) ⟨us, []⟩ = pure (d19.ps.zip us) := match us, h with | [_], _ => rfl
theorem sc20 : FnScope d20.N d20.ps d20.scope := ⟨rfl, rfl, rfl, by decide +kernel, rfl, by decide +kernel, by decide +kernel⟩
theorem bd20 (kV doc pm : Value) (an : Option Addr) (cdv ct : Value) (us : List Value) (h : us.length = d20.ps.length) : bindArgs (PySem.W.fnOf d20.name d20.name d20.params d20.body d20.scope .none kV doc pm an cdv ct) ⟨us, []⟩ = pure (d20.ps.zip us) := match us, h with | [_], _ => rfl
theorem sc21 : FnScope d21.N d21.ps d21.scope := ⟨rfl, rfl, rfl, by decide +kernel, rfl, by decide +kernel, by decide +kernel⟩
theorem bd21 (kV doc pm : Value) (an : Option Addr) (cdv ct : Value) (us : List Value) (h : us.length = d21.ps.length) : bindArgs (PySem.W.fnOf d21.name d21.name d21.params d21.body d21.scope .none kV doc pm an cdv ct) ⟨us, []⟩ = pure (d21.ps.zip us) := match us, h with | [_], _ => rfl
theorem sc22 : FnScope d22.N d22.ps d22.scope := ⟨rfl, rfl, rfl, by decide +kernel, rfl, by decide +kernel, by decide +kernel⟩
theorem bd22 (kV doc pm : Value) (an : Option Addr) (cdv ct : Value) (us : List Value) (h : us.length = d22.ps.length) : bindArgs (PySem.W.fnOf d22.name d22.name d22.params d22.body d22.scope .none kV doc pm an cdv ct) ⟨us, []⟩ = pure (d22.ps.zip us) := match us, h with | [_], _ => rfl
theorem sc23 : FnScope d23.N d23.ps d23.scope := ⟨rfl, rfl, rfl, by decide +kernel, rfl, by decide +kernel, by decide +kernel⟩
theorem bd23 (kV doc pm : Value) (an : Option Addr) (cdv ct : Value) (us : List Value) (h : us.length = d23.ps.length) : bindArgs (PySem.W.fnOf d23.name d23.name d23.params d23.body d23.scope .none kV doc pm an cdv ct) ⟨us, []⟩ = pure (d23.ps.zip us) := match us, h with | [_, _, _], _ => rfl
theorem sc24 : FnScope d24.N d24.ps d24.scope := ⟨rfl, rfl, rfl, by decide +kernel, rfl, by decide +kernel, by decide +kernel⟩
theorem bd24 (kV doc pm : Value) (an : Option Addr) (cdv ct : Value) (us : List Value) (h : us.length = d24.ps.length) : bindArgs (PySem.W.fnOf d24.name d24.name d24.params d24.body d24.scope .none kV doc pm an cdv ct) ⟨us, []⟩ = pure (d24.ps.zip us) := match us, h with | [_, _], _ => rfl
theorem sc25 : FnScope d25.N d25.ps d25.scope := ⟨rfl, rfl, rfl, by decide +kernel, rfl, by decide +kernel, by decide +kernel⟩
theorem bd25 (kV doc pm : Value) (an : Option Addr) (cdv ct : Value) (us : List Value) (h : us.length = d25.ps.length) : bindArgs (PySem.W.fnOf d25.name d25.name d25.params d25.body d25.scope .none kV doc pm an cdv ct) ⟨us, []⟩ = pure (d25.ps.zip us) := match us, h with | [_, _, _], _ => rfl
theorem sc26 : FnScope d26.N d26.ps d26.scope := ⟨rfl, rfl, rfl, by decide +kernel, rfl, by decide +kernel, by decide +kernel⟩
theorem bd26 (kV doc pm : Value) (an : Option Addr) (cdv ct : Value) (us : List Value) (h : us.length = d26.ps.length) : bindArgs (PySem.W.fnOf d26.name d26.name d26.params d26.body d26.scope .none kV doc pm an cdv ct) ⟨us, []⟩ = pure (d26.ps.zip us) := match us, h with | [_, _], _ => rfl
theorem sc27 : FnScope d27.N d27.ps d27.scope := ⟨rfl, rfl, rfl, by decide +kernel, rfl, by decide +kernel, by decide +kernel⟩
theorem bd27 (kV doc pm : Value) (an : Option Addr) (cdv ct : Value) (us : List Value) (h : us.length = d27.ps.length) : bindArgs (PySem.W.fnOf d27.name d27.name d27.params d27.body d27.scope .none kV doc pm an cdv ct) ⟨us, []⟩ = pure (d27.ps.zip us) := match us, h with | [_], _ => rfl
theorem sc28 : FnScope d28.N d28.ps d28.scope := ⟨rfl, rfl, rfl, by decide +kernel, rfl, by decide +kernel, by decide +kernel⟩
theorem bd28 (kV doc pm : Value) (an : Option Addr) (cdv ct : Value) (us : List Value) (h : us.length = d28.ps.length) : bindArgs (PySem.W.fnOf d28.name d28.name d28.params d28.body d28.scope .none kV doc pm an cdv ct) ⟨us, []⟩ = pure (d28.ps.zip us) := match us, h with | [_], _ => rfl
theorem sc29 : FnScope d29.N d29.ps d29.scope := ⟨rfl, rfl, rfl, by decide +kernel, rfl, by decide +kernel, by decide +kernel⟩
theorem bd29 (kV doc pm : Value) (an : Option Addr) (cdv ct : Value) (us : List Value) (h : us.length = d29.ps.length) : bindArgs (PySem.W.fnOf d29.name d29.name d29.params d29.body d29.scope .none kV doc pm an cdv ct) ⟨us, []⟩ = pure (d29.ps.zip us) := match us, h with | [_, _], _ => rfl
theorem sc30 : FnScope d30.N d30.ps d30.scope := ⟨rfl, rfl, rfl, by decide +kernel, rfl, by decide +kernel, by decide +kernel⟩
theorem bd30 (kV doc pm : Value) (an : Option Addr) (cdv ct : Value) (us : List Value) (h : us.length = d30.ps.length) : bindArgs (PySem.W.fnOf d30.name d30.name d30.params d30.body d30.scope .none kV doc pm an cdv ct) ⟨us, []⟩ = pure (d30.ps.zip us) := match us, h with | [_, _], _ => rfl
theorem sc32 : FnScope d32.N d32.ps d32.scope := ⟨rfl, rfl, rfl, by decide +kernel, rfl, by decide +kernel, by decide +kernel⟩
theorem bd32 (kV doc pm : Value) (an : Option Addr) (cdv ct : Value) (us : List Value) (h : us.length = d32.ps.length) : bindArgs (PySem.W.fnOf d32.name d32.name d32.params d32.body d32.scope .none kV doc pm an cdv ct) ⟨us, []⟩ = pure (d32.ps.zip us) := match us, h with | [_], _ => rfl
theorem sc33 : FnScope d33.N d33.ps d33.scope := ⟨rfl, rfl, rfl, by decide +kernel, rfl, by decide +kernel, by decide +kernel⟩
theorem bd33 (kV doc pm : Value) (an : Option Addr) (cdv ct : Value) (us : List Value) (h : us.length = d33.ps.length) : bindArgs (PySem.W.fnOf d33.name d33.name d33.params d33.body d33.scope .none kV doc pm an cdv ct) ⟨us, []⟩ = pure (d33.ps.zip us) := match us, h with | [_, _], _ => rfl
theorem sc34 : FnScope d34.N d34.ps d34.scope := ⟨rfl, rfl, rfl, by decide +kernel, rfl, by decide +kernel, by decide +kernel⟩
theorem bd34 (kV doc pm : Value) (an : Option Addr) (cdv ct : Value) (us : List Value) (h : us.length = d34.ps.length) : bindArgs (PySem.W.fnOf d34.name d34.name d34.params d34.body d34.scope .none kV doc pm an cdv ct) ⟨us, []⟩ = pure (d34.ps.zip us) := match us, h with | [_, _], _ => rfl
theorem sc35 : FnScope d35.N d35.ps d35.scope := ⟨rfl, rfl, rfl, by decide +kernel, rfl, by decide +kernel, by decide +kernel⟩
theorem bd35 (kV doc pm : Value) (an : Option Addr) (cdv ct : Value) (us : List Value) (h : us.length = d35.ps.length) : bindArgs (PySem.W.fnOf d35.name d35.name d35.params d35.body d35.scope .none kV doc pm an cdv ct) ⟨us, []⟩ = pure (d35.ps.zip us) := match us, h with | [_], _ => rfl
theorem sc36 : FnScope d36.N d36.ps d36.scope := ⟨rfl, rfl, rfl, by decide +kernel, rfl, by decide +kernel, by decide +kernel⟩
theorem bd36 (kV doc pm : Value) (an : Option Addr) (cdv ct : Value) (us : List Value) (h : us.length = d36.ps.length) : bindArgs (PySem.W.fnOf d36.name d36.name d36.params d36.body d36.scope .none kV doc pm an cdv ct) ⟨us, []⟩ = pure (d36.ps.zip us) := match us, h with | [_, _], _ => rfl
theorem sc37 : FnScope d37.N d37.ps d37.scope := ⟨rfl, rfl, rfl, by decide +kernel, rfl, by decide +kernel, by decide +kernel⟩
theorem bd37 (kV doc pm : Value) (an : Option Addr) (cdv ct : Value) (us : List Value) (h : us.length = d37.ps.length) : bindArgs (PySem.W.fnOf d37.name d37.name d37.params d37.body d37.scope .none kV doc pm an cdv ct) ⟨us, []⟩ = pure (d37.ps.zip us) := match us, h with | [_, _, _], _ => rfl
theorem sc38 : FnScope d38.N d38.ps d38.scope := ⟨rfl, rfl, rfl, by decide +kernel, rfl, by decide +kernel, by decide +kernel⟩
theorem bd38 (kV doc pm : Value) (an : Option Addr) (cdv ct : Value) (us : List Value) (h : us.length = d38.ps.length) : bindArgs (PySem.W.fnOf d38.name d38.name d38.params d38.body d38.scope .none kV doc pm an cdv ct) ⟨us, []⟩ = pure (d38.ps.zip us) := match us, h with | [_, _, _], _ => rfl
theorem sc39 : FnScope d39.N d39.ps d39.scope := ⟨rfl, rfl, rfl, by decide +kernel, rfl, by decide +kernel, by decide +kernel⟩
theorem bd39 (kV doc pm : Value) (an : Option Addr) (cdv ct : Value) (us : List Value) (h : us.length = d39.ps.length) : bindArgs (PySem.W.fnOf d39.name d39.name d39.params d39.body d39.scope .none kV doc pm an cdv ct) ⟨us, []⟩ = pure (d39.ps.zip us) := match us, h with | [_, _], _ => rfl
theorem sc40 : FnScope d40.N d40.ps d40.scope := ⟨rfl, rfl, rfl, by decide +kernel, rfl, by decide +kernel, by decide +kernel⟩
theorem bd40 (kV doc pm : Value) (an : Option Addr) (cdv ct : Value) (us : List Value) (h : us.length = d40.ps.length) : bindArgs (PySem.W.fnOf d40.name d40.name d40.params d40.body d40.scope .none kV doc pm an cdv ct) ⟨us, []⟩ = pure (d40.ps.zip us) := match us, h with | [], _ => rfl
theorem sc41 : FnScope d41.N d41.ps d41.scope := ⟨rfl, rfl, rfl, by decide +kernel, rfl, by decide +kernel, by decide +kernel⟩
theorem bd41 (kV doc pm : Value) (an : Option Addr) (cdv ct : Value) (us : List Value) (h : us.length = d41.ps.length) : bindArgs (PySem.W.fnOf d41.name d41.name d41.params d41.body d41.scope .none kV doc pm an cdv ct) ⟨us, []⟩ = pure (d41.ps.zip us) := match us, h with | [_], _ => rfl
theorem all_defs {P : DefI → Prop} (h5 : P d5) (h6 : P d6) (h7 : P d7) (h8 : P d8) (h9 : P d9) (h10 : P d10) (h11 : P d11) (h12 : P d12) (h18 : P d18) (h19 : P d19) (h20 : P d20) (h21 : P d21) (h22 : P d22) (h23 : P d23) (h24 : P d24) (h25 : P d25) (h26 : P d26) (h27 : P d27) (h28 : P d28) (h29 : P d29) (h30 : P d30) (h32 : P d32) (h33 : P d33) (h34 : P d34) (h35 : P d35) (h36 : P d36) (h37 : P d37) (h38 : P d38) (h39 : P d39) (h40 : P d40) (h41 : P d41) : ∀ d ∈ G.defs, P d := by
  intro d hd
  have hd : d ∈ defs := hd
  unfold defs at hd
  simp only [List.mem_cons, List.not_mem_nil, or_false] at hd
  rcases hd with rfl | rfl | rfl | rfl | rfl | rfl | rfl | rfl | rfl | rfl | rfl | rfl | rfl | rfl | rfl | rfl | rfl | rfl | rfl | rfl | rfl | rfl | rfl | rfl | rfl | rfl | rfl | rfl | rfl | rfl | rfl
  all_goals assumption
theorem form : Form G := ⟨fun q hq => List.all_eq_true.mp (show (G.consts.all conB) = true from rfl) q hq, all_defs (P := fun d => FnScope d.N d.ps d.scope) sc5 sc6 sc7 sc8 sc9 sc10 sc11 sc12 sc18 sc19 sc20 sc21 sc22 sc23 sc24 sc25 sc26 sc27 sc28 sc29 sc30 sc32 sc33 sc34 sc35 sc36 sc37 sc38 sc39 sc40 sc41, all_defs (P := fun d => d.hold = true → d.dp = true) (by decide) (by decide) (by decide) (by decide) (by decide) (by decide) (by decide) (by decide) (by decide) (by decide) (by decide) (by decide) (by decide) (by decide) (by decide) (by decide) (by decide) (by decide) (by decide) (by decide) (by decide) (by decide) (by decide) (by decide) (by decide) (by decide) (by decide) (by decide) (by decide) (by decide) (by decide), fun q hq => List.all_eq_true.mp (show (G.tolds.all (toldB G)) = true from by kernel_rfl) q hq, all_defs (P := fun d => ∀ (kV doc pm : Value) (an : Option Addr) (cdv ct : Value) (us : List Value), us.length = d.ps.length → bindArgs (PySem.W.fnOf d.name d.name d.params d.body d.scope .none kV doc pm an cdv ct) ⟨us, []⟩ = pure (d.ps.zip us)) bd5 bd6 bd7 bd8 bd9 bd10 bd11 bd12 bd18 bd19 bd20 bd21 bd22 bd23 bd24 bd25 bd26 bd27 bd28 bd29 bd30 bd32 bd33 bd34 bd35 bd36 bd37 bd38 bd39 bd40 bd41⟩
end K02
end Z
open PySem PySem.W PySem.Calls PyProof.Rows
theorem PySem.Challenge.cw_emustack_k02_codes_that_come_back_holds : PySem.Challenge.rw_emustack_k02_codes_that_come_back.Holds := by
  w_on; o_law
  refine HandSHeadRun.head_any (r := OpenLaw.row PySem.Challenge.rw_emustack_k02_codes_that_come_back) (q := view (OpenLaw.row PySem.Challenge.rw_emustack_k02_codes_that_come_back).prog [41]) (H := Z.K02.hk) (ob := Z.K02.ob) (M := 20000) (loose := Z.K02.loose) (d := HandSHeadRun.topDef (OpenLaw.row PySem.Challenge.rw_emustack_k02_codes_that_come_back).prog 41) (kwd := []) Z.K02.ob_eq
    (by kernel_rfl) (fun s => by kernel_rfl) Z.K02.run (by kernel_rfl) (by kernel_rfl) (by kernel_rfl) (by rfl) (by first | assumption | decide +kernel) (by decide +kernel) ⟨rfl, rfl, rfl, rfl, rfl, by decide +kernel⟩ ?hw ?hc
  case hw => w_witness2
  case hc =>
    refine LamX.walk_ofTsE (l := PySem.Challenge.rw_emustack_k02_codes_that_come_back) (n := 63) (k := 8 * (9 + 1)) (x := "script") (CX := fun w => Z.CXM PySem.Challenge.rw_emustack_k02_codes_that_come_back.prog w) rfl (by decide) (by kernel_rfl) ⟨rfl, by decide, by decide⟩ ?F (fun w H s e s' z => by
      rcases z with z | z
      · obtain ⟨_, _, _, _, _, _, _, _, _, _, _, _, q⟩ := z
        exact q.2
      · obtain ⟨_, _, _, _, _, _, _, _, _, _, _, _, q⟩ := z
        exact q.2)
    intro w mg fa h Y N hmg0
    obtain ⟨K, KX, c⟩ := Y
    have hmg : mg (Z.K02.d41).name = some (.ref fa) := by
      have e : (HandSHeadRun.topDef (OpenLaw.row PySem.Challenge.rw_emustack_k02_codes_that_come_back).prog 41).name = Z.K02.d41.name := by kernel_rfl
      rw [← e]
      exact hmg0
    exact ⟨K, KX, Z.law_at (d := Z.K02.d41) (i := 30) Z.K02.form rfl rfl KX N hmg c fun ns hl hb => Z.K02.law_true ns⟩

