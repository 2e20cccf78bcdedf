import PyProof.Rows.All
import Wide.All
import OpenK.AllK
import Wide.FinOn
import HandS.ForMost
import HandS.Lambda
import HandS.AnyAll
import HandS.TupAny
import HandS.TupMul
import HandS.Style
import HandS.Deep
import HandS.FStr
import HandS.Wide
import HandS.Flow
import HandS.ForExc
import HandS.Zip
import KE.GoesMore
import HandS.TryOnly
import HandS.Defaults
import HandS.ExcOwn
import KE.KTupSum
import HandS.StrMore
import HandS.Comp
import HandS.GenList
import PyProof.TupleOfGen
import PyProof.Draws
import PyProof.ExcBaseAll.ValueError
import HandS.Head0
import HandS.Head1
import HandS.Head2
import HandS.HeadHook1
import HandS.HeadHook2
import HandS.HeadHook3
import HandS.HeadHook4
import HandS.HeadWalk
import HandS.EndTab
import HandS.Words
import PySem.Challenge.RW_emustack_k01_words_of_bits
set_option Elab.async false
set_option linter.all false
set_option maxRecDepth 100000
/-! Z1: values, the store, outcomes; the operators by values. -/
namespace Z
open PySem

/-- a lambda that captures nothing -/
structure LamI where
  qual : Str
  params : Arguments
  body : Expr
  scope : Scope
/-- a value: pure trees (tuples, lists that are never changed), references into the store, lambdas of the frame -/
inductive D where
  | non | bl (b : Bool) | int (i : Int) | str (x : Str)
  | tup (xs : List D) | lst (xs : List D)
  | ref (n : Nat) | lam (li : LamI)
  /-- the script: a list that is only read -/
  | scr (xs : List D)
  deriving Inhabited
abbrev Key := L2.Key
/-- what stands in the store -/
inductive Ob where
  | dead
  | lst (xs : List D)
  | dct (kvs : List (Key × D))
  | ins (c : Nat) (fs : List (Nat × D))
  deriving Inhabited
abbrev Sto := List Ob
abbrev Env := List (Option D)
/-- how an evaluation ends: a value, an exception of the class c, or nothing is known -/
inductive R (α : Type) where
  | ok (a : α) (s : Sto)
  | exc (c : Nat) (s : Sto)
  | bad
def R.bind {α β : Type} : R α → (α → Sto → R β) → R β
  | .ok a s, f => f a s
  | .exc c s, _ => .exc c s
  | .bad, _ => .bad
@[simp] theorem R.bind_ok {α β : Type} (a : α) (s : Sto) (f : α → Sto → R β) : (R.ok a s).bind f = f a s := rfl
@[simp] theorem R.bind_exc {α β : Type} (c : Nat) (s : Sto) (f : α → Sto → R β) : (R.exc c s : R α).bind f = .exc c s := rfl
@[simp] theorem R.bind_bad {α β : Type} (f : α → Sto → R β) : (R.bad : R α).bind f = .bad := rfl

abbrev line : Nat := 16777216
abbrev ME := Env → Sto → R D
abbrev MB := Env → Sto → R Bool
abbrev MA := Env → Sto → R (List D)
/-- a statement's end -/
inductive Out where
  | nx (e : Env) (s : Sto)
  | rt (d : D) (s : Sto)
  | bk (e : Env) (s : Sto)
  | ct (e : Env) (s : Sto)
  | ex (c : Nat) (e : Env) (s : Sto)
  | bad
abbrev MS := Env → Sto → Out

/-! ### texts -/
def seq (x y : Str) : Bool := x.cps.toList == y.cps.toList
theorem seq_iff {x y : Str} : seq x y = true ↔ x = y := by
  unfold seq
  rw [beq_iff_eq]
  exact ⟨fun h => by
    obtain ⟨a⟩ := x
    obtain ⟨b⟩ := y
    exact congrArg Str.mk (Array.ext' h), fun h => by rw [h]⟩
def mkS (l : List Nat) : Str := ⟨l.toArray⟩
@[simp] theorem mkS_cps (l : List Nat) : (mkS l).cps.toList = l := by simp [mkS]

/-! ### reading through the store -/
def atS (n : Nat) (s : Sto) : Option (List D) := match s[n]? with
  | some (.lst xs) => some xs
  | _ => none
/-- the items of a list or tuple -/
def seqOf (d : D) (s : Sto) : Option (List D) := match d with
  | .tup xs => some xs
  | .scr xs => some xs
  | .lst xs => some xs
  | .ref n => atS n s
  | _ => none
def lstOf (d : D) (s : Sto) : Option (List D) := match d with
  | .lst xs => some xs
  | .ref n => atS n s
  | _ => none
/-- truth -/
def truth (d : D) (s : Sto) : Option Bool := match d with
  | .non => some false
  | .bl b => some b
  | .int i => some (i != 0)
  | .str x => if x.length ≤ line then some (!x.cps.toList.isEmpty) else none
  | .tup xs => some (!xs.isEmpty)
  | .lst xs => some (!xs.isEmpty)
  | .ref n => (match s[n]? with | some (.lst xs) => some (!xs.isEmpty) | some (.dct kvs) => some (!kvs.isEmpty) | _ => none)
  | .lam _ => none
  | .scr xs => some (!xs.isEmpty)
def optAll {α β : Type} (f : α → Option β) : List α → Option (List β)
  | [] => some []
  | a :: r => match f a, optAll f r with
    | some b, some bs => some (b :: bs)
    | _, _ => none
def strB (x : Str) : Bool := x.cps.toList.all fun c => decide (c < 1114112)
/-- the data of a value, lists of the store read -/
def pyOf (s : Sto) : Nat → D → Option PyData
  | 0, _ => none
  | k + 1, d => match d with
    | .non => some .none
    | .bl b => some (.bool b)
    | .int i => some (.int i)
    | .str x => if strB x then some (.str x) else none
    | .tup xs => (optAll (pyOf s k) xs).map .tuple
    | .lst xs => (optAll (pyOf s k) xs).map .list
    | .ref n => (match atS n s with | some xs => (optAll (pyOf s k) xs).map .list | none => none)
    | .lam _ => none
    | .scr _ => none
/-- does a value name nothing of the store -/
def pure? : Nat → D → Bool
  | 0, _ => false
  | k + 1, d => match d with
    | .tup xs => xs.all (pure? k)
    | .lst xs => xs.all (pure? k)
    | .ref _ => false
    | .lam _ => false
    | .scr xs => xs.all (pure? k)
    | _ => true

/-! ### operators by values -/
/-- no exception comes of these -/
abbrev O1 := Option (D × Sto)
abbrev B2 := D → D → Sto → O1
abbrev B1 := D → Sto → O1
/-- a new list: in the store, or never changed -/
def mkL (m : Bool) (xs : List D) (s : Sto) : O1 := if xs.length ≤ line then (if m then some ((.ref s.length), (s ++ [.lst xs])) else some ((.lst xs), s)) else none
def mkT (xs : List D) (s : Sto) : O1 := if xs.length ≤ line then some ((.tup xs), s) else none
def big (i : Int) : Bool := decide (-(2 ^ 64) < i ∧ i < 2 ^ 64)
def opAdd (m : Bool) : B2 := fun x y s => match x, y with
  | .int i, .int j => some ((.int (i + j)), s)
  | .str i, .str j => if i.length + j.length ≤ line then some ((.str (i ++ j)), s) else none
  | .tup xs, .tup ys => mkT (xs ++ ys) s
  | x, y => match lstOf x s, lstOf y s with
    | some xs, some ys => mkL m (xs ++ ys) s
    | _, _ => none
def opSub : B2 := fun x y s => match x, y with
  | .int i, .int j => some ((.int (i - j)), s)
  | _, _ => none
def rep (xs : List D) (k : Int) : List D := (List.replicate k.toNat xs).flatten
def opMul (m : Bool) : B2 := fun x y s => match x, y with
  | .int i, .int j => if big i || big j then some ((.int (i * j)), s) else none
  | .tup xs, .int k => if decide (2 ≤ k ∧ k ≤ 1000) && decide (xs.length ≤ 1000) && !xs.isEmpty then mkT (rep xs k) s else none
  | x, .int k => (match lstOf x s with
    | some xs => if decide (-(2 ^ 63) ≤ k ∧ k < 2 ^ 63) && decide (xs.length * k.toNat ≤ line) then mkL m (rep xs k) s else none
    | none => none)
  | _, _ => none
def opFdiv : B2 := fun x y s => match x, y with
  | .int i, .int j => if 0 < j ∧ j < 1073741824 then some ((.int (i / j)), s) else none
  | _, _ => none
def opMod : B2 := fun x y s => match x, y with
  | .int i, .int j => if 0 < j then some ((.int (i % j)), s) else none
  | _, _ => none
def opPow : B2 := fun x y s => match x, y with
  | .int i, .int j => if 0 ≤ j ∧ j ≤ 1000000 ∧ i.natAbs < 2 ^ 64 then some ((.int (i ^ j.toNat)), s) else none
  | _, _ => none
def opBin (m : Bool) : Operator → B2
  | .Add => opAdd m
  | .Sub => opSub
  | .Mult => opMul m
  | .FloorDiv => opFdiv
  | .Mod => opMod
  | .Pow => opPow
  | _ => fun _ _ _ => none
def unNeg : B1 := fun x s => match x with
  | .int i => some ((.int (-i)), s)
  | _ => none
/-! comparisons -/
def opEq (neg : Bool) : B2 := fun x y s => match pyOf s 12 x, pyOf s 12 y with
  | some a, some b => some ((.bl (xor neg (PyData.eqv a b))), s)
  | _, _ => none
def lexB (lt : PyData → PyData → Option Bool) : List PyData → List PyData → Option Bool
  | [], [] => some false
  | [], _ :: _ => some true
  | _ :: _, [] => some false
  | x :: xs, y :: ys => if PyData.eqv x y then lexB lt xs ys else lt x y
def opCmp (f : Int → Int → Bool) : B2 := fun x y s => match x, y with
  | .int i, .int j => some ((.bl (f i j)), s)
  | _, _ => none
def isFlat : D → Bool
  | .non | .bl _ | .int _ | .str _ => true
  | _ => false
/-- x in y -/
def opIn (neg : Bool) : B2 := fun x y s => match y with
  | .str z => (match x with
    | .str w => (match w.cps.toList with
      | [c] => some ((.bl (xor neg (decide (c ∈ z.cps.toList)))), s)
      | _ => none)
    | _ => none)
  | y => match pyOf s 12 x, pyOf s 12 y with
    | some a, some (.list bs) => some ((.bl (xor neg (bs.any fun z => PyData.eqv z a))), s)
    | some a, some (.tuple bs) => some ((.bl (xor neg (bs.any fun z => PyData.eqv z a))), s)
    | _, _ => none
def isNon : D → Bool
  | .non => true
  | _ => false
def opIs (neg : Bool) : B2 := fun x y s => match y with
  | .non => some ((.bl (xor neg (isNon x))), s)
  | _ => none
def opC : CmpOp → B2
  | .Eq => opEq false
  | .NotEq => opEq true
  | .Lt => opCmp fun i j => decide (i < j)
  | .LtE => opCmp fun i j => decide (i ≤ j)
  | .Gt => opCmp fun i j => decide (j < i)
  | .GtE => opCmp fun i j => decide (j ≤ i)
  | .Is => opIs false
  | .IsNot => opIs true
  | .In => opIn false
  | .NotIn => opIn true
/-! subscripts -/
def opIx : B2 := fun x y s => match y with
  | .int i => (match x with
    | .str z => if z.length ≤ line then (match L2.atI z.cps.toList i with | some c => some ((.str ⟨#[c]⟩), s) | none => none) else none
    | x => match seqOf x s with
      | some xs => (match L2.atI xs i with | some v => some (v, s) | none => none)
      | none => none)
  | _ => none
def cutD {α : Type} (xs : List α) (lo hi : Option Int) : List α := (xs.drop (HT.sIx xs.length 0 lo)).take (HT.sIx xs.length xs.length hi - HT.sIx xs.length 0 lo)
def opSl (m : Bool) (x : D) (lo hi : Option Int) (s : Sto) : O1 := match x with
  | .str z => if z.length ≤ line then some ((.str (mkS (cutD z.cps.toList lo hi))), s) else none
  | .tup xs => some ((.tup (cutD xs lo hi)), s)
  | .scr xs => mkL m (cutD xs lo hi) s
  | x => match lstOf x s with
    | some xs => mkL m (cutD xs lo hi) s
    | none => none
/-- x[::-1] -/
def opRev (m : Bool) : B1 := fun x s => match x with
  | .tup xs => some ((.tup xs.reverse), s)
  | x => match lstOf x s with
    | some xs => mkL m xs.reverse s
    | none => none
end Z

set_option Elab.async false
set_option linter.all false
set_option maxRecDepth 100000
/-! Z2: how values stand in the abstract heap. -/
namespace Z
open PySem PySem.Spec PyProof.Rows L2
/-- what is known for good: things that never change; where the store's things stand -/
structure Wd where
  fz : Hp
  io : List Addr
/-- the function object of a lambda -/
def LamO (f : Addr) (li : LamI) (c' : Addr) (pm ctv : Value) : HO := .ext fun h => h.get? f = some (PySem.W.kla_obj "<lambda>" li.qual li.params li.body li.scope [] pm c' ctv)
mutual
def RelD (K : PySem.W.Frag) (W : Wd) : D → V → Prop
  | .non, v => v = .non
  | .bl b, v => v = .bl b
  | .int i, v => v = .int i
  | .str x, v => v = .str x
  | .tup ds, v => ∃ a vs, v = .ref a ∧ SqT K W.fz a vs ∧ RelDs K W ds vs
  | .lst ds, v => ∃ a vs, v = .ref a ∧ W.fz a = some (.lst vs) ∧ RelDs K W ds vs
  | .scr ds, v => ∃ a vs, v = .ref a ∧ SqL K W.fz a vs ∧ RelDs K W ds vs
  | .ref n, v => ∃ a, v = .ref a ∧ W.io[n]? = some a
  | .lam li, v => ∃ f c' pm ctv, v = .ref f ∧ W.fz f = some (LamO f li c' pm ctv) ∧ W.fz c' = some (LamX.CodeO c' li.qual)
def RelDs (K : PySem.W.Frag) (W : Wd) : List D → List V → Prop
  | [], vs => vs = []
  | d :: ds, vs => ∃ v r, vs = v :: r ∧ RelD K W d v ∧ RelDs K W ds r
end
/-- more is known -/
structure Wd.le (W W' : Wd) : Prop where
  fz : ∀ a o, W.fz a = some o → W'.fz a = some o
  io : ∃ l, W'.io = W.io ++ l
theorem Wd.le.refl (W : Wd) : W.le W := ⟨fun _ _ h => h, [], by simp⟩
theorem Wd.le.trans {W W1 W2 : Wd} (a : W.le W1) (b : W1.le W2) : W.le W2 := by
  refine ⟨fun x o h => b.fz x o (a.fz x o h), ?_⟩
  obtain ⟨l, e⟩ := a.io
  obtain ⟨m, f⟩ := b.io
  exact ⟨l ++ m, by rw [f, e, List.append_assoc]⟩
theorem Wd.le.at {W W' : Wd} (h : W.le W') {n : Nat} {a : Addr} (e : W.io[n]? = some a) : W'.io[n]? = some a := by
  obtain ⟨l, f⟩ := h.io
  rw [f, List.getElem?_append_left (List.getElem?_eq_some_iff.mp e).1]
  exact e
theorem seqT_mono {K : PySem.W.Frag} {H H' : Hp} {a : Addr} {xs : List V} (e : ∀ a o, H a = some o → H' a = some o) (h : SqT K H a xs) : SqT K H' a xs := by
  rcases h with (h | ⟨o, h⟩) | h
  · exact .inl (.inl (e _ _ h))
  · exact .inl (.inr ⟨o, e _ _ h⟩)
  · exact .inr h
theorem seqL_mono {K : PySem.W.Frag} {H H' : Hp} {a : Addr} {xs : List V} (e : ∀ a o, H a = some o → H' a = some o) (h : SqL K H a xs) : SqL K H' a xs := by
  rcases h with (h | ⟨o, h⟩) | h
  · exact .inl (.inl (e _ _ h))
  · exact .inl (.inr ⟨o, e _ _ h⟩)
  · exact .inr h
theorem rd_mono {H H' : Hp} {a : Addr} {o : HO} (e : ∀ a o, H a = some o → H' a = some o) (h : Rd H a o) : Rd H' a o := by
  rcases h with h | ⟨u, h⟩
  · exact .inl (e _ _ h)
  · exact .inr ⟨u, e _ _ h⟩
mutual
theorem RelD.mono {K : PySem.W.Frag} {W W' : Wd} (l : W.le W') : ∀ {d : D} {v : V}, RelD K W d v → RelD K W' d v
  | .non, _, h => h
  | .bl _, _, h => h
  | .int _, _, h => h
  | .str _, _, h => h
  | .tup ds, v, h => by
    unfold RelD at h ⊢
    obtain ⟨a, vs, e, s, r⟩ := h
    exact ⟨a, vs, e, seqT_mono l.fz s, RelDs.mono l r⟩
  | .lst ds, v, h => by
    unfold RelD at h ⊢
    obtain ⟨a, vs, e, s, r⟩ := h
    exact ⟨a, vs, e, l.fz _ _ s, RelDs.mono l r⟩
  | .scr ds, v, h => by
    unfold RelD at h ⊢
    obtain ⟨a, vs, e, s, r⟩ := h
    exact ⟨a, vs, e, seqL_mono l.fz s, RelDs.mono l r⟩
  | .ref n, v, h => by
    unfold RelD at h ⊢
    obtain ⟨a, e, i⟩ := h
    exact ⟨a, e, l.at i⟩
  | .lam li, v, h => by
    unfold RelD at h ⊢
    obtain ⟨f, c', pm, ctv, e, a, b⟩ := h
    exact ⟨f, c', pm, ctv, e, l.fz _ _ a, l.fz _ _ b⟩
theorem RelDs.mono {K : PySem.W.Frag} {W W' : Wd} (l : W.le W') : ∀ {ds : List D} {vs : List V}, RelDs K W ds vs → RelDs K W' ds vs
  | [], _, h => h
  | d :: ds, vs, h => by
    unfold RelDs at h ⊢
    obtain ⟨v, r, e, h1, h2⟩ := h
    exact ⟨v, r, e, RelD.mono l h1, RelDs.mono l h2⟩
end
theorem relDs_nil {K : PySem.W.Frag} {W : Wd} : RelDs K W [] [] := by unfold RelDs; rfl
theorem relDs_cons {K : PySem.W.Frag} {W : Wd} {d : D} {ds : List D} {v : V} {vs : List V} (h : RelD K W d v) (t : RelDs K W ds vs) : RelDs K W (d :: ds) (v :: vs) := by
  unfold RelDs
  exact ⟨v, vs, rfl, h, t⟩
theorem relDs_iff {K : PySem.W.Frag} {W : Wd} : ∀ {ds : List D} {vs : List V}, RelDs K W ds vs ↔ Paired (RelD K W) ds vs
  | [], vs => by
    unfold RelDs
    exact ⟨fun h => by rw [h]; exact .nil, fun h => by cases h; rfl⟩
  | d :: ds, vs => by
    unfold RelDs
    exact ⟨fun ⟨v, r, e, h1, h2⟩ => by rw [e]; exact .cons h1 (relDs_iff.mp h2), fun h => by
      cases h with
      | cons h1 h2 => exact ⟨_, _, rfl, h1, relDs_iff.mpr h2⟩⟩
theorem RelDs.length {K : PySem.W.Frag} {W : Wd} {ds : List D} {vs : List V} (h : RelDs K W ds vs) : ds.length = vs.length := Paired.length (relDs_iff.mp h)
theorem RelDs.get {K : PySem.W.Frag} {W : Wd} : ∀ {ds : List D} {vs : List V} {i : Nat} {d : D}, RelDs K W ds vs → ds[i]? = some d → ∃ v, vs[i]? = some v ∧ RelD K W d v
  | [], _, _, _, _, e => by simp at e
  | d :: ds, vs, 0, x, h, e => by
    unfold RelDs at h
    obtain ⟨v, r, rfl, h1, h2⟩ := h
    simp only [List.getElem?_cons_zero, Option.some.injEq] at e
    subst e
    exact ⟨v, rfl, h1⟩
  | d :: ds, vs, i + 1, x, h, e => by
    unfold RelDs at h
    obtain ⟨v, r, rfl, h1, h2⟩ := h
    simp only [List.getElem?_cons_succ] at e
    obtain ⟨u, a, b⟩ := RelDs.get h2 e
    exact ⟨u, by simpa using a, b⟩
theorem RelDs.getV {K : PySem.W.Frag} {W : Wd} {ds : List D} {vs : List V} {i : Nat} {v : V} (h : RelDs K W ds vs) (e : vs[i]? = some v) : ∃ d, ds[i]? = some d ∧ RelD K W d v := by
  have hi : i < ds.length := by rw [h.length]; exact (List.getElem?_eq_some_iff.mp e).1
  obtain ⟨u, a, b⟩ := h.get (List.getElem?_eq_getElem hi)
  rw [e] at a
  cases a
  exact ⟨_, List.getElem?_eq_getElem hi, b⟩
theorem RelDs.append {K : PySem.W.Frag} {W : Wd} : ∀ {ds es : List D} {vs us : List V}, RelDs K W ds vs → RelDs K W es us → RelDs K W (ds ++ es) (vs ++ us)
  | [], _, vs, _, h, h2 => by
    unfold RelDs at h
    subst h
    exact h2
  | d :: ds, es, vs, us, h, h2 => by
    unfold RelDs at h
    obtain ⟨v, r, rfl, h1, h3⟩ := h
    exact relDs_cons h1 (h3.append h2)
theorem RelDs.take {K : PySem.W.Frag} {W : Wd} : ∀ {ds : List D} {vs : List V} (n : Nat), RelDs K W ds vs → RelDs K W (ds.take n) (vs.take n)
  | _, _, 0, _ => by simp only [List.take_zero]; exact relDs_nil
  | [], vs, n + 1, h => by
    unfold RelDs at h
    subst h
    exact relDs_nil
  | d :: ds, vs, n + 1, h => by
    unfold RelDs at h
    obtain ⟨v, r, rfl, h1, h3⟩ := h
    exact relDs_cons h1 (h3.take n)
theorem RelDs.drop {K : PySem.W.Frag} {W : Wd} : ∀ {ds : List D} {vs : List V} (n : Nat), RelDs K W ds vs → RelDs K W (ds.drop n) (vs.drop n)
  | _, _, 0, h => h
  | [], vs, n + 1, h => by
    unfold RelDs at h
    subst h
    exact relDs_nil
  | d :: ds, vs, n + 1, h => by
    unfold RelDs at h
    obtain ⟨v, r, rfl, h1, h3⟩ := h
    exact h3.drop n
theorem RelDs.set {K : PySem.W.Frag} {W : Wd} {d : D} {v : V} (hd : RelD K W d v) : ∀ {ds : List D} {vs : List V} (n : Nat), RelDs K W ds vs → RelDs K W (ds.set n d) (vs.set n v)
  | [], vs, n, h => by
    unfold RelDs at h
    subst h
    exact relDs_nil
  | _ :: ds, vs, 0, h => by
    unfold RelDs at h
    obtain ⟨u, r, rfl, h1, h3⟩ := h
    exact relDs_cons hd h3
  | _ :: ds, vs, n + 1, h => by
    unfold RelDs at h
    obtain ⟨u, r, rfl, h1, h3⟩ := h
    exact relDs_cons h1 (RelDs.set hd n h3)
theorem RelDs.reverse {K : PySem.W.Frag} {W : Wd} : ∀ {ds : List D} {vs : List V}, RelDs K W ds vs → RelDs K W ds.reverse vs.reverse
  | [], vs, h => by
    unfold RelDs at h
    subst h
    exact relDs_nil
  | d :: ds, vs, h => by
    unfold RelDs at h
    obtain ⟨v, r, rfl, h1, h3⟩ := h
    rw [List.reverse_cons, List.reverse_cons]
    exact (RelDs.reverse h3).append (relDs_cons h1 relDs_nil)

/-- the names of fields and where the classes stand -/
structure Pl where
  K : PySem.W.Frag
  /-- the tables of code objects: of defs with lambdas (their name), of defs with generator expressions -/
  tl : List (Addr × Str)
  tg : List Addr
  xa : Nat → Addr
  ca : Nat → Addr
  fn : Nat → Str
/-- a thing of the store stands at a -/
def RepO (p : Pl) (W : Wd) (H : Hp) (a : Addr) : Ob → Prop
  | .dead => True
  | .lst ds => W.fz a = none ∧ ∃ vs, H a = some (.lst vs) ∧ RelDs p.K W ds vs
  | .dct kvs => W.fz a = none ∧ ∃ kws, H a = some (.dK kws) ∧ Paired (fun (x : Key × D) (y : L2.Key × V) => x.1 = y.1 ∧ RelD p.K W x.2 y.2) kvs kws
  | .ins c fs => W.fz a = none ∧ ∃ dx kws, H a = some (.ins (p.ca c) dx kws) ∧ Paired (fun (x : Nat × D) (y : Str × V) => p.fn x.1 = y.1 ∧ RelD p.K W x.2 y.2) fs kws
def isSt : HO → Bool
  | .lst _ | .dK _ | .dT _ | .ins _ _ _ => true
  | _ => false
structure TabI (p : Pl) (H : Hp) : Prop where
  tl : LamX.Tabs p.tl H
  tg : ∀ P ∈ p.tg, GxR.TabG H P
theorem TabI.ext {p : Pl} {H H' : Hp} (t : TabI p H) (e : ∀ b o, H b = some o → H' b = some o) : TabI p H' := ⟨t.tl.ext e, fun P hP => by
  obtain ⟨ps, h1, h2⟩ := t.tg P hP
  exact ⟨ps, e _ _ h1, h2⟩⟩
theorem TabI.put {p : Pl} {H : Hp} {a : Addr} {o u : HO} (t : TabI p H) (h : H a = some o) (hs : isSt o = true) : TabI p (upd H a u) := by
  refine ⟨fun q hq => ?_, fun P hP => ?_⟩
  · obtain ⟨ps, h1, h2, h3⟩ := t.tl q hq
    refine ⟨ps, by rw [upd_ne (ne_of h1 h (by rintro rfl; cases hs))]; exact h1, h2, fun pos cv hc => ?_⟩
    obtain ⟨c, e1, e2⟩ := h3 pos cv hc
    exact ⟨c, e1, by rw [upd_ne (ne_of e2 h (by rintro rfl; cases hs))]; exact e2⟩
  · obtain ⟨ps, h1, h2⟩ := t.tg P hP
    exact ⟨ps, by rw [upd_ne (ne_of h1 h (by rintro rfl; cases hs))]; exact h1, h2⟩
structure Rep (p : Pl) (W : Wd) (s : Sto) (H : Hp) : Prop where
  tab : TabI p H
  fz : ∀ a o, W.fz a = some o → H a = some o
  nt : ∀ a ps, W.fz a ≠ some (.tbl ps)
  len : W.io.length = s.length
  nd : W.io.Nodup
  tr : ∀ b ∈ W.io, H b ≠ none
  obs : ∀ (n : Nat) (ob : Ob) (a : Addr), s[n]? = some ob → W.io[n]? = some a → RepO p W H a ob
/-- the heap but for the store's things and tables is kept; what is newly known for good was not there, or was the store's -/
structure Fr (W W' : Wd) (H H' : Hp) : Prop where
  keep : ∀ b o, H b = some o → b ∉ W.io → (∀ ps, o ≠ .tbl ps) → H' b = some o
  sm : ∀ b, H b ≠ none → H' b ≠ none
  new : ∀ a, W'.fz a ≠ none → W.fz a ≠ none ∨ H a = none ∨ a ∈ W.io ∨ ∃ o, H a = some o ∧ isSt o = false
  io : ∀ a, a ∈ W'.io → a ∈ W.io ∨ H a = none
theorem Fr.refl (W : Wd) (H : Hp) : Fr W W H H := ⟨fun _ _ h _ _ => h, fun _ h => h, fun _ h => .inl h, fun _ h => .inl h⟩
theorem Fr.trans {W W1 W2 : Wd} {H H1 H2 : Hp} (a : Fr W W1 H H1) (b : Fr W1 W2 H1 H2) : Fr W W2 H H2 := by
  have back : ∀ x, H1 x = none → H x = none := fun x q => by
    cases e : H x with
    | none => rfl
    | some o => exact absurd q (a.sm x (by rw [e]; simp))
  have nin : ∀ x o, H x = some o → x ∉ W.io → x ∉ W1.io := fun x o e hx hm => by
    rcases a.io x hm with q | q
    · exact hx q
    · rw [e] at q; cases q
  refine ⟨fun x o e hx ht => b.keep x o (a.keep x o e hx ht) (nin x o e hx) ht, fun x h => b.sm x (a.sm x h), fun x h => ?_, fun x h => ?_⟩
  · rcases b.new x h with q | q | q | ⟨o1, q, hs⟩
    · exact a.new x q
    · exact .inr (.inl (back x q))
    · rcases a.io x q with z | z
      · exact .inr (.inr (.inl z))
      · exact .inr (.inl z)
    · cases e : H x with
      | none => exact .inr (.inl rfl)
      | some o =>
        by_cases hi : x ∈ W.io
        · exact .inr (.inr (.inl hi))
        · cases ho : isSt o with
          | false => exact .inr (.inr (.inr ⟨o, rfl, ho⟩))
          | true =>
            have e2 := a.keep x o e hi (by rintro ps rfl; cases ho)
            rw [e2] at q
            cases q
            rw [ho] at hs
            cases hs
  · rcases b.io x h with q | q
    · exact a.io x q
    · exact .inr (back x q)
/-- the state of a body: the names' values, the store, the heap -/
structure RelE (p : Pl) (W : Wd) (e : Env) (σ : L2.St) : Prop where
  len : e.length = σ.length
  at_ : ∀ (i : Nat) (d : D), e[i]? = some (some d) → ∃ v, σ[i]? = some (some v) ∧ RelD p.K W d v
theorem RelE.mono {p : Pl} {W W' : Wd} {e : Env} {σ : L2.St} (l : W.le W') (h : RelE p W e σ) : RelE p W' e σ := ⟨h.len, fun i d q => by
  obtain ⟨v, a, b⟩ := h.at_ i d q
  exact ⟨v, a, b.mono l⟩⟩
theorem RelE.set {p : Pl} {W : Wd} {e : Env} {σ : L2.St} {d : D} {v : V} (i : Nat) (h : RelE p W e σ) (hd : RelD p.K W d v) : RelE p W (e.set i (some d)) (σ.set i (some v)) := by
  refine ⟨by rw [List.length_set, List.length_set, h.len], fun j x q => ?_⟩
  by_cases hj : j = i
  · subst hj
    have hl : j < e.length := by
      have := (List.getElem?_eq_some_iff.mp q).1
      rwa [List.length_set] at this
    rw [List.getElem?_set_self hl] at q
    cases q
    exact ⟨v, by rw [List.getElem?_set_self (by rw [← h.len]; exact hl)], hd⟩
  · rw [List.getElem?_set_ne (Ne.symm hj)] at q
    obtain ⟨u, a, b⟩ := h.at_ j x q
    exact ⟨u, by rw [List.getElem?_set_ne (Ne.symm hj)]; exact a, b⟩
/-! ### the state grows -/
section
variable {p : Pl} {W : Wd} {s : Sto} {H : Hp}
/-- a new thing that never changes -/
theorem Rep.fresh {a : Addr} {o : HO} (r : Rep p W s H) (n : H a = none) (ht : ∀ ps, o ≠ .tbl ps) : ∃ W', W.le W' ∧ Fr W W' H (upd H a o) ∧ Rep p W' s (upd H a o) ∧ W'.fz a = some o := by
  have nf : W.fz a = none := by
    cases e : W.fz a with
    | none => rfl
    | some x => rw [r.fz a x e] at n; cases n
  have le : W.le ⟨upd W.fz a o, W.io⟩ := ⟨fun b x e => by
    show upd W.fz a o b = some x
    rw [upd_ne (ne_of_none e nf)]; exact e, [], by simp⟩
  refine ⟨⟨upd W.fz a o, W.io⟩, le, ⟨fun b x e _ _ => by rw [upd_ne (ne_of_none e n)]; exact e, fun b h => ?_, fun b h => ?_, fun b h => .inl h⟩, ⟨r.tab.ext fun b x e => by rw [upd_ne (ne_of_none e n)]; exact e, fun b x e => ?_, fun b ps e => ?_, r.len, r.nd, fun b hb => ?_, fun k ob b e1 e2 => ?_⟩, upd_same⟩
  · by_cases hb : b = a
    · rw [hb, upd_same]; simp
    · rw [upd_ne hb]; exact h
  · by_cases hb : b = a
    · rw [hb]; exact .inr (.inl n)
    · exact .inl (by
        have h' : upd W.fz a o b ≠ none := h
        rwa [upd_ne hb] at h')
  · have e' : upd W.fz a o b = some x := e
    by_cases hb : b = a
    · rw [hb, upd_same] at e' ⊢; exact e'
    · rw [upd_ne hb] at e' ⊢; exact r.fz b x e'
  · have e' : upd W.fz a o b = some (.tbl ps) := e
    by_cases hb : b = a
    · rw [hb, upd_same] at e'; exact ht ps (Option.some.inj e')
    · rw [upd_ne hb] at e'; exact r.nt b ps e'
  · by_cases h : b = a
    · rw [h, upd_same]; simp
    · rw [upd_ne h]; exact r.tr b hb
  · have q := r.obs k ob b e1 e2
    cases ob with
    | dead => trivial
    | lst ds =>
      obtain ⟨z, vs, h1, h2⟩ := q
      have hb := ne_of_none h1 n
      exact ⟨by show upd W.fz a o b = none; rw [upd_ne hb]; exact z, vs, by rw [upd_ne hb]; exact h1, h2.mono le⟩
    | dct kvs =>
      obtain ⟨z, vs, h1, h2⟩ := q
      have hb := ne_of_none h1 n
      exact ⟨by show upd W.fz a o b = none; rw [upd_ne hb]; exact z, vs, by rw [upd_ne hb]; exact h1, Paired.mapP h2 fun x y z => ⟨z.1, z.2.mono le⟩⟩
    | ins c fs =>
      obtain ⟨z, dx, vs, h1, h2⟩ := q
      have hb := ne_of_none h1 n
      exact ⟨by show upd W.fz a o b = none; rw [upd_ne hb]; exact z, dx, vs, by rw [upd_ne hb]; exact h1, Paired.mapP h2 fun x y z => ⟨z.1, z.2.mono le⟩⟩
/-- a thing of the store, seen from a later state in which its place is as it was -/
theorem RepO.keep {W' : Wd} {H' : Hp} {b : Addr} {ob : Ob} (l : W.le W') (hH : H' b = H b) (hz : W.fz b = none → W'.fz b = none) (q : RepO p W H b ob) : RepO p W' H' b ob := by
  cases ob with
  | dead => trivial
  | lst ds =>
    obtain ⟨z, vs, h1, h2⟩ := q
    exact ⟨hz z, vs, hH.trans h1, h2.mono l⟩
  | dct kvs =>
    obtain ⟨z, vs, h1, h2⟩ := q
    exact ⟨hz z, vs, hH.trans h1, Paired.mapP h2 fun x y z => ⟨z.1, z.2.mono l⟩⟩
  | ins c fs =>
    obtain ⟨z, dx, vs, h1, h2⟩ := q
    exact ⟨hz z, dx, vs, hH.trans h1, Paired.mapP h2 fun x y z => ⟨z.1, z.2.mono l⟩⟩
/-- a new thing of the store -/
theorem Rep.push {a : Addr} {o : HO} {ob : Ob} (r : Rep p W s H) (n : H a = none) (hb : ∀ W', W.le W' → W'.fz = W.fz → RepO p W' (upd H a o) a ob) :
    W.le ⟨W.fz, W.io ++ [a]⟩ ∧ Fr W ⟨W.fz, W.io ++ [a]⟩ H (upd H a o) ∧ Rep p ⟨W.fz, W.io ++ [a]⟩ (s ++ [ob]) (upd H a o) ∧ (⟨W.fz, W.io ++ [a]⟩ : Wd).io[s.length]? = some a := by
  have le : W.le ⟨W.fz, W.io ++ [a]⟩ := ⟨fun _ _ e => e, [a], rfl⟩
  have nin : a ∉ W.io := fun h => r.tr a h n
  have nof : W.fz a = none := by
    cases e : W.fz a with
    | none => rfl
    | some x => rw [r.fz a x e] at n; cases n
  refine ⟨le, ⟨fun b x e _ _ => by rw [upd_ne (ne_of_none e n)]; exact e, fun b h => ?_, fun b h => .inl h, fun b h => ?_⟩, ⟨r.tab.ext fun b x e => by rw [upd_ne (ne_of_none e n)]; exact e, fun b x e => ?_, r.nt, ?_, ?_, fun b h => ?_, fun k ob' b e1 e2 => ?_⟩, ?_⟩
  · by_cases hb : b = a
    · rw [hb, upd_same]; simp
    · rw [upd_ne hb]; exact h
  · rcases List.mem_append.mp h with h | h
    · exact .inl h
    · rw [List.mem_singleton.mp h]; exact .inr n
  · have e' : W.fz b = some x := e
    rw [upd_ne (ne_of_none (r.fz b x e') n)]
    exact r.fz b x e'
  · show (W.io ++ [a]).length = (s ++ [ob]).length
    rw [List.length_append, List.length_append, r.len]; rfl
  · show (W.io ++ [a]).Nodup
    exact List.nodup_append.mpr ⟨r.nd, by simp, fun x hx y hy => by rw [List.mem_singleton.mp hy]; rintro rfl; exact nin hx⟩
  · rcases List.mem_append.mp h with h | h
    · by_cases hb : b = a
      · rw [hb, upd_same]; simp
      · rw [upd_ne hb]; exact r.tr b h
    · rw [List.mem_singleton.mp h, upd_same]; simp
  · have e2' : (W.io ++ [a])[k]? = some b := e2
    by_cases hk : k < s.length
    · rw [List.getElem?_append_left hk] at e1
      rw [List.getElem?_append_left (by rw [r.len]; exact hk)] at e2'
      have hba : b ≠ a := fun z => nin (z ▸ List.mem_of_getElem? e2')
      exact (r.obs k ob' b e1 e2').keep le (upd_ne hba) (fun z => z)
    · have hk2 : k = s.length := by
        have h1 := (List.getElem?_eq_some_iff.mp e1).1
        rw [List.length_append] at h1
        simp only [List.length_singleton] at h1
        omega
      subst hk2
      rw [List.getElem?_append_right (Nat.le_refl _), Nat.sub_self] at e1
      rw [List.getElem?_append_right (by rw [r.len]; exact Nat.le_refl _), r.len, Nat.sub_self] at e2'
      simp only [List.getElem?_cons_zero, Option.some.injEq] at e1 e2'
      subst e1
      subst e2'
      exact hb _ le rfl
  · show (W.io ++ [a])[s.length]? = some a
    rw [List.getElem?_append_right (by rw [r.len]; exact Nat.le_refl _), r.len, Nat.sub_self]; rfl
/-- a thing of the store is changed -/
theorem Rep.put {a : Addr} {o u : HO} {ob : Ob} {n : Nat} (r : Rep p W s H) (hn : W.io[n]? = some a) (hz : W.fz a = none) (hu : H a = some u) (hs : isSt u = true) (hb : RepO p W (upd H a o) a ob) :
    Fr W W H (upd H a o) ∧ Rep p W (s.set n ob) (upd H a o) := by
  have hm : a ∈ W.io := List.mem_of_getElem? hn
  refine ⟨⟨fun b x e hb _ => by rw [upd_ne (fun z => hb (by rw [z]; exact hm))]; exact e, fun b h => ?_, fun b h => .inl h, fun b h => .inl h⟩, ⟨r.tab.put hu hs, fun b x e => ?_, r.nt, ?_, r.nd, fun b h => ?_, fun k ob' b e1 e2 => ?_⟩⟩
  · by_cases hb : b = a
    · rw [hb, upd_same]; simp
    · rw [upd_ne hb]; exact h
  · have hba : b ≠ a := fun z => by rw [z, hz] at e; cases e
    rw [upd_ne hba]; exact r.fz b x e
  · rw [List.length_set]; exact r.len
  · by_cases hb : b = a
    · rw [hb, upd_same]; simp
    · rw [upd_ne hb]; exact r.tr b h
  · by_cases hk : k = n
    · subst hk
      have hl : k < s.length := by
        have := (List.getElem?_eq_some_iff.mp e1).1
        rwa [List.length_set] at this
      rw [List.getElem?_set_self hl] at e1
      rw [hn] at e2
      cases e1
      cases e2
      exact hb
    · rw [List.getElem?_set_ne (Ne.symm hk)] at e1
      have hba : b ≠ a := fun z => by
        subst z
        obtain ⟨h1, e3⟩ := List.getElem?_eq_some_iff.mp e2
        obtain ⟨h2, e4⟩ := List.getElem?_eq_some_iff.mp hn
        exact hk ((List.getElem_inj r.nd).mp (e3.trans e4.symm))
      exact (r.obs k ob' b e1 e2).keep (Wd.le.refl W) (upd_ne hba) (fun z => z)
/-- a thing of the store is let go (it is no longer the store's) -/
theorem Rep.drop {n : Nat} (r : Rep p W s H) : Rep p W (s.set n .dead) H := by
  refine ⟨r.tab, r.fz, r.nt, by rw [List.length_set]; exact r.len, r.nd, r.tr, fun k ob b e1 e2 => ?_⟩
  by_cases hk : k = n
  · subst hk
    have hl : k < s.length := by
      have := (List.getElem?_eq_some_iff.mp e1).1
      rwa [List.length_set] at this
    rw [List.getElem?_set_self hl] at e1
    cases e1
    trivial
  · rw [List.getElem?_set_ne (Ne.symm hk)] at e1
    exact r.obs k ob b e1 e2
theorem Rep.at {n : Nat} {ob : Ob} (r : Rep p W s H) (h : s[n]? = some ob) : ∃ a, W.io[n]? = some a ∧ RepO p W H a ob := by
  have hl : n < W.io.length := by rw [r.len]; exact (List.getElem?_eq_some_iff.mp h).1
  exact ⟨W.io[n], List.getElem?_eq_getElem hl, r.obs n ob _ h (List.getElem?_eq_getElem hl)⟩
end

/-- a table of code objects has grown -/
theorem Rep.tabbed {p : Pl} {W : Wd} {s : Sto} {H H2 : Hp} {P : Addr} (r : Rep p W s H) (hP : P ∈ p.tg) (hl : ∀ q ∈ p.tl, q.1 ≠ P) (t : GxR.Tabbed P H H2) : Fr W W H H2 ∧ Rep p W s H2 := by
  obtain ⟨⟨ps2, e2, h2⟩, ke⟩ := t
  obtain ⟨ps, e1, h1⟩ := r.tab.tg P hP
  have nP : ∀ b o, H b = some o → (∀ ps, o ≠ .tbl ps) → b ≠ P := fun b o e n z => by
    rw [z, e1] at e
    exact n ps (Option.some.inj e).symm
  have some2 : ∀ b, H b ≠ none → H2 b ≠ none := fun b hb => by
    by_cases z : b = P
    · rw [z, e2]; simp
    · rw [ke b z]; exact hb
  refine ⟨⟨fun b o e _ n => by rw [ke b (nP b o e n)]; exact e, some2, fun _ h => .inl h, fun _ h => .inl h⟩, ⟨⟨fun q hq => ?_, fun P' hP' => ?_⟩, fun a o e => ?_, r.nt, r.len, r.nd, fun b hb => some2 b (r.tr b hb), fun n ob a q1 q2 => ?_⟩⟩
  · obtain ⟨qs, a1, a2, a3⟩ := r.tab.tl q hq
    refine ⟨qs, by rw [ke _ (hl q hq)]; exact a1, a2, fun pos cv hc => ?_⟩
    obtain ⟨c, c1, c2⟩ := a3 pos cv hc
    exact ⟨c, c1, by rw [ke _ (nP _ _ c2 fun ps z => by cases z)]; exact c2⟩
  · by_cases z : P' = P
    · rw [z]; exact ⟨ps2, e2, h2⟩
    · obtain ⟨qs, a1, a2⟩ := r.tab.tg P' hP'
      exact ⟨qs, by rw [ke _ z]; exact a1, a2⟩
  · have h := r.fz a o e
    rw [ke _ (nP a o h fun ps z => r.nt a ps (by rw [e, z]))]
    exact h
  · have q := r.obs n ob a q1 q2
    cases ob with
    | dead => trivial
    | lst ds =>
      obtain ⟨z, vs, b1, b2⟩ := q
      exact ⟨z, vs, by rw [ke _ (nP _ _ b1 fun ps z => by cases z)]; exact b1, b2⟩
    | dct kvs =>
      obtain ⟨z, vs, b1, b2⟩ := q
      exact ⟨z, vs, by rw [ke _ (nP _ _ b1 fun ps z => by cases z)]; exact b1, b2⟩
    | ins c fs =>
      obtain ⟨z, dx, vs, b1, b2⟩ := q
      exact ⟨z, dx, vs, by rw [ke _ (nP _ _ b1 fun ps z => by cases z)]; exact b1, b2⟩

/-! ### the readings -/
/-- what is wanted behind an evaluation from (W, H) -/
def Post {α β : Type} (p : Pl) (Rl : Wd → α → β → Prop) (W : Wd) (H : Hp) (EX : Nat → Hp → Prop) (Q : β → Hp → Prop) : R α → Prop
  | .ok d s => ∀ W' H' v, W.le W' → Fr W W' H H' → Rep p W' s H' → Rl W' d v → Q v H'
  | .exc c s => ∀ W' H', W.le W' → Fr W W' H H' → Rep p W' s H' → EX c H'
  | .bad => False
abbrev exW (p : Pl) (WX : L2.WX) (σ : L2.St) : Nat → Hp → Prop := fun c H' => WX (.ref (p.xa c)) none σ H'
/-- an expression's reading by its meaning -/
def tE (p : Pl) (WX : L2.WX) (m : ME) : TE := fun σ H Q => ∃ W e s, RelE p W e σ ∧ Rep p W s H ∧ Post p (RelD p.K) W H (exW p WX σ) Q (m e s)
def tA (p : Pl) (WX : L2.WX) (m : MA) : TA := fun σ H Q => ∃ W e s, RelE p W e σ ∧ Rep p W s H ∧ Post p (RelDs p.K) W H (exW p WX σ) Q (m e s)
def tB (p : Pl) (WX : L2.WX) (m : MB) : TT := fun σ H Q => ∃ W e s, RelE p W e σ ∧ Rep p W s H ∧ Post p (fun _ b c => c = b) W H (exW p WX σ) Q (m e s)
/-- one evaluation behind another -/
theorem Post.bind {α α' β β' : Type} {p : Pl} {Rl : Wd → α → β → Prop} {Rl' : Wd → α' → β' → Prop} {W : Wd} {H : Hp} {EX : Nat → Hp → Prop} {Q : β' → Hp → Prop} {r : R α} {f : α → Sto → R α'} {G : β → Hp → Prop}
    (h : Post p Rl' W H EX Q (r.bind f)) (hg : ∀ W' H' d v s, W.le W' → Fr W W' H H' → Rep p W' s H' → Rl W' d v → Post p Rl' W' H' EX Q (f d s) → G v H') : Post p Rl W H EX G r := by
  have key : ∀ {W' H'} (x : R α'), W.le W' → Fr W W' H H' → Post p Rl' W H EX Q x → Post p Rl' W' H' EX Q x := fun {W' H'} x l fr q => by
    cases x with
    | ok d s => exact fun W2 H2 v l2 f2 r2 rv => q W2 H2 v (l.trans l2) (fr.trans f2) r2 rv
    | exc c s => exact fun W2 H2 l2 f2 r2 => q W2 H2 (l.trans l2) (fr.trans f2) r2
    | bad => exact q
  cases r with
  | ok d s => exact fun W' H' v l fr rp rv => hg W' H' d v s l fr rp rv (key _ l fr h)
  | exc c s => exact h
  | bad => exact h
theorem PE.imp {X : Cx} {e : Expr} {t t' : TE} (h : PE X e t) (i : ∀ σ H Q, t' σ H Q → t σ H Q) : PE X e t' := ⟨fun pins s σ H Q I q => h.run pins s σ H Q I (i σ H Q q)⟩
theorem PT.imp {X : Cx} {e : Expr} {t t' : TT} (h : PT X e t) (i : ∀ σ H Q, t' σ H Q → t σ H Q) : PT X e t' := ⟨fun pins s σ H Q I q => h.run pins s σ H Q I (i σ H Q q)⟩
theorem PA.imp {X : Cx} {e : List Expr} {t t' : TA} (h : PA X e t) (i : ∀ σ H Q, t' σ H Q → t σ H Q) : PA X e t' := ⟨fun pos pins s σ H Q I q => h.run pos pins s σ H Q I (i σ H Q q)⟩
theorem PS.imp {X : Cx} {e : Stmt} {t t' : TS} (h : PS X e t) (i : ∀ D σ H, t' D σ H → t D σ H) : PS X e t' := ⟨fun pins s σ H D I q => h.run pins s σ H D I (i D σ H q)⟩
theorem PSs.imp {X : Cx} {e : List Stmt} {t t' : TS} (h : PSs X e t) (i : ∀ D σ H, t' D σ H → t D σ H) : PSs X e t' := ⟨fun pins s σ H D I q => h.run pins s σ H D I (i D σ H q)⟩
end Z

set_option Elab.async false
set_option linter.all false
set_option maxRecDepth 100000
/-! Z3: the operators. -/
namespace Z
open PySem PySem.Spec PyProof.Rows L2
def PostO {α β : Type} (p : Pl) (Rl : Wd → α → β → Prop) (W : Wd) (H : Hp) (Q : β → Hp → Prop) : Option (α × Sto) → Prop
  | some (d, s) => ∀ W' H' v, W.le W' → Fr W W' H H' → Rep p W' s H' → Rl W' d v → Q v H'
  | none => False
def r2 (p : Pl) (op : B2) : R2 := fun x y H Q => ∃ W s a b, Rep p W s H ∧ RelD p.K W a x ∧ RelD p.K W b y ∧ PostO p (RelD p.K) W H Q (op a b s)
def r1 (p : Pl) (op : B1) : V → Hp → VK → Prop := fun x H Q => ∃ W s a, Rep p W s H ∧ RelD p.K W a x ∧ PostO p (RelD p.K) W H Q (op a s)
section
variable {p : Pl} {W : Wd} {s : Sto} {H : Hp} {Q : VK}
theorem relD_non {K : PySem.W.Frag} {v : V} (h : RelD K W .non v) : v = .non := by unfold RelD at h; exact h
theorem relD_bl {K : PySem.W.Frag} {b : Bool} {v : V} (h : RelD K W (.bl b) v) : v = .bl b := by unfold RelD at h; exact h
theorem relD_int {K : PySem.W.Frag} {i : Int} {v : V} (h : RelD K W (.int i) v) : v = .int i := by unfold RelD at h; exact h
theorem relD_str {K : PySem.W.Frag} {x : Str} {v : V} (h : RelD K W (.str x) v) : v = .str x := by unfold RelD at h; exact h
theorem relD_tup {K : PySem.W.Frag} {ds : List D} {v : V} (h : RelD K W (.tup ds) v) : ∃ a vs, v = .ref a ∧ SqT K W.fz a vs ∧ RelDs K W ds vs := by unfold RelD at h; exact h
theorem relD_lst {K : PySem.W.Frag} {ds : List D} {v : V} (h : RelD K W (.lst ds) v) : ∃ a vs, v = .ref a ∧ W.fz a = some (.lst vs) ∧ RelDs K W ds vs := by unfold RelD at h; exact h
theorem relD_scr {K : PySem.W.Frag} {ds : List D} {v : V} (h : RelD K W (.scr ds) v) : ∃ a vs, v = .ref a ∧ SqL K W.fz a vs ∧ RelDs K W ds vs := by unfold RelD at h; exact h
theorem relD_ref {K : PySem.W.Frag} {n : Nat} {v : V} (h : RelD K W (.ref n) v) : ∃ a, v = .ref a ∧ W.io[n]? = some a := by unfold RelD at h; exact h
theorem rel_non {K : PySem.W.Frag} : RelD K W .non .non := by unfold RelD; rfl
theorem rel_bl {K : PySem.W.Frag} {b : Bool} : RelD K W (.bl b) (.bl b) := by unfold RelD; rfl
theorem rel_int {K : PySem.W.Frag} {i : Int} : RelD K W (.int i) (.int i) := by unfold RelD; rfl
theorem rel_str {K : PySem.W.Frag} {x : Str} : RelD K W (.str x) (.str x) := by unfold RelD; rfl
theorem rel_tup {K : PySem.W.Frag} {ds : List D} {a : Addr} {vs : List V} (h : SqT K W.fz a vs) (r : RelDs K W ds vs) : RelD K W (.tup ds) (.ref a) := by unfold RelD; exact ⟨a, vs, rfl, h, r⟩
theorem rel_lst {K : PySem.W.Frag} {ds : List D} {a : Addr} {vs : List V} (h : W.fz a = some (.lst vs)) (r : RelDs K W ds vs) : RelD K W (.lst ds) (.ref a) := by unfold RelD; exact ⟨a, vs, rfl, h, r⟩
theorem rel_ref {K : PySem.W.Frag} {n : Nat} {a : Addr} (h : W.io[n]? = some a) : RelD K W (.ref n) (.ref a) := by unfold RelD; exact ⟨a, rfl, h⟩
/-- nothing has changed -/
theorem PostO.same {α β : Type} {Rl : Wd → α → β → Prop} {Q : β → Hp → Prop} {d : α} {v : β} (r : Rep p W s H) (h : PostO p Rl W H Q (some (d, s))) (rv : Rl W d v) : Q v H := h W H v (Wd.le.refl W) (Fr.refl W H) r rv
/-- a list as it is read -/
theorem lst_rd {d : D} {xs : List D} {v : V} (r : Rep p W s H) (h : lstOf d s = some xs) (rv : RelD p.K W d v) : ∃ a vs, v = .ref a ∧ H a = some (.lst vs) ∧ RelDs p.K W xs vs := by
  cases d with
  | lst ys =>
    cases h
    obtain ⟨a, vs, e, z, q⟩ := relD_lst rv
    exact ⟨a, vs, e, r.fz _ _ z, q⟩
  | ref n =>
    obtain ⟨a, e, i⟩ := relD_ref rv
    have h' : atS n s = some xs := h
    unfold atS at h'
    split at h'
    · rename_i ys q
      cases h'
      obtain ⟨z, vs, h1, h2⟩ := r.obs n _ a q i
      exact ⟨a, vs, e, h1, h2⟩
    · cases h'
  | _ => cases h
theorem seq_rd {d : D} {xs : List D} {v : V} (r : Rep p W s H) (h : seqOf d s = some xs) (rv : RelD p.K W d v) : ∃ a vs, v = .ref a ∧ (SqL p.K H a vs ∨ SqT p.K H a vs) ∧ RelDs p.K W xs vs := by
  cases d with
  | tup ys =>
    cases h
    obtain ⟨a, vs, e, z, q⟩ := relD_tup rv
    exact ⟨a, vs, e, .inr (seqT_mono r.fz z), q⟩
  | lst ys =>
    obtain ⟨a, vs, e, z, q⟩ := lst_rd (d := .lst ys) r h rv
    exact ⟨a, vs, e, .inl (SqL.of z), q⟩
  | ref n =>
    obtain ⟨a, vs, e, z, q⟩ := lst_rd (d := .ref n) r h rv
    exact ⟨a, vs, e, .inl (SqL.of z), q⟩
  | scr ys =>
    cases h
    obtain ⟨a, vs, e, z, q⟩ := relD_scr rv
    exact ⟨a, vs, e, .inl (seqL_mono r.fz z), q⟩
  | _ => cases h
theorem tup_rd {ds : List D} {v : V} (r : Rep p W s H) (rv : RelD p.K W (.tup ds) v) : ∃ a vs, v = .ref a ∧ SqT p.K H a vs ∧ RelDs p.K W ds vs := by
  obtain ⟨a, vs, e, z, q⟩ := relD_tup rv
  exact ⟨a, vs, e, seqT_mono r.fz z, q⟩
/-- a new list is laid -/
theorem mkL_ok {m : Bool} {xs : List D} {vs : List V} {a : Addr} (r : Rep p W s H) (h : PostO p (RelD p.K) W H Q (mkL m xs s)) (rv : RelDs p.K W xs vs) (n : H a = none) : Q (.ref a) (upd H a (.lst vs)) := by
  unfold mkL at h
  split at h
  · cases m with
    | true =>
      obtain ⟨l, f, rp, e⟩ := r.push (a := a) (o := .lst vs) (ob := .lst xs) n fun W' l hz => by
        refine ⟨?_, vs, upd_same, rv.mono l⟩
        rw [hz]
        cases q : W.fz a with
        | none => rfl
        | some x => rw [r.fz a x q] at n; cases n
      exact h _ _ _ l f rp (rel_ref e)
    | false =>
      obtain ⟨W', l, f, rp, e⟩ := r.fresh (a := a) (o := .lst vs) n (fun ps z => by cases z)
      exact h _ _ _ l f rp (rel_lst e (rv.mono l))
  · exact h.elim
theorem mkL_len {m : Bool} {xs : List D} (h : PostO p (RelD p.K) W H Q (mkL m xs s)) : xs.length ≤ sizeLine := by
  unfold mkL at h
  split at h
  · rename_i q
    rw [sizeLine_eq]; exact q
  · exact h.elim
theorem mkT_ok {xs : List D} {vs : List V} {a : Addr} (r : Rep p W s H) (h : PostO p (RelD p.K) W H Q (mkT xs s)) (rv : RelDs p.K W xs vs) (n : H a = none) : Q (.ref a) (upd H a (.tup vs)) := by
  unfold mkT at h
  split at h
  · obtain ⟨W', l, f, rp, e⟩ := r.fresh (a := a) (o := .tup vs) n (fun ps z => by cases z)
    exact h _ _ _ l f rp (rel_tup (SqT.of e) (rv.mono l))
  · exact h.elim
theorem mkT_len {xs : List D} (h : PostO p (RelD p.K) W H Q (mkT xs s)) : xs.length ≤ sizeLine := by
  unfold mkT at h
  split at h
  · rename_i q
    rw [sizeLine_eq]; exact q
  · exact h.elim
/-- a tuple that stands already -/
theorem mkT_old {xs : List D} {a : Addr} (r : Rep p W s H) (h : PostO p (RelD p.K) W H Q (mkT xs s)) (rv : RelD p.K W (.tup xs) (.ref a)) : Q (.ref a) H := by
  unfold mkT at h
  split at h
  · exact h.same r rv
  · exact h.elim
end
section
variable {X : Cx} {p : Pl}
theorem OpR.imp {f : Value → Value → Sem Value} {r r' : R2} (h : OpR X f r) (i : ∀ x y H Q, r' x y H Q → r x y H Q) : OpR X f r' := fun pins s σ H x y v u Q I rx ry q => h pins s σ H x y v u Q I rx ry (i x y H Q q)
theorem cat_lists {m : Bool} {W : Wd} {st : Sto} {a b : D} {xs ys : List D} {pins : List (Addr × Obj)} {s : Shared} {σ : L2.St} {H : Hp} {x y : V} {v u : Value} {Q : VK} (I : Inv X pins σ H s) (rx : RelV x v) (ry : RelV y u) (rp : Rep p W st H)
    (ra : RelD p.K W a x) (rb : RelD p.K W b y) (ha : lstOf a st = some xs) (hb : lstOf b st = some ys) (q : PostO p (RelD p.K) W H Q (mkL m (xs ++ ys) st)) : wpAny (model X.prog X.w) X.A (binaryOp .Add v u) (EP X pins σ Q) X.xe s := by
  obtain ⟨a1, vs, rfl, h1, q1⟩ := lst_rd rp ha ra
  obtain ⟨b1, us, rfl, h2, q2⟩ := lst_rd rp hb rb
  have hl := mkL_len q
  rw [List.length_append, q1.length, q2.length] at hl
  exact op_cat pins s σ H _ _ v u Q I rx ry ⟨a1, b1, vs, us, rfl, rfl, h1, h2, hl, fun a n => mkL_ok rp q (q1.append q2) n⟩
theorem op_addR (hK : p.K = X.K) (m : Bool) : OpR X (binaryOp .Add) (r2 p (opAdd m)) := by
  intro pins s σ H x y v u Q I rx ry h
  obtain ⟨W, st, a, b, rp, ra, rb, q⟩ := h
  unfold opAdd at q
  split at q
  · cases relD_int ra
    cases relD_int rb
    exact op_add pins s σ H _ _ v u Q I rx ry ⟨_, _, rfl, rfl, q.same rp rel_int⟩
  · cases relD_str ra
    cases relD_str rb
    split at q
    · rename_i hz
      exact op_add_str pins s σ H _ _ v u Q I rx ry ⟨_, _, rfl, rfl, by rw [sizeLine_eq]; exact hz, q.same rp rel_str⟩
    · exact q.elim
  · rename_i xs ys
    obtain ⟨a1, vs, rfl, h1, q1⟩ := tup_rd rp ra
    obtain ⟨b1, us, rfl, h2, q2⟩ := tup_rd rp rb
    have hl := mkT_len q
    rw [List.length_append, q1.length, q2.length] at hl
    refine op_catA pins s σ H _ _ v u Q I rx ry ⟨a1, b1, vs, us, rfl, rfl, hK ▸ h1, hK ▸ h2, hl, fun e => ?_, fun _ e => ?_, fun _ _ a n => mkT_ok rp q (q1.append q2) n⟩
    · have e1 : xs = [] := List.eq_nil_of_length_eq_zero (by rw [q1.length, e]; rfl)
      rw [e1, List.nil_append] at q
      exact mkT_old rp q rb
    · have e1 : ys = [] := List.eq_nil_of_length_eq_zero (by rw [q2.length, e]; rfl)
      rw [e1, List.append_nil] at q
      exact mkT_old rp q ra
  · split at q
    · rename_i ha hb
      exact cat_lists I rx ry rp ra rb ha hb q
    · exact q.elim
theorem op_subR : OpR X (binaryOp .Sub) (r2 p opSub) := by
  intro pins s σ H x y v u Q I rx ry h
  obtain ⟨W, st, a, b, rp, ra, rb, q⟩ := h
  unfold opSub at q
  split at q
  · cases relD_int ra
    cases relD_int rb
    exact op_sub pins s σ H _ _ v u Q I rx ry ⟨_, _, rfl, rfl, q.same rp rel_int⟩
  · exact q.elim
theorem op_fdivR : OpR X (binaryOp .FloorDiv) (r2 p opFdiv) := by
  intro pins s σ H x y v u Q I rx ry h
  obtain ⟨W, st, a, b, rp, ra, rb, q⟩ := h
  unfold opFdiv at q
  split at q
  · cases relD_int ra
    cases relD_int rb
    split at q
    · rename_i hz
      exact op_fdiv pins s σ H _ _ v u Q I rx ry ⟨_, _, rfl, rfl, hz, q.same rp rel_int⟩
    · exact q.elim
  · exact q.elim
theorem op_modR : OpR X (binaryOp .Mod) (r2 p opMod) := by
  intro pins s σ H x y v u Q I rx ry h
  obtain ⟨W, st, a, b, rp, ra, rb, q⟩ := h
  unfold opMod at q
  split at q
  · cases relD_int ra
    cases relD_int rb
    split at q
    · rename_i hz
      exact op_mod pins s σ H _ _ v u Q I rx ry ⟨_, _, rfl, rfl, hz, q.same rp rel_int⟩
    · exact q.elim
  · exact q.elim
theorem op_powR : OpR X (binaryOp .Pow) (r2 p opPow) := by
  intro pins s σ H x y v u Q I rx ry h
  obtain ⟨W, st, a, b, rp, ra, rb, q⟩ := h
  unfold opPow at q
  split at q
  · cases relD_int ra
    cases relD_int rb
    split at q
    · rename_i hz
      exact op_pow pins s σ H _ _ v u Q I rx ry ⟨_, _, rfl, rfl, hz, q.same rp rel_int⟩
    · exact q.elim
  · exact q.elim
theorem big_iff {i : Int} : big i = true ↔ (-(2 ^ 64) < i ∧ i < 2 ^ 64) := by unfold big; exact decide_eq_true_iff
theorem RelDs.rep {K : PySem.W.Frag} {W : Wd} {ds : List D} {vs : List V} (h : RelDs K W ds vs) : ∀ n : Nat, RelDs K W (List.replicate n ds).flatten (List.replicate n vs).flatten
  | 0 => relDs_nil
  | n + 1 => by
    rw [List.replicate_succ, List.replicate_succ, List.flatten_cons, List.flatten_cons]
    exact h.append (h.rep n)
theorem op_mulR (hK : p.K = X.K) (m : Bool) : OpR X (binaryOp .Mult) (r2 p (opMul m)) := by
  intro pins s σ H x y v u Q I rx ry h
  obtain ⟨W, st, a, b, rp, ra, rb, q⟩ := h
  unfold opMul at q
  split at q
  · cases relD_int ra
    cases relD_int rb
    split at q
    · rename_i i j hz
      refine op_mul pins s σ H _ _ v u Q I rx ry ⟨_, _, rfl, rfl, ?_, q.same rp rel_int⟩
      rcases Bool.or_eq_true_iff.mp hz with z | z
      · exact .inl (big_iff.mp z)
      · exact .inr (big_iff.mp z)
    · exact q.elim
  · cases relD_int rb
    rename_i xs k
    split at q
    · rename_i hz
      obtain ⟨a1, vs, rfl, h1, q1⟩ := tup_rd rp ra
      simp only [Bool.and_eq_true, decide_eq_true_eq, Bool.not_eq_true', List.isEmpty_eq_false_iff] at hz
      obtain ⟨⟨⟨z1, z2⟩, z3⟩, z4⟩ := hz
      have z5 : vs ≠ [] := fun e => z4 (List.eq_nil_of_length_eq_zero (by rw [q1.length, e]; rfl))
      exact op_repT pins s σ H _ _ v u Q I rx ry ⟨a1, k, vs, rfl, rfl, hK ▸ h1, z5, z1, z2, by rw [← q1.length]; exact z3, fun a n => mkT_ok rp q (q1.rep _) n⟩
    · exact q.elim
  · cases relD_int rb
    split at q
    · rename_i hl
      split at q
      · rename_i hz
        obtain ⟨a1, vs, rfl, h1, q1⟩ := lst_rd rp hl ra
        simp only [Bool.and_eq_true, decide_eq_true_eq] at hz
        exact op_rep pins s σ H _ _ v u Q I rx ry ⟨a1, _, vs, rfl, rfl, h1, hz.1.1, hz.1.2, by rw [← q1.length, sizeLine_eq]; exact hz.2, fun a n => mkL_ok rp q (q1.rep _) n⟩
      · exact q.elim
    · exact q.elim
  · exact q.elim
theorem un_negR : UnR X (unaryOp .USub) (r1 p unNeg) := by
  intro pins s σ H x v Q I rx h
  obtain ⟨W, st, a, rp, ra, q⟩ := h
  unfold unNeg at q
  split at q
  · cases relD_int ra
    exact un_neg pins s σ H _ v Q I rx ⟨_, rfl, q.same rp rel_int⟩
  · exact q.elim
theorem op_cmpI {op : CmpOp} {f : Int → Int → Bool} (h0 : OpR X (compareOp op) (rI0 fun i j => .bl (f i j))) : OpR X (compareOp op) (r2 p (opCmp f)) := by
  intro pins s σ H x y v u Q I rx ry h
  obtain ⟨W, st, a, b, rp, ra, rb, q⟩ := h
  unfold opCmp at q
  split at q
  · cases relD_int ra
    cases relD_int rb
    exact h0 pins s σ H _ _ v u Q I rx ry ⟨_, _, rfl, rfl, q.same rp rel_bl⟩
  · exact q.elim
/-! ### data -/
theorem opt_all {α β : Type} {f : α → Option β} : ∀ {xs : List α} {ys : List β}, optAll f xs = some ys → Paired (fun x y => f x = some y) xs ys
  | [], ys, h => by
    cases h
    exact .nil
  | x :: xs, ys, h => by
    unfold optAll at h
    split at h
    · rename_i b bs e1 e2
      cases h
      exact .cons e1 (opt_all e2)
    · cases h
theorem dpAll_of {K : PySem.W.Frag} {W : Wd} {H : Hp} {f : D → Option PyData} (h : ∀ (d : D) (v : V) (x : PyData), f d = some x → RelD K W d v → Dp K H v x) : ∀ {ds : List D} {vs : List V} {xs : List PyData}, optAll f ds = some xs → RelDs K W ds vs → DpAll K H vs xs
  | [], vs, xs, e, r => by
    unfold RelDs at r
    cases e
    subst r
    exact .nil
  | d :: ds, vs, xs, e, r => by
    unfold RelDs at r
    obtain ⟨v, r', rfl, h1, h2⟩ := r
    unfold optAll at e
    split at e
    · rename_i b bs e1 e2
      cases e
      exact .cons (h d v b e1 h1) (dpAll_of h e2 h2)
    · cases e
theorem py_dp {W : Wd} {st : Sto} {H : Hp} (rp : Rep p W st H) : ∀ (k : Nat) (d : D) (v : V) (x : PyData), pyOf st k d = some x → RelD p.K W d v → Dp p.K H v x
  | 0, _, _, _, e, _ => by cases e
  | k + 1, d, v, x, e, r => by
    cases d with
    | non => cases e; cases relD_non r; exact .non
    | bl b => cases e; cases relD_bl r; exact .bl b
    | int i => cases e; cases relD_int r; exact .int i
    | str z =>
      have e0 : (if strB z then some (PyData.str z) else none) = some x := e
      split at e0
      · cases e0; cases relD_str r; exact .str z
      · cases e0
    | tup ds =>
      have e' : (optAll (pyOf st k) ds).map PyData.tuple = some x := e
      obtain ⟨xs, e1, e2⟩ := Option.map_eq_some_iff.mp e'
      subst e2
      obtain ⟨a, vs, rfl, h1, q1⟩ := tup_rd rp r
      exact .tup h1 (dpAll_of (py_dp rp k) e1 q1)
    | lst ds =>
      have e' : (optAll (pyOf st k) ds).map PyData.list = some x := e
      obtain ⟨xs, e1, e2⟩ := Option.map_eq_some_iff.mp e'
      subst e2
      obtain ⟨a, vs, rfl, h1, q1⟩ := lst_rd (d := .lst ds) rp rfl r
      exact .lst (SqL.of h1) (dpAll_of (py_dp rp k) e1 q1)
    | ref n =>
      have e' : (match atS n st with | some xs => (optAll (pyOf st k) xs).map PyData.list | none => none) = some x := e
      split at e'
      · rename_i ds ed
        obtain ⟨xs, e1, e2⟩ := Option.map_eq_some_iff.mp e'
        subst e2
        obtain ⟨a, vs, rfl, h1, q1⟩ := lst_rd (d := .ref n) rp ed r
        exact .lst (SqL.of h1) (dpAll_of (py_dp rp k) e1 q1)
      · cases e'
    | lam n => cases e
    | scr n => cases e
theorem canAll_of : ∀ {xs : List PyData}, (∀ x ∈ xs, x.canLay0 = true) → PyData.canLayAll0 xs = true
  | [], _ => by simp [PyData.canLayAll0]
  | x :: xs, h => by
    simp only [PyData.canLayAll0, Bool.and_eq_true]
    exact ⟨h x List.mem_cons_self, canAll_of fun y hy => h y (List.mem_cons_of_mem _ hy)⟩
theorem depthAll_of {n : Nat} : ∀ {xs : List PyData}, (∀ x ∈ xs, x.depth ≤ n) → PyData.depthAll xs ≤ n
  | [], _ => by simp [PyData.depthAll]
  | x :: xs, h => by
    simp only [PyData.depthAll]
    have h1 := h x List.mem_cons_self
    have h2 := depthAll_of (n := n) (xs := xs) fun y hy => h y (List.mem_cons_of_mem _ hy)
    omega
theorem paired_mem {α β : Type} {F : α → β → Prop} : ∀ {l₁ : List α} {l₂ : List β}, Paired F l₁ l₂ → ∀ y ∈ l₂, ∃ x, F x y
  | _, _, .nil, y, h => by cases h
  | _, _, .cons r t, y, h => by
    rcases List.mem_cons.mp h with e | h
    · exact ⟨_, e ▸ r⟩
    · exact paired_mem t y h
theorem strB_ok {z : Str} (h : strB z = true) : PyData.strOk z = true := by
  unfold strB at h
  unfold PyData.strOk
  rw [← Array.all_toList]
  exact h
theorem py_shape (st : Sto) : ∀ (k : Nat) (d : D) (x : PyData), pyOf st k d = some x → x.canLay0 = true ∧ x.depth ≤ k
  | 0, _, _, e => by cases e
  | k + 1, d, x, e => by
    have all : ∀ {ds : List D} {xs : List PyData}, optAll (pyOf st k) ds = some xs → PyData.canLayAll0 xs = true ∧ PyData.depthAll xs ≤ k := fun {ds xs} e1 =>
      ⟨canAll_of fun y hy => by obtain ⟨z, hz⟩ := paired_mem (opt_all e1) y hy; exact (py_shape st k z y hz).1,
       depthAll_of fun y hy => by obtain ⟨z, hz⟩ := paired_mem (opt_all e1) y hy; exact (py_shape st k z y hz).2⟩
    cases d with
    | non => cases e; simp [PyData.canLay0, PyData.depth]
    | bl b => cases e; simp [PyData.canLay0, PyData.depth]
    | int i => cases e; simp [PyData.canLay0, PyData.depth]
    | str z =>
      have e0 : (if strB z then some (PyData.str z) else none) = some x := e
      split at e0
      · rename_i hz
        cases e0
        simp [PyData.canLay0, PyData.depth, strB_ok hz]
      · cases e0
    | tup ds =>
      have e' : (optAll (pyOf st k) ds).map PyData.tuple = some x := e
      obtain ⟨xs, e1, e2⟩ := Option.map_eq_some_iff.mp e'
      subst e2
      obtain ⟨a, b⟩ := all e1
      simp only [PyData.canLay0, PyData.depth]
      exact ⟨a, by omega⟩
    | lst ds =>
      have e' : (optAll (pyOf st k) ds).map PyData.list = some x := e
      obtain ⟨xs, e1, e2⟩ := Option.map_eq_some_iff.mp e'
      subst e2
      obtain ⟨a, b⟩ := all e1
      simp only [PyData.canLay0, PyData.depth]
      exact ⟨a, by omega⟩
    | ref n =>
      have e' : (match atS n st with | some xs => (optAll (pyOf st k) xs).map PyData.list | none => none) = some x := e
      split at e'
      · obtain ⟨xs, e1, e2⟩ := Option.map_eq_some_iff.mp e'
        subst e2
        obtain ⟨a, b⟩ := all e1
        simp only [PyData.canLay0, PyData.depth]
        exact ⟨a, by omega⟩
      · cases e'
    | lam n => cases e
    | scr n => cases e
theorem py_shaped {st : Sto} {k : Nat} {d : D} {x : PyData} (e : pyOf st k d = some x) (hk : k ≤ 64) : SeqAt.shaped x = true := by
  obtain ⟨a, b⟩ := py_shape st k d x e
  unfold SeqAt.shaped
  rw [a, Bool.true_and]
  exact decide_eq_true (by omega)
theorem op_eqR (hK : p.K = X.K) (hu : X.A.units + 64 < cLine) : OpR X (compareOp .Eq) (r2 p (opEq false)) := by
  intro pins s σ H x y v u Q I rx ry h
  obtain ⟨W, st, a, b, rp, ra, rb, q⟩ := h
  unfold opEq at q
  split at q
  · rename_i d e h1 h2
    rw [Bool.false_xor] at q
    exact op_eqD hu pins s σ H x y v u Q I rx ry ⟨d, e, hK ▸ py_dp rp 12 a x d h1 ra, hK ▸ py_dp rp 12 b y e h2 rb, py_shaped h1 (by decide), py_shaped h2 (by decide), q.same rp rel_bl⟩
  · exact q.elim
theorem op_neR (hK : p.K = X.K) (hu : X.A.units + 64 < cLine) : OpR X (compareOp .NotEq) (r2 p (opEq true)) := by
  intro pins s σ H x y v u Q I rx ry h
  obtain ⟨W, st, a, b, rp, ra, rb, q⟩ := h
  unfold opEq at q
  split at q
  · rename_i d e h1 h2
    rw [Bool.true_xor] at q
    exact op_neD hu pins s σ H x y v u Q I rx ry ⟨d, e, hK ▸ py_dp rp 12 a x d h1 ra, hK ▸ py_dp rp 12 b y e h2 rb, py_shaped h1 (by decide), py_shaped h2 (by decide), q.same rp rel_bl⟩
  · exact q.elim
theorem isNon_eq {K : PySem.W.Frag} {W : Wd} {a : D} {x : V} (r : RelD K W a x) : decide (x = .non) = isNon a := by
  cases a with
  | non => cases relD_non r; rfl
  | bl b => cases relD_bl r; rfl
  | int i => cases relD_int r; rfl
  | str z => cases relD_str r; rfl
  | tup ds => obtain ⟨a, vs, rfl, _, _⟩ := relD_tup r; rfl
  | lst ds => obtain ⟨a, vs, rfl, _, _⟩ := relD_lst r; rfl
  | ref n => obtain ⟨a, rfl, _⟩ := relD_ref r; rfl
  | lam n => unfold RelD at r; obtain ⟨f, _, _, _, rfl, _⟩ := r; rfl
  | scr ds => obtain ⟨a, vs, rfl, _, _⟩ := relD_scr r; rfl
theorem op_isR : OpR X (compareOp .Is) (r2 p (opIs false)) := by
  intro pins s σ H x y v u Q I rx ry h
  obtain ⟨W, st, a, b, rp, ra, rb, q⟩ := h
  unfold opIs at q
  split at q
  · cases relD_non rb
    rw [Bool.false_xor] at q
    exact op_isN pins s σ H _ _ v u Q I rx ry ⟨rfl, by rw [isNon_eq ra]; exact q.same rp rel_bl⟩
  · exact q.elim
theorem op_isNotR : OpR X (compareOp .IsNot) (r2 p (opIs true)) := by
  intro pins s σ H x y v u Q I rx ry h
  obtain ⟨W, st, a, b, rp, ra, rb, q⟩ := h
  unfold opIs at q
  split at q
  · cases relD_non rb
    rw [Bool.true_xor] at q
    exact op_notN pins s σ H _ _ v u Q I rx ry ⟨rfl, by rw [isNon_eq ra]; exact q.same rp rel_bl⟩
  · exact q.elim
end
end Z

set_option Elab.async false
set_option linter.all false
set_option maxRecDepth 100000
/-! Z3b: in, subscripts, slices. -/
namespace Z
open PySem PySem.Spec PyProof.Rows L2
section
variable {X : Cx} {p : Pl}
theorem dp_str {K : PySem.W.Frag} {H : Hp} {x : Str} {v : V} (h : Dp K H v (.str x)) : v = .str x := by cases h; rfl
theorem room_in {A : Around} {d : PyData} {n : Nat} (sd : SeqAt.shaped d = true) (hu : A.units + 65 < cLine) : A.units + 1 + min n d.depth < cLine := by
  have h1 : d.depth ≤ 64 := by
    unfold SeqAt.shaped at sd
    exact of_decide_eq_true (Bool.and_eq_true_iff.mp sd).2
  have h2 : min n d.depth ≤ 64 := Nat.le_trans (Nat.min_le_right _ _) h1
  omega
theorem op_inS (neg : Bool) (hK : p.K = X.K) (hu : X.A.units + 65 < cLine) : OpR X (compareOp (if neg then .NotIn else .In)) (r2 p (opIn neg)) := by
  intro pins s σ H x y v u Q I rx ry h
  obtain ⟨W, st, a, b, rp, ra, rb, q⟩ := h
  have main : ∀ (d : PyData) (ds : List PyData) (c : PyData), pyOf st 12 a = some d → pyOf st 12 b = some c → (c = .list ds ∨ c = .tuple ds) →
      PostO p (RelD p.K) W H Q (some ((.bl (xor neg (ds.any fun z => PyData.eqv z d))), st)) → wpAny (model X.prog X.w) X.A (compareOp (if neg then .NotIn else .In) v u) (EP X pins σ Q) X.xe s := by
    intro d ds c h1 h2 hc q
    obtain ⟨as, r1⟩ := Dp.reads I d x v (hK ▸ py_dp rp 12 a x d h1 ra) rx
    obtain ⟨bs, r2⟩ := Dp.reads I c y u (hK ▸ py_dp rp 12 b y c h2 rb) ry
    have sd := py_shaped h1 (by decide)
    have sc := py_shaped h2 (by decide)
    have cd : d.canLay0 = true := SeqAt.canLay_of_shaped sd
    have q' := q.same rp rel_bl
    rcases hc with rfl | rfl
    · cases neg with
      | false => exact SeqAt.in_list_reads r2 r1 (SeqAt.canLay_of_shaped sc) cd (room_in sd hu) ⟨.bl _, H, I, rfl, by rw [Bool.false_xor] at q'; exact q'⟩
      | true => exact SeqAt.notIn_list_reads r2 r1 (SeqAt.canLay_of_shaped sc) cd (room_in sd hu) ⟨.bl _, H, I, rfl, by rw [Bool.true_xor] at q'; exact q'⟩
    · cases neg with
      | false => exact SeqAt.in_tuple_reads r2 r1 (SeqAt.canLay_of_shaped sc) cd (room_in sd hu) ⟨.bl _, H, I, rfl, by rw [Bool.false_xor] at q'; exact q'⟩
      | true => exact SeqAt.notIn_tuple_reads r2 r1 (SeqAt.canLay_of_shaped sc) cd (room_in sd hu) ⟨.bl _, H, I, rfl, by rw [Bool.true_xor] at q'; exact q'⟩
  unfold opIn at q
  split at q
  · cases relD_str rb
    split at q
    · rename_i w
      cases relD_str ra
      split at q
      · rename_i c hc
        have ew : w = ⟨#[c]⟩ := by
          obtain ⟨arr⟩ := w
          exact congrArg Str.mk (Array.ext' hc)
        subst ew
        have q' := q.same rp rel_bl
        cases neg with
        | false => exact op_in_sign pins s σ H _ _ v u Q I rx ry ⟨c, _, rfl, rfl, by rw [Bool.false_xor] at q'; exact q'⟩
        | true => exact op_notIn_sign pins s σ H _ _ v u Q I rx ry ⟨c, _, rfl, rfl, by rw [Bool.true_xor] at q'; exact q'⟩
      · exact q.elim
    · exact q.elim
  · split at q
    · rename_i h1 h2
      exact main _ _ _ h1 h2 (.inl rfl) q
    · rename_i h1 h2
      exact main _ _ _ h1 h2 (.inr rfl) q
    · exact q.elim
/-- a subscript by place -/
theorem ix_R (hK : p.K = X.K) : IxR X (r2 p opIx) := by
  intro value slice pins s σ H x y v u Q I rx ry h hs
  obtain ⟨W, st, a, b, rp, ra, rb, q⟩ := h
  unfold opIx at q
  split at q
  · rename_i i
    cases relD_int rb
    split at q
    · cases relD_str ra
      split at q
      · rename_i hz
        split at q
        · rename_i hc
          exact ix_str value slice pins s σ H _ _ v u Q I rx ry ⟨_, _, _, rfl, rfl, by rw [sizeLine_eq]; exact hz, hc, q.same rp rel_str⟩ hs
        · exact q.elim
      · exact q.elim
    · split at q
      · rename_i xs hx
        split at q
        · rename_i d hd
          obtain ⟨ad, vs, rfl, h1, q1⟩ := seq_rd rp hx ra
          have hd' : (L2.ixN xs.length _).bind (fun j => xs[j]?) = some d := hd
          obtain ⟨j, e1, e2⟩ := Option.bind_eq_some_iff.mp hd'
          obtain ⟨w, e3, rw'⟩ := q1.get e2
          have at_ : atI vs i = some w := by
            unfold atI
            rw [← q1.length, e1]
            exact e3
          rcases h1 with h1 | h1
          · exact ix_list value slice pins s σ H _ _ v u Q I rx ry ⟨ad, vs, _, w, rfl, rfl, hK ▸ h1, at_, q.same rp rw'⟩ hs
          · exact ix_tup value slice pins s σ H _ _ v u Q I rx ry ⟨ad, vs, _, w, rfl, rfl, hK ▸ h1, at_, q.same rp rw'⟩ hs
        · exact q.elim
      · exact q.elim
  · exact q.elim
/-! ### slices -/
theorem RelDs.cut {K : PySem.W.Frag} {W : Wd} {ds : List D} {vs : List V} (h : RelDs K W ds vs) (lo hi : Option Int) : RelDs K W (cutD ds lo hi) (cutV vs lo hi) := by
  unfold cutD cutV
  rw [h.length]
  exact (h.drop _).take _
def rSl (p : Pl) (m : Bool) : V → Option Int → Option Int → Hp → VK → Prop := fun x lo hi H Q => ∃ W s a, Rep p W s H ∧ RelD p.K W a x ∧ PostO p (RelD p.K) W H Q (opSl m a lo hi s)
theorem sl_R (hK : p.K = X.K) (m : Bool) : SlR X (rSl p m) := by
  intro pins s σ H x v vl vu lo hi sl Q I rx hs pl pu h
  obtain ⟨W, st, a, rp, ra, q⟩ := h
  unfold opSl at q
  split at q
  · cases relD_str ra
    split at q
    · rename_i hz
      have eL : ∀ z : Str, z.length = z.cps.toList.length := fun z => by simp [Str.length]
      refine sl_str pins s σ H _ v vl vu lo hi sl Q I rx hs pl pu ⟨_, rfl, by rw [sizeLine_eq]; exact hz, ?_⟩
      have q' := q.same rp rel_str
      unfold cutD at q'
      unfold cutS
      rw [eL]
      exact q'
    · exact q.elim
  · rename_i xs
    obtain ⟨ad, vs, rfl, h1, q1⟩ := tup_rd rp ra
    refine sl_tupA pins s σ H _ v vl vu lo hi sl Q I rx hs pl pu ⟨ad, vs, rfl, hK ▸ h1, fun e => ?_, fun _ a' n => ?_⟩
    · have ec : cutD xs lo hi = xs := by
        unfold cutD
        rw [q1.length, e.1, e.2, List.drop_zero, Nat.sub_zero, ← q1.length]
        exact List.take_length
      rw [ec] at q
      exact q.same rp ra
    · obtain ⟨W', l, f, rp', e⟩ := rp.fresh (a := a') (o := .tup (cutV vs lo hi)) n (fun ps z => by cases z)
      exact q _ _ _ l f rp' (rel_tup (SqT.of e) ((q1.cut lo hi).mono l))
  · obtain ⟨ad, vs, rfl, h1, q1⟩ := relD_scr ra
    exact sl_list pins s σ H _ v vl vu lo hi sl Q I rx hs pl pu ⟨ad, vs, rfl, hK ▸ seqL_mono rp.fz h1, fun a' n => mkL_ok rp q (q1.cut lo hi) n⟩
  · split at q
    · rename_i xs hx
      obtain ⟨ad, vs, rfl, h1, q1⟩ := lst_rd rp hx ra
      exact sl_list pins s σ H _ v vl vu lo hi sl Q I rx hs pl pu ⟨ad, vs, rfl, SqL.of h1, fun a' n => mkL_ok rp q (q1.cut lo hi) n⟩
    · exact q.elim
end
end Z

set_option Elab.async false
set_option linter.all false
set_option maxRecDepth 100000
/-! Z3c: x[::-1] of lists and tuples. -/
namespace Z
open PySem PySem.Spec PyProof.Rows L2
section
variable {prog : Program} {w : World} {A : Around} {E : Value → Shared → Prop} {s : Shared}
theorem applied_back {sl : Addr} {t1 : Tok} {n : Nat} {Q : Int × Int × Nat → Shared → Prop} (hs : s.heap.IsSliceOf sl .none .none (.int (-1) t1)) (h : Q ((n : Int) - 1, -1, n) s) :
    wpAny (model prog w) A (Builtin.Slice.sliceApplied (.ref sl) (pure (n : Int))) Q E s := by
  obtain ⟨os, hos, _, hds⟩ := hs
  unfold Builtin.Slice.sliceApplied Builtin.Slice.sliceFields
  refine wpAny_bind (wpAny_bind (wpAny_field hos hds (x := .none) rfl (wpAny_bind (wpAny_field hos hds (x := .none) rfl (wpAny_bind (wpAny_field hos hds (x := .int (-1) t1) rfl (wpAny_pure ?_)))))))
  refine wpAny_bind (slicePart_int ?_)
  show wpAny _ _ (if ((-1 : Int) == 0) = true then _ else _) _ _ s
  rw [if_neg (by decide)]
  refine wpAny_bind (slicePart_none (wpAny_bind (slicePart_none (wpAny_bind (wpAny_pure ?_)))))
  have e : Builtin.Slice.sliceAdjust none none (-1) (n : Int) = ((n : Int) - 1, -1) := rfl
  have e2 : Builtin.Slice.slicePlaces ((n : Int) - 1) (-1) (-1) = n := by
    unfold Builtin.Slice.slicePlaces
    rw [if_neg (by decide)]
    split
    · have : ((n : Int) - 1 - -1 - 1) / (- -1) = (n : Int) - 1 := by
        rw [show (- -1 : Int) = 1 by decide, Int.ediv_one]; omega
      rw [this]; omega
    · omega
  show wpAny _ _ (match Builtin.Slice.sliceAdjust none none (-1) (n : Int) with | (lo, hi) => pure (lo, (-1 : Int), Builtin.Slice.slicePlaces lo hi (-1))) _ _ s
  rw [e]
  show wpAny _ _ (pure ((n : Int) - 1, (-1 : Int), Builtin.Slice.slicePlaces ((n : Int) - 1) (-1) (-1))) _ _ s
  rw [e2]
  exact wpAny_pure h
theorem pick_back (xs : Array Value) : ((List.range xs.size).filterMap fun (m : Nat) => xs[(((xs.size : Int) - 1) + (m : Int) * -1).toNat]?).toArray = xs.toList.reverse.toArray := by
  have e : (List.range xs.size).filterMap (fun (m : Nat) => xs[(((xs.size : Int) - 1) + (m : Int) * -1).toNat]?) = (List.range xs.size).filterMap (fun m => xs[xs.size - 1 - m]?) := by
    have aux : ∀ l : List Nat, (∀ m ∈ l, m < xs.size) → l.filterMap (fun (m : Nat) => xs[(((xs.size : Int) - 1) + (m : Int) * -1).toNat]?) = l.filterMap (fun m => xs[xs.size - 1 - m]?) := by
      intro l
      induction l with
      | nil => intro _; rfl
      | cons m r ih =>
        intro hl
        have h1 := hl m List.mem_cons_self
        have e1 : (((xs.size : Int) - 1) + (m : Int) * -1).toNat = xs.size - 1 - m := by omega
        rw [List.filterMap_cons, List.filterMap_cons, e1, ih fun y hy => hl y (List.mem_cons_of_mem _ hy)]
    exact aux _ fun m hm => List.mem_range.mp hm
  rw [e]
  have h2 : (List.range xs.size).filterMap (fun m => xs[xs.size - 1 - m]?) = ((List.range xs.size).map fun k => xs.size - 1 - k).filterMap (xs[·]?) := by
    rw [List.filterMap_map]; rfl
  rw [h2, PySem.W.krv_range, List.filterMap_reverse, PySem.W.krv_all]
theorem tuple_back {t sl : Addr} {t1 : Tok} {items : Array Value} {Q : Value → Shared → Prop} (ht : IsTup s.heap t items) (hs : s.heap.IsSliceOf sl .none .none (.int (-1) t1))
    (h : Q (.ref s.heap.objs.size) { s with heap := s.heap.push { cls := .type "tuple", data := .seq items.toList.reverse.toArray } }) (hsz : items.size ≤ sizeLine) : wpAny (model prog w) A (getItem (.ref t) (.ref sl)) Q E s := by
  have hok : sizeOk (.seq items.toList.reverse.toArray) := by
    show items.toList.reverse.toArray.size ≤ sizeLine
    rw [List.size_toArray, List.length_reverse, Array.length_toList]
    exact hsz
  obtain ⟨os, hos, hcs, hds⟩ := id hs
  have hTs : s.TypeIs (.ref sl) "slice" := ⟨os, hos, hcs⟩
  unfold getItem
  try with_reducible refine wpAny_holding ?_
  first | refine wpAny_bind (wpAny_pure ?_) | skip
  refine wpAny_bind (wpAny_sequenceKey ht.typeIs (by decide) ?_)
  refine wpAny_bind (wpAny_callSpecial?_slot (name := Str.ofString "__getitem__") ht.typeIs PyProof.Rows.slot_tuple_getitem (wpAny_call_entry PyProof.Rows.slot_tuple_getitem ht.typeIs entry_tuple_getitem ?_ (args_tuple_getitem _ _)))
  show wpAny _ _ (Builtin.Tuple.tupleItemsOf (.ref t) >>= _) _ _ s
  refine wpAny_bind (tupleItemsOf_ ht ?_)
  refine wpAny_bind (wpAny_typeOf hTs ?_)
  rw [if_pos (by decide)]
  refine wpAny_bind (applied_back hs ?_)
  have hno : ¬ ((((items.size : Int) - 1) == 0 && (-1 : Int) == 1 && items.size == items.size) = true) := by
    intro q
    rw [Bool.and_eq_true, Bool.and_eq_true] at q
    exact absurd q.1.2 (by decide)
  show wpAny _ _ (if (((items.size : Int) - 1) == 0 && (-1 : Int) == 1 && items.size == items.size) = true then _ else _) _ _ s
  rw [if_neg hno, pick_back]
  first
    | exact wpAny_bind (m := Builtin.Tuple.tupleExact _) (wpAny_newObj_type (wpAny_pure ⟨_, rfl, wpAny_pure h⟩) hok)
    | exact wpAny_bind (wpAny_newObj_type (wpAny_bind (wpAny_pure (wpAny_pure ⟨_, rfl, wpAny_pure h⟩))) hok)
end
section
variable {X : Cx} {p : Pl}
/-- e[::-1] -/
theorem pe_back (hK : p.K = X.K) {e : Expr} {te : TE} {k : Nat} {p1 p2 p3 pos : Pos} (m : Bool) (he : PE X e te) : PE X (.Subscript e (.Slice none none (some (.UnaryOp .USub (.Constant (.int 1) k p1) p2)) p3) pos) (tUn (r1 p (opRev m)) te) := by
  refine ⟨fun pins s σ H Q I h => ?_⟩
  refine Subscript_ (thn (he.run pins s σ H _ I h) fun v s1 ⟨x, H1, I1, r1, W, st, a, rp, ra, q⟩ => ?_)
  have hst : PO X (some (.UnaryOp .USub (.Constant (.int 1) k p1) p2)) (tPart (tUn (rU fun i => .int (-i)) (tC (.int 1)))) := po_some (pe_un un_neg pe_int)
  refine wpAny_Slice ?_
  rw [evalPart_none]
  refine wpAny_pure (wpAny_pure ?_)
  refine thn (hst.run pins s1 σ H1 (fun o H4 => o = some (-1) ∧ H4 = H1) I1 ⟨1, rfl, -1, rfl, rfl, rfl⟩) fun vs s4 ⟨o, H4, I4, ps, eo, e4⟩ => ?_
  subst eo
  subst e4
  have I5 : Inv X pins σ H4 { s4 with heap := s4.heap.push { cls := .type "slice", data := .fields #[.none, .none, vs] } } := I4.kept (t' := s4.toks) fun b ob q => Heap.get?_push_of_some _ q
  have hfr := I5.hok.fresh (Nat.le_refl _)
  unfold opRev at q
  split at q
  · obtain ⟨ad, ws, rfl, h1, q1⟩ := tup_rd rp ra
    cases r1
    obtain ⟨its, rv, ht, hz⟩ := I5.tuple (hK ▸ h1)
    cases ps with
    | int i t1 =>
      refine tail_any (ops := [.ref ad, .ref s4.heap.objs.size]) ht.typeIs (PyProof.Rows.slot_tuple_getitem.lookup) ?_ (by with_unfolding_all rfl)
      refine tuple_back ht (Heap.IsSliceOf.new _ .none .none (.int (-1) t1)) ?_ (by rw [List.size_toArray, ← rv.length]; exact hz)
      obtain ⟨W', l, f, rp', e⟩ := rp.fresh (a := _) (o := .tup ws.reverse) hfr (fun ps z => by cases z)
      refine ⟨.ref _, _, I5.laid (t' := s4.toks) (o := .tup ws.reverse) (fun b ob q => Heap.get?_push_of_some _ q) (Nat.le_refl _) ?_, rfl, q _ _ _ l f rp' (rel_tup (SqT.of e) (q1.reverse.mono l))⟩
      exact ⟨by rw [List.length_reverse]; exact hz, _, rv.reverse, ⟨_, Heap.get?_push_size _ rfl, rfl, _, rfl⟩⟩
  · split at q
    · rename_i xs hx
      obtain ⟨ad, ws, rfl, h1, q1⟩ := lst_rd rp hx ra
      cases r1
      obtain ⟨its, rv, ht, hz⟩ := I5.list (SqL.of h1)
      refine tail_any (ops := [.ref ad, .ref s4.heap.objs.size]) ht.isList.typeIs (PySem.slot_list_getitem.lookup) ?_ (by with_unfolding_all rfl)
      refine wpAny_getItem_list_slice ht.isList (Heap.IsSliceOf.new _ .none .none vs) .none .none ps (by decide) ?_ (by rw [List.size_toArray, ← rv.length]; exact hz)
      rw [PySem.W.krv_pick]
      refine ⟨.ref _, _, I5.laid (t' := s4.toks) (o := .lst ws.reverse) (fun b ob q => Heap.get?_push_of_some _ q) (Nat.le_refl _) ?_, rfl, mkL_ok rp q q1.reverse hfr⟩
      exact ⟨by rw [List.length_reverse]; exact hz, _, 0, rv.reverse, Heap.get?_push_size _ rfl⟩
    · exact q.elim
end
end Z

set_option Elab.async false
set_option linter.all false
set_option maxRecDepth 100000
/-! Z4: meanings of expressions by their parts, and their rules. -/
namespace Z
open PySem PySem.Spec PyProof.Rows L2
/-! ### meanings -/
def R.of {α : Type} : Option (α × Sto) → R α
  | some (d, s) => .ok d s
  | none => .bad
def mC (d : D) : ME := fun _ s => .ok d s
def mBad : ME := fun _ _ => .bad
def mVar (i : Nat) : ME := fun e s => match e[i]? with
  | some (some d) => .ok d s
  | _ => .bad
def m1 (f : B1) (a : ME) : ME := fun e s => (a e s).bind fun x s1 => R.of (f x s1)
def m2 (f : B2) (a b : ME) : ME := fun e s => (a e s).bind fun x s1 => (b e s1).bind fun y s2 => R.of (f x y s2)
def truthR (d : D) (s : Sto) : R Bool := match truth d s with
  | some b => .ok b s
  | none => .bad
def mT (a : ME) : MB := fun e s => (a e s).bind truthR
def mB (a : ME) : MB := fun e s => (a e s).bind fun d s1 => match d with
  | .bl b => .ok b s1
  | _ => .bad
def bNot (a : MB) : MB := fun e s => (a e s).bind fun b s1 => .ok (!b) s1
def bAnd (a b : MB) : MB := fun e s => (a e s).bind fun x s1 => if x then b e s1 else .ok false s1
def bOr (a b : MB) : MB := fun e s => (a e s).bind fun x s1 => if x then .ok true s1 else b e s1
def bIf (c a b : MB) : MB := fun e s => (c e s).bind fun x s1 => if x then a e s1 else b e s1
def mIf (c : MB) (a b : ME) : ME := fun e s => (c e s).bind fun x s1 => if x then a e s1 else b e s1
def mNot (a : ME) : ME := fun e s => (mT a e s).bind fun b s1 => .ok (.bl (!b)) s1
def mAnd (a b : ME) : ME := fun e s => (a e s).bind fun d s1 => (truthR d s1).bind fun k s2 => if k then b e s2 else .ok d s2
def mOr (a b : ME) : ME := fun e s => (a e s).bind fun d s1 => (truthR d s1).bind fun k s2 => if k then .ok d s2 else b e s2
def aNil : MA := fun _ s => .ok [] s
def aCons (a : ME) (r : MA) : MA := fun e s => (a e s).bind fun x s1 => (r e s1).bind fun xs s2 => .ok (x :: xs) s2
def mTup (as : MA) : ME := fun e s => (as e s).bind fun xs s1 => R.of (mkT xs s1)
def mLst (m : Bool) (as : MA) : ME := fun e s => (as e s).bind fun xs s1 => R.of (mkL m xs s1)
/-- a op b op' c -/
def mChain (f g : B2) (a b c : ME) : ME := fun e s => (a e s).bind fun x s1 => (b e s1).bind fun y s2 => (R.of (f x y s2)).bind fun z s3 => match z with
  | .bl true => (c e s3).bind fun w s4 => R.of (g y w s4)
  | .bl false => .ok (.bl false) s3
  | _ => .bad
abbrev MO := Env → Sto → R (Option Int)
def oNone : MO := fun _ s => .ok none s
def oSome (a : ME) : MO := fun e s => (a e s).bind fun d s1 => match d with
  | .int i => .ok (some i) s1
  | _ => .bad
def mSl (m : Bool) (a : ME) (lo hi : MO) : ME := fun e s => (a e s).bind fun x s1 => (lo e s1).bind fun l s2 => (hi e s2).bind fun h s3 => R.of (opSl m x l h s3)

section
variable {X : Cx} {p : Pl} {WX : L2.WX}
theorem Post.of {α β : Type} {Rl : Wd → α → β → Prop} {W : Wd} {H : Hp} {EX : Nat → Hp → Prop} {Q : β → Hp → Prop} {r : Option (α × Sto)} (h : Post p Rl W H EX Q (R.of r)) : PostO p Rl W H Q r := by
  cases r with
  | none => exact h
  | some x => obtain ⟨d, s⟩ := x; exact h
theorem Post.same {α β : Type} {Rl : Wd → α → β → Prop} {W : Wd} {s : Sto} {H : Hp} {EX : Nat → Hp → Prop} {Q : β → Hp → Prop} {d : α} {v : β} (r : Rep p W s H) (h : Post p Rl W H EX Q (.ok d s)) (rv : Rl W d v) : Q v H := h W H v (Wd.le.refl W) (Fr.refl W H) r rv
/-! ### names, constants -/
theorem r_var {i : Nat} {x : Str} {pos : Pos} (hN : X.N[i]? = some x) (hv : Vis X.env.scope x) (hd : (x == ("__debug__" : Str)) = false) (hcd : (x == ("__classdict__" : Str)) = false) : PE X (.Name x pos) (tE p WX (mVar i)) := by
  refine PE.imp (pe_var hN hv hd hcd) fun σ H Q ⟨W, e, s, re, rp, q⟩ => ?_
  unfold mVar at q
  split at q
  · rename_i d hd
    obtain ⟨v, h1, h2⟩ := re.at_ i d hd
    exact ⟨v, h1, q.same rp h2⟩
  · exact q.elim
theorem r_bad {e : Expr} : PE X e (tE p WX mBad) := ⟨fun _ _ _ _ _ _ ⟨_, _, _, _, _, q⟩ => q.elim⟩
theorem r_C {e : Expr} {d : D} {v : V} (h : PE X e (tC v)) (r : ∀ W, RelD p.K W d v) : PE X e (tE p WX (mC d)) :=
  PE.imp h fun σ H Q ⟨W, e, s, re, rp, q⟩ => q.same rp (r W)
/-! ### operators -/
theorem r_m1 {f : B1} {a : ME} {ea e : Expr} (hu : ∀ {t : TE}, PE X ea t → PE X e (tUn (r1 p f) t)) (ha : PE X ea (tE p WX a)) : PE X e (tE p WX (m1 f a)) :=
  PE.imp (hu ha) fun σ H Q ⟨W, e, s, re, rp, q⟩ => ⟨W, e, s, re, rp, q.bind fun W1 H1 d v s1 l fr rp1 rv q1 => ⟨W1, s1, d, rp1, rv, q1.of⟩⟩
theorem t_m2 {f : B2} {a b : ME} {σ : L2.St} {H : Hp} {Q : VK} (h : tE p WX (m2 f a b) σ H Q) : tOp (r2 p f) (tE p WX a) (tE p WX b) σ H Q := by
  obtain ⟨W, e, s, re, rp, q⟩ := h
  exact ⟨W, e, s, re, rp, q.bind fun W1 H1 d v s1 l fr rp1 rv q1 => ⟨W1, e, s1, re.mono l, rp1, q1.bind fun W2 H2 d2 v2 s2 l2 fr2 rp2 rv2 q2 => ⟨W2, s2, d, d2, rp2, rv.mono l2, rv2, q2.of⟩⟩⟩
theorem r_bin {f : B2} {op : Operator} {a b : ME} {ea eb : Expr} {pos : Pos} (ho : OpR X (binaryOp op) (r2 p f)) (ha : PE X ea (tE p WX a)) (hb : PE X eb (tE p WX b)) : PE X (.BinOp ea op eb pos) (tE p WX (m2 f a b)) :=
  PE.imp (pe_op ho ha hb) fun _ _ _ h => t_m2 h
theorem r_cmp {f : B2} {op : CmpOp} {a b : ME} {ea eb : Expr} {pos : Pos} (ho : OpR X (compareOp op) (r2 p f)) (ha : PE X ea (tE p WX a)) (hb : PE X eb (tE p WX b)) (hm : behindInMarks op eb = false) : PE X (.Compare ea [op] [eb] pos) (tE p WX (m2 f a b)) :=
  PE.imp (pe_cmpR ho ha hb hm) fun _ _ _ h => t_m2 h
/-- what follows may be folded into the wish -/
theorem Post.fold {α α' β β' : Type} {Rl : Wd → α → β → Prop} {Rl' : Wd → α' → β' → Prop} {W : Wd} {H : Hp} {EX : Nat → Hp → Prop} {Q : β' → Hp → Prop} {G : β → Hp → Prop} {r : R α} {f : α → Sto → R α'}
    (h : Post p Rl' W H EX Q (r.bind f)) (hg : ∀ W' H' d v s, W.le W' → Fr W W' H H' → Rep p W' s H' → Rl W' d v → Post p Rl' W' H' EX Q (f d s) → G v H') : Post p Rl W H EX G r := h.bind hg
theorem Post.isB {W : Wd} {H : Hp} {EX : Nat → Hp → Prop} {Q : Bool → Hp → Prop} {r : R D} (h : Post p (fun _ b c => c = b) W H EX Q (r.bind fun d s1 => match d with | .bl b => .ok b s1 | _ => .bad)) :
    Post p (RelD p.K) W H EX (fun x H1 => ∃ k, x = .bl k ∧ Q k H1) r := h.fold fun W1 H1 d v s1 l fr rp1 rv q1 => by
  cases d with
  | bl b => exact ⟨b, relD_bl rv, q1.same rp1 rfl⟩
  | _ => exact q1.elim
theorem truth_ok {W : Wd} {st : Sto} {H : Hp} {d : D} {v : V} {k : Bool} (rp : Rep p W st H) (h : truth d st = some k) (rv : RelD p.K W d v) : TruV p.K v H k := by
  have eE : ∀ {ds : List D} {vs : List V}, RelDs p.K W ds vs → (!ds.isEmpty) = !vs.isEmpty := fun {ds vs} r => by
    cases ds with
    | nil => unfold RelDs at r; subst r; rfl
    | cons a b => unfold RelDs at r; obtain ⟨x, y, rfl, _, _⟩ := r; rfl
  cases d with
  | non => cases relD_non rv; cases h; rfl
  | bl b => cases relD_bl rv; cases h; rfl
  | int i => cases relD_int rv; cases h; rfl
  | str x =>
    cases relD_str rv
    have h' : (if x.length ≤ line then some (!x.cps.toList.isEmpty) else none) = some k := h
    split at h'
    · rename_i hz
      cases h'
      refine ⟨by rw [sizeLine_eq]; exact hz, ?_⟩
      have e : x.length = x.cps.toList.length := by simp [Str.length]
      rw [e]
      cases x.cps.toList with
      | nil => rfl
      | cons a b =>
        show true = _
        have : (((a :: b).length : Nat) : Int) ≠ 0 := by
          rw [List.length_cons]; omega
        simp only [bne_iff_ne, ne_eq, this, not_false_eq_true, bne_self_eq_false, Bool.true_eq]
    · cases h'
  | tup xs =>
    obtain ⟨a, vs, rfl, h1, q1⟩ := tup_rd rp rv
    cases h
    exact .inr (.inl ⟨vs, h1, eE q1⟩)
  | lst xs =>
    obtain ⟨a, vs, rfl, h1, q1⟩ := lst_rd (d := .lst xs) rp rfl rv
    cases h
    exact .inl ⟨vs, SqL.of h1, eE q1⟩
  | scr xs =>
    obtain ⟨a, vs, rfl, h1, q1⟩ := relD_scr rv
    cases h
    exact .inl ⟨vs, seqL_mono rp.fz h1, eE q1⟩
  | ref n =>
    obtain ⟨a, rfl, i⟩ := relD_ref rv
    have h' : (match st[n]? with | some (.lst xs) => some (!xs.isEmpty) | some (.dct kvs) => some (!kvs.isEmpty) | _ => none) = some k := h
    split at h'
    · rename_i xs e
      cases h'
      obtain ⟨z, vs, h1, q1⟩ := rp.obs n _ a e i
      exact .inl ⟨vs, SqL.of h1, eE q1⟩
    · rename_i kvs e
      cases h'
      obtain ⟨z, kws, h1, q1⟩ := rp.obs n _ a e i
      refine .inr (.inr ⟨kws, h1, ?_⟩)
      cases q1 <;> rfl
    · cases h'
  | lam n => cases h
theorem Post.isT {W : Wd} {H : Hp} {EX : Nat → Hp → Prop} {Q : Bool → Hp → Prop} {r : R D} (hK : p.K = X.K) (h : Post p (fun _ b c => c = b) W H EX Q (r.bind truthR)) :
    Post p (RelD p.K) W H EX (fun x H1 => ∃ k, TruV X.K x H1 k ∧ Q k H1) r := h.fold fun W1 H1 d v s1 l fr rp1 rv q1 => by
  unfold truthR at q1
  split at q1
  · rename_i k hk
    exact ⟨k, hK ▸ truth_ok rp1 hk rv, q1.same rp1 rfl⟩
  · exact q1.elim
theorem m2_fold {f : B2} {a b : ME} {σ : L2.St} {H : Hp} {G : VK} {W : Wd} {e : Env} {s : Sto} (re : RelE p W e σ) (rp : Rep p W s H) (q : Post p (RelD p.K) W H (exW p WX σ) G (m2 f a b e s)) : tOp (r2 p f) (tE p WX a) (tE p WX b) σ H G := t_m2 ⟨W, e, s, re, rp, q⟩
theorem r_cmpT {f : B2} {op : CmpOp} {a b : ME} {ea eb : Expr} {pos : Pos} (ho : OpR X (compareOp op) (r2 p f)) (ha : PE X ea (tE p WX a)) (hb : PE X eb (tE p WX b)) (hm : behindInMarks op eb = false) : PT X (.Compare ea [op] [eb] pos) (tB p WX (mB (m2 f a b))) :=
  PT.imp (pt_cmpR ho ha hb hm) fun _ _ _ ⟨_, _, _, re, rp, q⟩ => m2_fold re rp (Post.isB q)
/-- any expression as a test, by its truth -/
theorem r_T {a : ME} {ea : Expr} (hK : p.K = X.K) (ha : PE X ea (tE p WX a)) (he : ∀ whole, isTrue ea X.env whole = (do let v ← whole; standAt ea.pos; holding [v] (truthy v))) : PT X ea (tB p WX (mT a)) :=
  PT.imp (pt_truth ha he) fun _ _ _ ⟨W, e, s, re, rp, q⟩ => ⟨W, e, s, re, rp, Post.isT hK q⟩
/-! ### chains -/
theorem t_chain {f g : B2} {a b c : ME} {σ : L2.St} {H : Hp} {Q : VK} (h : tE p WX (mChain f g a b c) σ H Q) : tChain (r2 p f) (r2 p g) (tE p WX a) (tE p WX b) (tE p WX c) σ H Q := by
  obtain ⟨W, e, s, re, rp, q⟩ := h
  refine ⟨W, e, s, re, rp, q.bind fun W1 H1 d v s1 l fr rp1 rv q1 => ⟨W1, e, s1, re.mono l, rp1, q1.bind fun W2 H2 d2 v2 s2 l2 fr2 rp2 rv2 q2 => ⟨W2, s2, d, d2, rp2, rv.mono l2, rv2, Post.of (Post.fold q2 fun W3 H3 d3 v3 s3 l3 fr3 rp3 rv3 q3 => ?_)⟩⟩⟩
  cases d3 with
  | bl k =>
    refine ⟨k, relD_bl rv3, ?_⟩
    cases k with
    | true =>
      rw [if_pos rfl]
      have q4 : Post p (RelD p.K) W3 H3 (exW p WX σ) Q ((c e s3).bind fun w s4 => R.of (g d2 w s4)) := q3
      exact ⟨W3, e, s3, ((re.mono l).mono l2).mono l3, rp3, q4.bind fun W4 H4 d4 v4 s4 l4 fr4 rp4 rv4 q5 => ⟨W4, s4, d2, d4, rp4, (rv2.mono l3).mono l4, rv4, q5.of⟩⟩
    | false =>
      rw [if_neg Bool.false_ne_true]
      have q4 : Post p (RelD p.K) W3 H3 (exW p WX σ) Q (.ok (.bl false) s3) := q3
      exact q4.same rp3 rel_bl
  | _ => exact q3.elim
theorem r_chain {f g : B2} {op op' : CmpOp} {a b c : ME} {ea eb ec : Expr} {pos : Pos} (ho : OpR X (compareOp op) (r2 p f)) (ho' : OpR X (compareOp op') (r2 p g)) (ha : PE X ea (tE p WX a)) (hb : PE X eb (tE p WX b)) (hc : PE X ec (tE p WX c)) (hm : lastMarks [op, op'] [eb, ec] = false) :
    PE X (.Compare ea [op, op'] [eb, ec] pos) (tE p WX (mChain f g a b c)) := PE.imp (pe_chain ho ho' ha hb hc hm) fun _ _ _ h => t_chain h
theorem r_chainT {f g : B2} {op op' : CmpOp} {a b c : ME} {ea eb ec : Expr} {pos : Pos} (ho : OpR X (compareOp op) (r2 p f)) (ho' : OpR X (compareOp op') (r2 p g)) (ha : PE X ea (tE p WX a)) (hb : PE X eb (tE p WX b)) (hc : PE X ec (tE p WX c)) (hm : lastMarks [op, op'] [eb, ec] = false) :
    PT X (.Compare ea [op, op'] [eb, ec] pos) (tB p WX (mB (mChain f g a b c))) := PT.imp (pt_chain ho ho' ha hb hc hm) fun _ _ _ ⟨W, e, s, re, rp, q⟩ => t_chain ⟨W, e, s, re, rp, Post.isB q⟩
/-! ### and, or, not, if -/
theorem r_bNot {a : MB} {ea : Expr} {pos : Pos} (ha : PT X ea (tB p WX a)) : PT X (.UnaryOp .Not ea pos) (tB p WX (bNot a)) :=
  PT.imp (pt_not ha) fun _ _ _ ⟨W, e, s, re, rp, q⟩ => ⟨W, e, s, re, rp, q.fold fun W1 H1 d v s1 l fr rp1 rv q1 => by subst rv; exact Post.same rp1 q1 rfl⟩
theorem PW.imp {X : Cx} {e : Expr} {t t' : TT} (h : PW X e t) (i : ∀ σ H Q, t' σ H Q → t σ H Q) : PW X e t' := ⟨fun whole pins s σ H Q I q => h.run whole pins s σ H Q I (i σ H Q q)⟩
theorem r_bAnd {a b : MB} {ea eb : Expr} {rest : List Expr} {pos : Pos} (ha : PT X ea (tB p WX a)) (hb : PW X (.BoolOp .And (eb :: rest) pos) (tB p WX b)) : PW X (.BoolOp .And (ea :: eb :: rest) pos) (tB p WX (bAnd a b)) :=
  PW.imp (pw_and ha hb) fun _ _ _ ⟨W, e, s, re, rp, q⟩ => ⟨W, e, s, re, rp, q.fold fun W1 H1 d v s1 l fr rp1 rv q1 => by
    subst rv
    cases v with
    | true => rw [if_pos rfl]; exact ⟨W1, e, s1, re.mono l, rp1, q1⟩
    | false => rw [if_neg Bool.false_ne_true]; exact Post.same rp1 q1 rfl⟩
theorem r_bOr {a b : MB} {ea eb : Expr} {rest : List Expr} {pos : Pos} (ha : PT X ea (tB p WX a)) (hb : PW X (.BoolOp .Or (eb :: rest) pos) (tB p WX b)) : PW X (.BoolOp .Or (ea :: eb :: rest) pos) (tB p WX (bOr a b)) :=
  PW.imp (pw_or ha hb) fun _ _ _ ⟨W, e, s, re, rp, q⟩ => ⟨W, e, s, re, rp, q.fold fun W1 H1 d v s1 l fr rp1 rv q1 => by
    subst rv
    cases v with
    | true => rw [if_pos rfl]; exact Post.same rp1 q1 rfl
    | false => rw [if_neg Bool.false_ne_true]; exact ⟨W1, e, s1, re.mono l, rp1, q1⟩⟩
theorem r_if {c : MB} {a b : ME} {ec ea eb : Expr} {pos : Pos} (hc : PT X ec (tB p WX c)) (ha : PE X ea (tE p WX a)) (hb : PE X eb (tE p WX b)) : PE X (.IfExp ec ea eb pos) (tE p WX (mIf c a b)) :=
  PE.imp (pe_ifExp hc ha hb) fun _ _ _ ⟨W, e, s, re, rp, q⟩ => ⟨W, e, s, re, rp, q.fold fun W1 H1 d v s1 l fr rp1 rv q1 => by
    subst rv
    cases v with
    | true => rw [if_pos rfl]; exact ⟨W1, e, s1, re.mono l, rp1, q1⟩
    | false => rw [if_neg Bool.false_ne_true]; exact ⟨W1, e, s1, re.mono l, rp1, q1⟩⟩
theorem Post.tru {W : Wd} {H : Hp} {α β : Type} {Rl : Wd → α → β → Prop} {EX : Nat → Hp → Prop} {Q : β → Hp → Prop} {d : D} {v : V} {st : Sto} {f : Bool → Sto → R α} (hK : p.K = X.K) (rp : Rep p W st H) (rv : RelD p.K W d v) (h : Post p Rl W H EX Q ((truthR d st).bind f)) :
    ∃ k, TruV X.K v H k ∧ Post p Rl W H EX Q (f k st) := by
  unfold truthR at h
  split at h
  · rename_i k hk
    exact ⟨k, hK ▸ truth_ok rp hk rv, h⟩
  · exact h.elim
theorem r_and {a b : ME} {ea eb : Expr} {rest : List Expr} {pos : Pos} (hK : p.K = X.K) (ha : PE X ea (tE p WX a)) (hb : PE X (.BoolOp .And (eb :: rest) pos) (tE p WX b)) : PE X (.BoolOp .And (ea :: eb :: rest) pos) (tE p WX (mAnd a b)) :=
  PE.imp (pe_andT ha hb) fun _ _ _ ⟨W, e, s, re, rp, q⟩ => ⟨W, e, s, re, rp, q.fold fun W1 H1 d v s1 l fr rp1 rv q1 => by
    obtain ⟨k, hk, q2⟩ := Post.tru hK rp1 rv q1
    refine ⟨k, hk, ?_⟩
    cases k with
    | true => rw [if_pos rfl]; exact ⟨W1, e, s1, re.mono l, rp1, q2⟩
    | false => rw [if_neg Bool.false_ne_true]; exact Post.same rp1 q2 rv⟩
theorem r_or {a b : ME} {ea eb : Expr} {rest : List Expr} {pos : Pos} (hK : p.K = X.K) (ha : PE X ea (tE p WX a)) (hb : PE X (.BoolOp .Or (eb :: rest) pos) (tE p WX b)) : PE X (.BoolOp .Or (ea :: eb :: rest) pos) (tE p WX (mOr a b)) :=
  PE.imp (pe_orT ha hb) fun _ _ _ ⟨W, e, s, re, rp, q⟩ => ⟨W, e, s, re, rp, q.fold fun W1 H1 d v s1 l fr rp1 rv q1 => by
    obtain ⟨k, hk, q2⟩ := Post.tru hK rp1 rv q1
    refine ⟨k, hk, ?_⟩
    cases k with
    | true => rw [if_pos rfl]; exact Post.same rp1 q2 rv
    | false => rw [if_neg Bool.false_ne_true]; exact ⟨W1, e, s1, re.mono l, rp1, q2⟩⟩
theorem r_not {a : ME} {ea : Expr} {pos : Pos} (hK : p.K = X.K) (ha : PE X ea (tE p WX a)) : PE X (.UnaryOp .Not ea pos) (tE p WX (mNot a)) :=
  PE.imp (pe_notT ha) fun σ H Q ⟨W, e, s, re, rp, q⟩ => by
    have q' : Post p (RelD p.K) W H (exW p WX σ) Q ((a e s).bind fun d s1 => (truthR d s1).bind fun b s2 => .ok (.bl (!b)) s2) := by
      have e1 : mNot a e s = (a e s).bind fun d s1 => (truthR d s1).bind fun b s2 => .ok (.bl (!b)) s2 := by
        unfold mNot mT
        cases a e s <;> rfl
      rw [← e1]; exact q
    exact ⟨W, e, s, re, rp, q'.fold fun W1 H1 d v s1 l fr rp1 rv q1 => by
      obtain ⟨k, hk, q2⟩ := Post.tru hK rp1 rv q1
      exact ⟨k, hk, Post.same rp1 q2 rel_bl⟩⟩
/-! ### arguments, displays -/
theorem r_nil : PA X [] (tA p WX aNil) := PA.imp pa_nil fun _ _ _ ⟨W, e, s, re, rp, q⟩ => Post.same rp q relDs_nil
theorem r_cons {a : ME} {r : MA} {ea : Expr} {es : List Expr} (ha : PE X ea (tE p WX a)) (hr : PA X es (tA p WX r)) (he : starEach (ea :: es) X.env = (false, eval ea X.env) :: starEach es X.env) : PA X (ea :: es) (tA p WX (aCons a r)) :=
  PA.imp (pa_cons ha hr he) fun _ _ _ ⟨W, e, s, re, rp, q⟩ => ⟨W, e, s, re, rp, q.fold fun W1 H1 d v s1 l fr rp1 rv q1 => ⟨W1, e, s1, re.mono l, rp1, q1.fold fun W2 H2 d2 v2 s2 l2 fr2 rp2 rv2 q2 => Post.same rp2 q2 (relDs_cons (rv.mono l2) rv2)⟩⟩
theorem r_tup {as : MA} {es : List Expr} {k : Nat} {pos : Pos} (ha : PA X es (tA p WX as)) : PE X (.Tuple es k pos) (tE p WX (mTup as)) :=
  PE.imp (pe_tup ha) fun _ _ _ ⟨W, e, s, re, rp, q⟩ => ⟨W, e, s, re, rp, q.fold fun W1 H1 d v s1 l fr rp1 rv q1 => ⟨by rw [← rv.length]; exact mkT_len q1.of, fun a n => mkT_ok rp1 q1.of rv n⟩⟩
theorem r_lst {m : Bool} {as : MA} {es : List Expr} {pos : Pos} (ha : PA X es (tA p WX as)) : PE X (.List es pos) (tE p WX (mLst m as)) :=
  PE.imp (pe_lst ha) fun _ _ _ ⟨W, e, s, re, rp, q⟩ => ⟨W, e, s, re, rp, q.fold fun W1 H1 d v s1 l fr rp1 rv q1 => ⟨by rw [← rv.length]; exact mkL_len q1.of, fun a n => mkL_ok rp1 q1.of rv n⟩⟩
/-! ### subscripts -/
theorem r_ix {a b : ME} {ea eb : Expr} {pos : Pos} (hK : p.K = X.K) (ha : PE X ea (tE p WX a)) (hb : PE X eb (tE p WX b)) (hs : PlainIx eb) : PE X (.Subscript ea eb pos) (tE p WX (m2 opIx a b)) :=
  PE.imp (pe_ix (ix_R hK) ha hb hs) fun _ _ _ h => t_m2 h
theorem PO.imp {X : Cx} {e : Option Expr} {t t' : TO} (h : PO X e t) (i : ∀ σ H Q, t' σ H Q → t σ H Q) : PO X e t' := ⟨fun pins s σ H Q I q => h.run pins s σ H Q I (i σ H Q q)⟩
def tO (p : Pl) (WX : L2.WX) (m : MO) : TO := fun σ H Q => ∃ W e s, RelE p W e σ ∧ Rep p W s H ∧ Post p (fun _ b c => c = b) W H (exW p WX σ) Q (m e s)
theorem r_oNone : PO X none (tO p WX oNone) := PO.imp po_none fun _ _ _ ⟨W, e, s, re, rp, q⟩ => Post.same rp q rfl
theorem r_oSome {a : ME} {ea : Expr} (ha : PE X ea (tE p WX a)) : PO X (some ea) (tO p WX (oSome a)) := PO.imp (po_some ha) fun _ _ _ ⟨W, e, s, re, rp, q⟩ => ⟨W, e, s, re, rp, q.fold fun W1 H1 d v s1 l fr rp1 rv q1 => by
  cases d with
  | int i => exact ⟨i, relD_int rv, Post.same rp1 q1 rfl⟩
  | _ => exact q1.elim⟩
theorem r_sl {m : Bool} {a : ME} {lo hi : MO} {ea : Expr} {el eh : Option Expr} {p2 pos : Pos} (hK : p.K = X.K) (ha : PE X ea (tE p WX a)) (hl : PO X el (tO p WX lo)) (hh : PO X eh (tO p WX hi)) : PE X (.Subscript ea (.Slice el eh none p2) pos) (tE p WX (mSl m a lo hi)) :=
  PE.imp (pe_slice (sl_R hK m) ha hl hh) fun _ _ _ ⟨W, e, s, re, rp, q⟩ => ⟨W, e, s, re, rp, q.fold fun W1 H1 d v s1 l fr rp1 rv q1 => ⟨W1, e, s1, re.mono l, rp1, q1.fold fun W2 H2 d2 v2 s2 l2 fr2 rp2 rv2 q2 =>
    ⟨W2, e, s2, (re.mono l).mono l2, rp2, q2.fold fun W3 H3 d3 v3 s3 l3 fr3 rp3 rv3 q3 => by subst rv2; subst rv3; exact ⟨W3, s3, d, rp3, (rv.mono l2).mono l3, q3.of⟩⟩⟩⟩
theorem r_back {m : Bool} {a : ME} {ea : Expr} {k : Nat} {p1 p2 p3 pos : Pos} (hK : p.K = X.K) (ha : PE X ea (tE p WX a)) : PE X (.Subscript ea (.Slice none none (some (.UnaryOp .USub (.Constant (.int 1) k p1) p2)) p3) pos) (tE p WX (m1 (opRev m) a)) := r_m1 (fun h => pe_back hK m h) ha
end
end Z

set_option Elab.async false
set_option linter.all false
set_option maxRecDepth 100000
/-! Z5: statements. -/
namespace Z
open PySem PySem.Spec PyProof.Rows L2
/-! ### meanings -/
def R.out {α : Type} (r : R α) (e : Env) (f : α → Sto → Out) : Out := match r with
  | .ok a s => f a s
  | .exc c s => .ex c e s
  | .bad => .bad
/-- a store: no exception comes of it -/
abbrev Tg := D → Env → Sto → Option (Env × Sto)
def goOn (r : Option (Env × Sto)) : Out := match r with
  | some (e, s) => .nx e s
  | none => .bad
def sBad : MS := fun _ _ => .bad
def sPass : MS := fun e s => .nx e s
def sBreak : MS := fun e s => .bk e s
def sCont : MS := fun e s => .ct e s
def sRet (m : ME) : MS := fun e s => (m e s).out e fun d s1 => .rt d s1
def sRetN : MS := fun _ s => .rt .non s
def sExpr (m : ME) : MS := fun e s => (m e s).out e fun _ s1 => .nx e s1
def sIf (c : MB) (a b : MS) : MS := fun e s => (c e s).out e fun x s1 => if x then a e s1 else b e s1
def sSeq (a b : MS) : MS := fun e s => match a e s with
  | .nx e1 s1 => b e1 s1
  | .rt d s1 => .rt d s1
  | .bk e1 s1 => .bk e1 s1
  | .ct e1 s1 => .ct e1 s1
  | .ex c e1 s1 => .ex c e1 s1
  | .bad => .bad
def sAsg (t : Tg) (m : ME) : MS := fun e s => (m e s).out e fun d s1 => goOn (t d e s1)
def tName (i : Nat) : Tg := fun d e s => some (e.set i (some d), s)
def tAll : List Tg → List D → Env → Sto → Option (Env × Sto)
  | [], [], e, s => some (e, s)
  | t :: ts, d :: ds, e, s => (match t d e s with
    | some (e1, s1) => tAll ts ds e1 s1
    | none => none)
  | _, _, _, _ => none
def tTup (ts : List Tg) : Tg := fun d e s => match d with
  | .tup xs => tAll ts xs e s
  | _ => none
/-- a store to a place -/
abbrev B3 := D → D → D → Sto → Option Sto
def setIx : B3 := fun o i v s => match o, i with
  | .ref n, .int k => (match atS n s with
    | some xs => (match L2.ixN xs.length k with
      | some j => some (s.set n (.lst (xs.set j v)))
      | none => none)
    | none => none)
  | _, _ => none
def tSub (o i : ME) : Tg := fun d e s => match o e s with
  | .ok od s1 => (match i e s1 with
    | .ok id s2 => (match setIx od id d s2 with
      | some s3 => some (e, s3)
      | none => none)
    | _ => none)
  | _ => none
/-- in place -/
def ipAdd : B2 := fun x y s => match x, y with
  | .int i, .int j => some (.int (i + j), s)
  | .str i, .str j => if i.length + j.length ≤ line then some (.str (i ++ j), s) else none
  | .ref n, y => (match atS n s, lstOf y s with
    | some xs, some ys => if xs.length + ys.length ≤ line then some (.ref n, s.set n (.lst (xs ++ ys))) else none
    | _, _ => none)
  | _, _ => none
def ipBin : Operator → B2
  | .Add => ipAdd
  | .Sub => opSub
  | .Mult => fun x y s => match x, y with
    | .int i, .int j => if big i || big j then some (.int (i * j), s) else none
    | _, _ => none
  | .FloorDiv => opFdiv
  | .Mod => opMod
  | _ => fun _ _ _ => none
def sAug (i : Nat) (f : B2) (m : ME) : MS := fun e s => (mVar i e s).out e fun x s0 => (m e s0).out e fun y s1 => (R.of (f x y s1)).out e fun z s2 => .nx (e.set i (some z)) s2
abbrev MI := Env → Sto → R (List D)
def forL (t : Tg) (b : MS) : List D → Env → Sto → Out
  | [], e, s => .nx e s
  | d :: ds, e, s => match t d e s with
    | some (e1, s1) => (match b e1 s1 with
      | .nx e2 s2 => forL t b ds e2 s2
      | .ct e2 s2 => forL t b ds e2 s2
      | .bk e2 s2 => .nx e2 s2
      | .rt d s2 => .rt d s2
      | .ex c e2 s2 => .ex c e2 s2
      | .bad => .bad)
    | none => .bad
def sFor (t : Tg) (i : MI) (b : MS) : MS := fun e s => (i e s).out e fun ds s1 => forL t b ds e s1
def whileL (c : MB) (b : MS) : Nat → Env → Sto → Out
  | 0, _, _ => .bad
  | n + 1, e, s => (c e s).out e fun x s1 => if x then (match b e s1 with
      | .nx e2 s2 => whileL c b n e2 s2
      | .ct e2 s2 => whileL c b n e2 s2
      | .bk e2 s2 => .nx e2 s2
      | .rt d s2 => .rt d s2
      | .ex c e2 s2 => .ex c e2 s2
      | .bad => .bad)
    else .nx e s1
/-- more turns than any loop takes -/
abbrev turns : Nat := 1000000000
def sWhile (c : MB) (b : MS) : MS := fun e s => whileL c b turns e s

/-! ### readings -/
def PostS (p : Pl) (W : Wd) (H : Hp) (WX : L2.WX) (D : Ends) : Out → Prop
  | .nx e s => ∀ W' H' σ', W.le W' → Fr W W' H H' → Rep p W' s H' → RelE p W' e σ' → D.nx σ' H'
  | .rt d s => ∀ W' H' v, W.le W' → Fr W W' H H' → Rep p W' s H' → RelD p.K W' d v → D.rt v H'
  | .bk e s => ∀ W' H' σ', W.le W' → Fr W W' H H' → Rep p W' s H' → RelE p W' e σ' → D.bk σ' H'
  | .ct e s => ∀ W' H' σ', W.le W' → Fr W W' H H' → Rep p W' s H' → RelE p W' e σ' → D.ct σ' H'
  | .ex c e s => ∀ W' H' σ', W.le W' → Fr W W' H H' → Rep p W' s H' → RelE p W' e σ' → WX (.ref (p.xa c)) none σ' H'
  | .bad => False
def tS (p : Pl) (WX : L2.WX) (m : MS) : TS := fun D σ H => ∃ W e s, RelE p W e σ ∧ Rep p W s H ∧ PostS p W H WX D (m e s)
def PostT (p : Pl) (W : Wd) (H : Hp) (Q : L2.St → Hp → Prop) : Option (Env × Sto) → Prop
  | some (e, s) => ∀ W' H' σ', W.le W' → Fr W W' H H' → Rep p W' s H' → RelE p W' e σ' → Q σ' H'
  | none => False
def gT (p : Pl) (t : Tg) : TG := fun v σ H Q => ∃ W e s d, RelE p W e σ ∧ Rep p W s H ∧ RelD p.K W d v ∧ PostT p W H Q (t d e s)
def gTs (p : Pl) (ts : List Tg) : TGs := fun vs σ H Q => ∃ W e s ds, RelE p W e σ ∧ Rep p W s H ∧ RelDs p.K W ds vs ∧ PostT p W H Q (tAll ts ds e s)
section
variable {X : Cx} {p : Pl} {WX : L2.WX} {W W' : Wd} {H H' : Hp} {D : Ends}
theorem PostS.re {o : Out} (l : W.le W') (f : Fr W W' H H') (q : PostS p W H WX D o) : PostS p W' H' WX D o := by
  cases o with
  | nx e s => exact fun W2 H2 v l2 f2 => q W2 H2 v (l.trans l2) (f.trans f2)
  | rt d s => exact fun W2 H2 v l2 f2 => q W2 H2 v (l.trans l2) (f.trans f2)
  | bk e s => exact fun W2 H2 v l2 f2 => q W2 H2 v (l.trans l2) (f.trans f2)
  | ct e s => exact fun W2 H2 v l2 f2 => q W2 H2 v (l.trans l2) (f.trans f2)
  | ex c e s => exact fun W2 H2 v l2 f2 => q W2 H2 v (l.trans l2) (f.trans f2)
  | bad => exact q
/-- an evaluation ahead of the rest of a statement -/
theorem PostS.eval {α β : Type} {Rl : Wd → α → β → Prop} {r : R α} {e : Env} {σ : L2.St} {f : α → Sto → Out} {G : β → Hp → Prop} (re : RelE p W e σ) (q : PostS p W H WX D (r.out e f))
    (hg : ∀ W' H' d v s, W.le W' → Fr W W' H H' → Rep p W' s H' → Rl W' d v → PostS p W' H' WX D (f d s) → G v H') : Post p Rl W H (exW p WX σ) G r := by
  cases r with
  | ok d s => exact fun W' H' v l fr rp rv => hg W' H' d v s l fr rp rv (PostS.re l fr q)
  | exc c s => exact fun W' H' l fr rp => q W' H' σ l fr rp (re.mono l)
  | bad => exact q
theorem PostS.nx {e : Env} {s : Sto} {σ : L2.St} (q : PostS p W H WX D (.nx e s)) (rp : Rep p W s H) (re : RelE p W e σ) : D.nx σ H := q W H σ (Wd.le.refl W) (Fr.refl W H) rp re
theorem PostS.rt {d : Z.D} {s : Sto} {v : V} (q : PostS p W H WX D (.rt d s)) (rp : Rep p W s H) (rv : RelD p.K W d v) : D.rt v H := q W H v (Wd.le.refl W) (Fr.refl W H) rp rv
/-! ### small statements -/
theorem r_pass {pos : Pos} : PS X (.Pass pos) (tS p WX sPass) := PS.imp ps_pass fun _ _ _ ⟨_, _, _, re, rp, q⟩ => q.nx rp re
theorem r_break {pos : Pos} : PS X (.Break pos) (tS p WX sBreak) := PS.imp ps_break fun _ _ _ ⟨W, _, _, re, rp, q⟩ => q W _ _ (Wd.le.refl W) (Fr.refl W _) rp re
theorem r_cont {pos : Pos} : PS X (.Continue pos) (tS p WX sCont) := PS.imp ps_continue fun _ _ _ ⟨W, _, _, re, rp, q⟩ => q W _ _ (Wd.le.refl W) (Fr.refl W _) rp re
theorem r_ret {m : ME} {e : Expr} {pos : Pos} (he : PE X e (tE p WX m)) : PS X (.Return (some e) pos) (tS p WX (sRet m)) :=
  PS.imp (ps_ret he) fun _ _ _ ⟨W, e, s, re, rp, q⟩ => ⟨W, e, s, re, rp, q.eval re fun W1 H1 d v s1 l fr rp1 rv q1 => q1.rt rp1 rv⟩
theorem r_retN {pos : Pos} : PS X (.Return none pos) (tS p WX sRetN) := PS.imp ps_retN fun _ _ _ ⟨_, _, _, re, rp, q⟩ => q.rt rp rel_non
theorem r_expr {m : ME} {e : Expr} {pos : Pos} (he : PE X e (tE p WX m)) (hs : swapsWith e none pos.line X.env = pure false) : PS X (.Expr e pos) (tS p WX (sExpr m)) :=
  PS.imp (ps_expr he hs) fun _ _ _ ⟨W, e, s, re, rp, q⟩ => ⟨W, e, s, re, rp, q.eval re fun W1 H1 d v s1 l fr rp1 rv q1 => q1.nx rp1 (re.mono l)⟩
theorem r_ifS {c : MB} {a b : MS} {ec : Expr} {ea eb : List Stmt} {pos : Pos} (hc : PT X ec (tB p WX c)) (ha : PSs X ea (tS p WX a)) (hb : PSs X eb (tS p WX b)) : PS X (.If ec ea eb pos) (tS p WX (sIf c a b)) :=
  PS.imp (ps_if hc ha hb) fun _ _ _ ⟨W, e, s, re, rp, q⟩ => ⟨W, e, s, re, rp, q.eval re fun W1 H1 d v s1 l fr rp1 rv q1 => by
    subst rv
    cases v with
    | true => rw [if_pos rfl]; exact ⟨W1, e, s1, re.mono l, rp1, q1⟩
    | false => rw [if_neg Bool.false_ne_true]; exact ⟨W1, e, s1, re.mono l, rp1, q1⟩⟩
theorem r_snil : PSs X [] (tS p WX sPass) := PSs.imp pss_nil fun _ _ _ ⟨_, _, _, re, rp, q⟩ => q.nx rp re
theorem r_seq {a b : MS} {st : Stmt} {rest : List Stmt} (ha : PS X st (tS p WX a)) (hb : PSs X rest (tS p WX b)) : PSs X (st :: rest) (tS p WX (sSeq a b)) :=
  PSs.imp (pss_cons ha hb) fun D σ H ⟨W, e, s, re, rp, q⟩ => by
    refine ⟨W, e, s, re, rp, ?_⟩
    unfold sSeq at q
    cases h : a e s with
    | nx e1 s1 =>
      rw [h] at q
      exact fun W' H' σ' l f rp' re' => ⟨W', e1, s1, re', rp', PostS.re l f q⟩
    | rt d s1 => rw [h] at q; exact q
    | bk e1 s1 => rw [h] at q; exact q
    | ct e1 s1 => rw [h] at q; exact q
    | ex c e1 s1 => rw [h] at q; exact q
    | bad => rw [h] at q; exact q
theorem goOn_post {r : Option (Env × Sto)} (q : PostS p W H WX D (goOn r)) : PostT p W H D.nx r := by
  cases r with
  | none => exact q
  | some x => obtain ⟨e, s⟩ := x; exact q
theorem r_asg {m : ME} {t : Tg} {tg e : Expr} {pos : Pos} (he : PE X e (tE p WX m)) (hg : PG X tg (gT p t)) (hs : swapsWithSole [tg] e pos.line X.env = pure false) (hw : swappedStores [tg] e X.env = pure none) (h1 : (assignEach [tg] X.env).map (·.2) = [assign tg X.env]) :
    PS X (.Assign [tg] e pos) (tS p WX (sAsg t m)) :=
  PS.imp (ps_asg he hg hs hw h1) fun D σ H ⟨W, e, s, re, rp, q⟩ => ⟨W, e, s, re, rp, q.eval re fun W1 H1 d v s1 l fr rp1 rv q1 => ⟨W1, e, s1, d, re.mono l, rp1, rv, goOn_post q1⟩⟩
/-! ### targets -/
theorem PG.imp {X : Cx} {e : Expr} {t t' : TG} (h : PG X e t) (i : ∀ v σ H Q, t' v σ H Q → t v σ H Q) : PG X e t' := ⟨fun pins s σ H v u Q I r q => h.run pins s σ H v u Q I r (i v σ H Q q)⟩
theorem PGs.imp {X : Cx} {e : List Expr} {t t' : TGs} (h : PGs X e t) (i : ∀ v σ H Q, t' v σ H Q → t v σ H Q) : PGs X e t' := ⟨fun pins s σ H v u Q I r q => h.run pins s σ H v u Q I r (i v σ H Q q)⟩
theorem PostT.nx {e : Env} {s : Sto} {σ : L2.St} {Q : L2.St → Hp → Prop} (q : PostT p W H Q (some (e, s))) (rp : Rep p W s H) (re : RelE p W e σ) : Q σ H := q W H σ (Wd.le.refl W) (Fr.refl W H) rp re
theorem PostT.re {Q : L2.St → Hp → Prop} {o : Option (Env × Sto)} (l : W.le W') (f : Fr W W' H H') (q : PostT p W H Q o) : PostT p W' H' Q o := by
  cases o with
  | none => exact q
  | some x => obtain ⟨e, s⟩ := x; exact fun W2 H2 v l2 f2 => q W2 H2 v (l.trans l2) (f.trans f2)
theorem r_tName {i : Nat} {x : Str} {pos : Pos} (hN : X.N.Nodup) (hi : X.N[i]? = some x) (hx : Loc X.env.scope x) (hf : X.fn x = true ∨ X.env.scope.names.lookup x = some .local) : PG X (.Name x pos) (gT p (tName i)) :=
  PG.imp (pg_name hN hi hx hf) fun v σ H Q ⟨W, e, s, d, re, rp, rv, q⟩ => q.nx rp (re.set i rv)
theorem r_tNil : PGs X [] (gTs p []) := PGs.imp pgs_nil fun vs σ H Q ⟨W, e, s, ds, re, rp, rv, q⟩ => by
  cases ds with
  | nil => unfold RelDs at rv; exact ⟨rv, PostT.nx q rp re⟩
  | cons d r => exact q.elim
theorem r_tCons {t : Tg} {ts : List Tg} {ex : Expr} {es : List Expr} (h1 : PG X ex (gT p t)) (h2 : PGs X es (gTs p ts)) (hs : (assignEach (ex :: es) X.env).map (·.2) = assign ex X.env :: (assignEach es X.env).map (·.2)) : PGs X (ex :: es) (gTs p (t :: ts)) :=
  PGs.imp (pgs_cons h1 h2 hs) fun vs σ H Q ⟨W, e, s, ds, re, rp, rv, q⟩ => by
    cases ds with
    | nil => exact q.elim
    | cons d r =>
      unfold RelDs at rv
      obtain ⟨v, vr, rfl, a, b⟩ := rv
      refine ⟨v, vr, rfl, W, e, s, d, re, rp, a, ?_⟩
      have q2 : PostT p W H Q (match t d e s with | some (e1, s1) => tAll ts r e1 s1 | none => none) := q
      cases h : t d e s with
      | none => rw [h] at q2; exact q2
      | some x =>
        obtain ⟨e1, s1⟩ := x
        rw [h] at q2
        exact fun W' H' σ' l f rp' re' => ⟨W', e1, s1, r, re', rp', b.mono l, PostT.re l f q2⟩
theorem tAll_len : ∀ {ts : List Tg} {ds : List Z.D} {e : Env} {s : Sto} {x : Env × Sto}, tAll ts ds e s = some x → ds.length = ts.length
  | [], [], _, _, _, _ => rfl
  | [], _ :: _, _, _, _, h => by cases h
  | _ :: _, [], _, _, _, h => by cases h
  | t :: ts, d :: ds, e, s, x, h => by
    have h' : (match t d e s with | some (e1, s1) => tAll ts ds e1 s1 | none => none) = some x := h
    split at h'
    · rw [List.length_cons, List.length_cons, tAll_len h']
    · cases h'
theorem r_tTup {ts : List Tg} {es : List Expr} {k : Nat} {pos : Pos} (hK : p.K = X.K) (hc : X.calm = true) (h : PGs X es (gTs p ts)) (hn : (assignEach es X.env).length = ts.length) (hst : (assignEach es X.env).findIdx? (·.1) = none) : PG X (.Tuple es k pos) (gT p (tTup ts)) :=
  PG.imp (pg_tup hc h hn hst) fun v σ H Q ⟨W, e, s, d, re, rp, rv, q⟩ => by
    cases d with
    | tup xs =>
      obtain ⟨a, vs, rfl, h1, q1⟩ := tup_rd rp rv
      have q2 : PostT p W H Q (tAll ts xs e s) := q
      have hl : xs.length = ts.length := by
        cases hh : tAll ts xs e s with
        | none => rw [hh] at q2; exact q2.elim
        | some x => exact tAll_len hh
      exact ⟨a, vs, rfl, hK ▸ h1, by rw [← q1.length, hl], W, e, s, xs, re, rp, q1, q2⟩
    | _ => exact q.elim
theorem set_R : PSet X (fun o i v H Q => ∃ W s a b d, Rep p W s H ∧ RelD p.K W a o ∧ RelD p.K W b i ∧ RelD p.K W d v ∧ (match setIx a b d s with | some s2 => ∀ H', Fr W W H H' → Rep p W s2 H' → Q H' | none => False)) := by
  intro pins s σ H o i v ov iv u Q I r1 r2 r3 h
  obtain ⟨W, st, a, b, d, rp, ra, rb, rd, q⟩ := h
  unfold setIx at q
  split at q
  · rename_i s2 hs
    split at hs
    · rename_i n k
      split at hs
      · rename_i xs hx
        split at hs
        · rename_i j hj
          cases hs
          obtain ⟨a1, vs, rfl, h1, q1⟩ := lst_rd (d := .ref n) rp hx ra
          cases relD_int rb
          obtain ⟨a2, e1, hio⟩ := relD_ref ra
          cases e1
          refine set_list pins s σ H _ _ v ov iv u Q I r1 r2 r3 ⟨a1, vs, k, j, rfl, rfl, h1, by rw [← q1.length]; exact hj, ?_⟩
          have hz : W.fz a1 = none := by
            unfold atS at hx
            split at hx
            · rename_i ys e
              exact (rp.obs n _ a1 e hio).1
            · cases hx
          obtain ⟨f, r⟩ := rp.put (o := .lst (vs.set j v)) (ob := .lst (xs.set j d)) hio hz h1 rfl ⟨hz, _, upd_same, q1.set rd j⟩
          exact q _ f r
        · cases hs
      · cases hs
    · cases hs
  · exact q.elim
theorem r_tSub {o i : ME} {eo ei : Expr} {pos : Pos} (ho : PE X eo (tE p WX o)) (hi : PE X ei (tE p WX i))
    (ha : ∀ v, assign (.Subscript eo ei pos) X.env v = (do
      let ov ← holding [v] (eval eo X.env)
      let iv ← holding [v, ov] (eval ei X.env)
      standAt pos
      holding [v, ov, iv] (setItem ov iv v)
      release [v, ov, iv] [])) : PG X (.Subscript eo ei pos) (gT p (tSub o i)) :=
  PG.imp (pg_sub ho hi (set_R (p := p)) ha) fun v σ H Q ⟨W, e, s, d, re, rp, rv, q⟩ => by
    have q2 : PostT p W H Q (match o e s with | .ok od s1 => (match i e s1 with | .ok id s2 => (match setIx od id d s2 with | some s3 => some (e, s3) | none => none) | _ => none) | _ => none) := q
    refine ⟨W, e, s, re, rp, ?_⟩
    cases h1 : o e s with
    | ok od s1 =>
      rw [h1] at q2
      refine fun W1 H1 v1 l1 f1 rp1 rv1 => ⟨W1, e, s1, re.mono l1, rp1, ?_⟩
      have q3 : PostT p W H Q (match i e s1 with | .ok id s2 => (match setIx od id d s2 with | some s3 => some (e, s3) | none => none) | _ => none) := q2
      cases h2 : i e s1 with
      | ok id s2 =>
        rw [h2] at q3
        refine fun W2 H2 v2 l2 f2 rp2 rv2 => ⟨W2, s2, od, id, d, rp2, rv1.mono l2, rv2, (rv.mono l1).mono l2, ?_⟩
        have q4 : PostT p W H Q (match setIx od id d s2 with | some s3 => some (e, s3) | none => none) := q3
        cases h3 : setIx od id d s2 with
        | some s3 =>
          rw [h3] at q4
          exact fun H' f3 rp3 => q4 W2 H' σ (l1.trans l2) ((f1.trans f2).trans f3) rp3 ((re.mono l1).mono l2)
        | none => rw [h3] at q4; exact q4
      | exc c s2 => rw [h2] at q3; exact q3.elim
      | bad => rw [h2] at q3; exact q3.elim
    | exc c s1 => rw [h1] at q2; exact q2.elim
    | bad => rw [h1] at q2; exact q2.elim
end
end Z

set_option Elab.async false
set_option linter.all false
set_option maxRecDepth 100000
/-! Z6: what is walked; for, while. -/
namespace Z
open PySem PySem.Spec PyProof.Rows L2
/-- what is walked: items that stay, a list of the store as it stands at each turn, pairs -/
inductive Src where
  | fix (xs : List D)
  | liv (n : Nat)
  | enu (s : Src)
  | zip (a b : Src)
/-- at the turn i: nothing is known, the end, an item -/
def Src.at : Src → Nat → Sto → Option (Option D)
  | .fix xs, i, _ => some xs[i]?
  | .liv n, i, s => (atS n s).map fun xs => xs[i]?
  | .enu a, i, s => (a.at i s).map fun o => o.map fun d => .tup [.int (i : Nat), d]
  | .zip a b, i, s => match a.at i s, b.at i s with
    | some (some x), some (some y) => some (some (.tup [x, y]))
    | some none, some _ => some none
    | some (some _), some none => some none
    | _, _ => none
abbrev MW := Env → Sto → R Src
def SrcOk (p : Pl) (W : Wd) (src : Src) (J : It) : Prop := ∀ (i : Nat) (W' : Wd) (s : Sto) (H : Hp), W.le W' → Rep p W' s H → match src.at i s with
  | some none => J.stop i H
  | some (some d) => J.go i H ∧ ∀ x H', J.yld i H x H' → ∃ W'', W'.le W'' ∧ Fr W' W'' H H' ∧ Rep p W'' s H' ∧ RelD p.K W'' d x
  | none => True
theorem SrcOk.mono {p : Pl} {W W' : Wd} {src : Src} {J : It} (l : W.le W') (h : SrcOk p W src J) : SrcOk p W' src J := fun i W2 s H l2 r => h i W2 s H (l.trans l2) r
def tI (p : Pl) (WX : L2.WX) (m : MW) : TI := fun σ H R => ∃ W e s, RelE p W e σ ∧ Rep p W s H ∧ Post p (SrcOk p) W H (exW p WX σ) R (m e s)
/-! ### the loop -/
def step1 (t : Tg) (b : MS) (d : D) (e : Env) (s : Sto) (k : Env → Sto → Out) : Out := match t d e s with
  | some (e1, s1) => (match b e1 s1 with
    | .nx e2 s2 => k e2 s2
    | .ct e2 s2 => k e2 s2
    | .bk e2 s2 => .nx e2 s2
    | .rt d s2 => .rt d s2
    | .ex c e2 s2 => .ex c e2 s2
    | .bad => .bad)
  | none => .bad
def forF (t : Tg) (b : MS) : List D → Env → Sto → Out
  | [], e, s => .nx e s
  | d :: ds, e, s => step1 t b d e s (forF t b ds)
def forI (src : Src) (t : Tg) (b : MS) : Nat → Nat → Env → Sto → Out
  | 0, _, _, _ => .bad
  | n + 1, i, e, s => match src.at i s with
    | some none => .nx e s
    | some (some d) => step1 t b d e s (forI src t b n (i + 1))
    | none => .bad
def forS (t : Tg) (b : MS) (src : Src) (e : Env) (s : Sto) : Out := match src with
  | .fix xs => forF t b xs e s
  | src => forI src t b turns 0 e s
def sForW (t : Tg) (i : MW) (b : MS) : MS := fun e s => (i e s).out e fun src s1 => forS t b src e s1
section
variable {X : Cx} {p : Pl} {WX : L2.WX} {W W' : Wd} {H H' : Hp} {D : Ends}
theorem step1_ok {t : Tg} {b : MS} {tb : TS} {d : Z.D} {v : V} {e : Env} {s : Sto} {σ : L2.St} {k : Env → Sto → Out} {N : L2.St → Hp → Prop} {bb : TS} (re : RelE p W e σ) (rp : Rep p W s H) (rv : RelD p.K W d v) (q : PostS p W H WX D (step1 t b d e s k))
    (hN : ∀ W' H' e' s' σ', W.le W' → Fr W W' H H' → Rep p W' s' H' → RelE p W' e' σ' → PostS p W' H' WX D (k e' s') → N σ' H') :
    gT p t v σ H fun σ2 H2 => tS p WX b { D with nx := N, ct := N, bk := D.nx } σ2 H2 := by
  refine ⟨W, e, s, d, re, rp, rv, ?_⟩
  unfold step1 at q
  cases h : t d e s with
  | none => rw [h] at q; exact q
  | some x =>
    obtain ⟨e1, s1⟩ := x
    rw [h] at q
    intro W1 H1 σ1 l1 f1 rp1 re1
    refine ⟨W1, e1, s1, re1, rp1, ?_⟩
    have q2 := PostS.re l1 f1 q
    show PostS p W1 H1 WX _ (b e1 s1)
    have q3 : PostS p W1 H1 WX D (match b e1 s1 with | .nx e2 s2 => k e2 s2 | .ct e2 s2 => k e2 s2 | .bk e2 s2 => .nx e2 s2 | .rt d s2 => .rt d s2 | .ex c e2 s2 => .ex c e2 s2 | .bad => .bad) := q2
    cases hb : b e1 s1 with
    | nx e2 s2 => rw [hb] at q3; exact fun W2 H2 σ2 l2 f2 rp2 re2 => hN W2 H2 e2 s2 σ2 (l1.trans l2) (f1.trans f2) rp2 re2 (PostS.re l2 f2 q3)
    | ct e2 s2 => rw [hb] at q3; exact fun W2 H2 σ2 l2 f2 rp2 re2 => hN W2 H2 e2 s2 σ2 (l1.trans l2) (f1.trans f2) rp2 re2 (PostS.re l2 f2 q3)
    | bk e2 s2 => rw [hb] at q3; exact q3
    | rt d s2 => rw [hb] at q3; exact q3
    | ex c e2 s2 => rw [hb] at q3; exact q3
    | bad => rw [hb] at q3; exact q3
/-- what is wanted of a loop's turns -/
def TurnsOk (J : It) (g : TG) (tb : TS) (D : Ends) (σ : L2.St) (H : Hp) : Prop := ∃ W : Nat → Nat → L2.St → Hp → Prop, (∃ m, W 0 m σ H) ∧ ∀ i m σ H, W i m σ H →
  (J.stop i H ∧ D.nx σ H) ∨ (J.go i H ∧ ∃ N : L2.St → Hp → Prop, (∀ σ' H', N σ' H' → ∃ m', m' < m ∧ W (i + 1) m' σ' H') ∧ ∀ x H', J.yld i H x H' → g x σ H' fun σ2 H2 => tb { D with nx := N, ct := N, bk := D.nx } σ2 H2)
theorem turns_fix {t : Tg} {b : MS} {xs : List Z.D} {J : It} {e : Env} {s : Sto} {σ : L2.St} (so : SrcOk p W (.fix xs) J) (re : RelE p W e σ) (rp : Rep p W s H) (q : PostS p W H WX D (forF t b xs e s)) : TurnsOk J (gT p t) (tS p WX b) D σ H := by
  refine ⟨fun i m σ H => m = xs.length - i ∧ i ≤ xs.length ∧ ∃ W' e s, W.le W' ∧ RelE p W' e σ ∧ Rep p W' s H ∧ PostS p W' H WX D (forF t b (xs.drop i) e s), ⟨_, rfl, Nat.zero_le _, W, e, s, Wd.le.refl W, re, rp, q⟩, ?_⟩
  rintro i m σ H ⟨rfl, hi, W', e, s, l, re, rp, q⟩
  have so' := so i W' s H l rp
  by_cases hl : i < xs.length
  · have e1 : (Src.fix xs).at i s = some (some xs[i]) := by
      show some xs[i]? = _
      rw [List.getElem?_eq_getElem hl]
    rw [e1] at so'
    obtain ⟨go, yl⟩ := so'
    rw [List.drop_eq_getElem_cons hl] at q
    refine .inr ⟨go, fun σ' H' => ∃ m', m' < xs.length - i ∧ m' = xs.length - (i + 1) ∧ (i + 1) ≤ xs.length ∧ ∃ W' e s, W.le W' ∧ RelE p W' e σ' ∧ Rep p W' s H' ∧ PostS p W' H' WX D (forF t b (xs.drop (i + 1)) e s),
      fun σ' H' ⟨m', h1, h2, h3, h4⟩ => ⟨m', h1, h2, h3, h4⟩, fun x H1 y => ?_⟩
    obtain ⟨W1, l1, f1, rp1, rv1⟩ := yl x H1 y
    exact step1_ok (bb := tS p WX b) (tb := tS p WX b) (re.mono l1) rp1 rv1 (PostS.re l1 f1 q) fun W2 H2 e2 s2 σ2 l2 f2 rp2 re2 q2 => ⟨_, by omega, rfl, by omega, W2, e2, s2, (l.trans l1).trans l2, re2, rp2, q2⟩
  · have e1 : (Src.fix xs).at i s = some none := by
      show some xs[i]? = _
      rw [List.getElem?_eq_none (by omega)]
    rw [e1] at so'
    rw [List.drop_eq_nil_of_le (by omega)] at q
    exact .inl ⟨so', PostS.nx q rp re⟩
theorem turns_any {t : Tg} {b : MS} {src : Src} {J : It} {n : Nat} {e : Env} {s : Sto} {σ : L2.St} (so : SrcOk p W src J) (re : RelE p W e σ) (rp : Rep p W s H) (q : PostS p W H WX D (forI src t b n 0 e s)) : TurnsOk J (gT p t) (tS p WX b) D σ H := by
  refine ⟨fun i m σ H => ∃ W' e s, W.le W' ∧ RelE p W' e σ ∧ Rep p W' s H ∧ PostS p W' H WX D (forI src t b m i e s), ⟨n, W, e, s, Wd.le.refl W, re, rp, q⟩, ?_⟩
  rintro i m σ H ⟨W', e, s, l, re, rp, q⟩
  have so' := so i W' s H l rp
  cases m with
  | zero => exact q.elim
  | succ m =>
    unfold forI at q
    cases h : src.at i s with
    | none => rw [h] at q; exact q.elim
    | some o =>
      rw [h] at q so'
      cases o with
      | none => exact .inl ⟨so', PostS.nx q rp re⟩
      | some d =>
        obtain ⟨go, yl⟩ := so'
        refine .inr ⟨go, fun σ' H' => ∃ W' e s, W.le W' ∧ RelE p W' e σ' ∧ Rep p W' s H' ∧ PostS p W' H' WX D (forI src t b m (i + 1) e s), fun σ' H' h4 => ⟨m, Nat.lt_succ_self m, h4⟩, fun x H1 y => ?_⟩
        obtain ⟨W1, l1, f1, rp1, rv1⟩ := yl x H1 y
        exact step1_ok (bb := tS p WX b) (tb := tS p WX b) (re.mono l1) rp1 rv1 (PostS.re l1 f1 q) fun W2 H2 e2 s2 σ2 l2 f2 rp2 re2 q2 => ⟨W2, e2, s2, (l.trans l1).trans l2, re2, rp2, q2⟩
theorem turns_src {t : Tg} {b : MS} {src : Src} {J : It} {e : Env} {s : Sto} {σ : L2.St} (so : SrcOk p W src J) (re : RelE p W e σ) (rp : Rep p W s H) (q : PostS p W H WX D (forS t b src e s)) : TurnsOk J (gT p t) (tS p WX b) D σ H := by
  cases src with
  | fix xs => exact turns_fix so re rp q
  | liv n => exact turns_any (n := turns) so re rp q
  | enu a => exact turns_any (n := turns) so re rp q
  | zip a b => exact turns_any (n := turns) so re rp q
theorem r_for {t : Tg} {i : MW} {b : MS} {tg it : Expr} {body : List Stmt} {pos : Pos} (hp : PassesOwn (model X.prog X.w) X.A X.env X.xe) (hc : X.calm = true) (hi : PI X tg it (tI p WX i)) (hg : PG X tg (gT p t)) (hb : PSs X body (tS p WX b))
    (hs : ∀ x, foldedSetIterable it X.env x = pure x) : PS X (.For tg it body [] pos) (tS p WX (sForW t i b)) :=
  PS.imp (ps_for hp hc hi hg hb hs) fun D σ H ⟨W, e, s, re, rp, q⟩ => ⟨W, e, s, re, rp, q.eval re fun W1 H1 src J s1 l fr rp1 so q1 => turns_src so (re.mono l) rp1 q1⟩
/-! ### while -/
theorem r_while {c : MB} {b : MS} {ec : Expr} {body : List Stmt} {pos : Pos} (hp : PassesOwn (model X.prog X.w) X.A X.env X.xe) (hc : PT X ec (tB p WX c)) (hb : PSs X body (tS p WX b)) : PS X (.While ec body [] pos) (tS p WX (sWhile c b)) :=
  PS.imp (ps_while hp hc hb) fun D σ H ⟨W, e, s, re, rp, q⟩ => by
    refine ⟨fun m σ H => ∃ W e s, RelE p W e σ ∧ Rep p W s H ∧ PostS p W H WX D (whileL c b m e s), ⟨turns, W, e, s, re, rp, q⟩, ?_⟩
    rintro m σ H ⟨W, e, s, re, rp, q⟩
    cases m with
    | zero => exact q.elim
    | succ m =>
      unfold whileL at q
      refine ⟨W, e, s, re, rp, q.eval re fun W1 H1 x v s1 l fr rp1 rv q1 => ?_⟩
      subst rv
      cases v with
      | false => rw [if_neg Bool.false_ne_true] at q1 ⊢; exact PostS.nx q1 rp1 (re.mono l)
      | true =>
        rw [if_pos rfl] at q1 ⊢
        refine ⟨fun σ' H' => ∃ W e s, RelE p W e σ' ∧ Rep p W s H' ∧ PostS p W H' WX D (whileL c b m e s), fun σ' H' h => ⟨m, Nat.lt_succ_self m, h⟩, W1, e, s1, re.mono l, rp1, ?_⟩
        show PostS p W1 H1 WX _ (b e s1)
        have q3 : PostS p W1 H1 WX D (match b e s1 with | .nx e2 s2 => whileL c b m e2 s2 | .ct e2 s2 => whileL c b m e2 s2 | .bk e2 s2 => .nx e2 s2 | .rt d s2 => .rt d s2 | .ex c e2 s2 => .ex c e2 s2 | .bad => .bad) := q1
        cases hb : b e s1 with
        | nx e2 s2 => rw [hb] at q3; exact fun W2 H2 σ2 l2 f2 rp2 re2 => ⟨W2, e2, s2, re2, rp2, PostS.re l2 f2 q3⟩
        | ct e2 s2 => rw [hb] at q3; exact fun W2 H2 σ2 l2 f2 rp2 re2 => ⟨W2, e2, s2, re2, rp2, PostS.re l2 f2 q3⟩
        | bk e2 s2 => rw [hb] at q3; exact q3
        | rt d s2 => rw [hb] at q3; exact q3
        | ex c e2 s2 => rw [hb] at q3; exact q3
        | bad => rw [hb] at q3; exact q3
end
end Z

set_option Elab.async false
set_option linter.all false
set_option maxRecDepth 100000
/-! Z7: what is walked, by the expression. -/
namespace Z
open PySem PySem.Spec PyProof.Rows L2
def wOf (d : D) (s : Sto) : Option Src := match d with
  | .tup xs => some (.fix xs)
  | .lst xs => some (.fix xs)
  | .scr xs => some (.fix xs)
  | .ref n => (match atS n s with | some _ => some (.liv n) | none => none)
  | .str x => some (.fix (x.cps.toList.map fun c => .str ⟨#[c]⟩))
  | _ => none
def wR (o : Option Src) (s : Sto) : R Src := match o with
  | some x => .ok x s
  | none => .bad
def wVal (a : ME) : MW := fun e s => (a e s).bind fun d s1 => wR (wOf d s1) s1
def rngL (lo c : Int) (n : Nat) : List D := (List.range n).map fun k => .int (lo + (k : Nat) * c)
def rng (vs : List D) : Option (List D) := match vs with
  | [.int j] => if decide (-(2 ^ 62) ≤ j) && decide (j < 2 ^ 62) then some (rngL 0 1 j.toNat) else none
  | [.int i, .int j] => if decide (-(2 ^ 62) ≤ i) && decide (i < 2 ^ 62) && decide (-(2 ^ 62) ≤ j) && decide (j < 2 ^ 62) then some (rngL i 1 (j - i).toNat) else none
  | [.int i, .int j, .int c] => if decide (c ≠ 0) && decide (c.natAbs < 1073741824) && Builtin.Range.small i j c && decide (Builtin.Range.rangeSize i j c = ((Builtin.Range.rangeSize i j c).toNat : Int)) then some (rngL i c (Builtin.Range.rangeSize i j c).toNat) else none
  | _ => none
def wRng (a : MA) : MW := fun e s => (a e s).bind fun vs s1 => wR ((rng vs).map .fix) s1
def enumD (k : Nat) : List D → List D
  | [] => []
  | d :: ds => .tup [.int (k : Nat), d] :: enumD (k + 1) ds
theorem enumD_get : ∀ {ds : List D} {k i : Nat}, (enumD k ds)[i]? = ds[i]?.map fun d => .tup [.int ((k + i : Nat) : Int), d]
  | [], k, i => by unfold enumD; simp
  | d :: ds, k, 0 => by unfold enumD; simp
  | d :: ds, k, i + 1 => by
    unfold enumD
    rw [List.getElem?_cons_succ, List.getElem?_cons_succ, enumD_get]
    have e : k + 1 + i = k + (i + 1) := by omega
    rw [e]
def enuOf : Src → Src
  | .fix xs => .fix (enumD 0 xs)
  | s => .enu s
def wEnu (a : ME) : MW := fun e s => (a e s).bind fun d s1 => wR ((wOf d s1).map enuOf) s1
def zipD : List D → List D → List D
  | a :: as, b :: bs => .tup [a, b] :: zipD as bs
  | _, _ => []
def zipOf : Src → Src → Src
  | .fix xs, .fix ys => .fix (zipD xs ys)
  | a, b => .zip a b
section
variable {X : Cx} {p : Pl} {WX : L2.WX} {W W' : Wd} {H H' : Hp} {s : Sto}
/-! ### lists, tuples, texts -/
/-- a known list or tuple -/
theorem srcOk_seq {xs : List Z.D} {vs : List V} {a : Addr} {S : Hp → Addr → List V → Prop} {J : It} (hJ : J = ⟨fun i H => ∃ xs x, S H a xs ∧ xs[i]? = some x, fun i H x H' => H' = H ∧ ∀ xs, S H a xs → xs[i]? = some x, fun i H => ∃ xs, S H a xs ∧ xs.length ≤ i⟩)
    (hl : ∀ W' s H, W.le W' → Rep p W' s H → S H a vs) (rv : RelDs p.K W xs vs) : SrcOk p W (.fix xs) J := by
  subst hJ
  intro i W' s H l rp
  have h1 := hl W' s H l rp
  show match (some xs[i]? : Option (Option Z.D)) with | some none => _ | some (some d) => _ | none => True
  cases e : xs[i]? with
  | none =>
    refine ⟨vs, h1, ?_⟩
    rw [← rv.length]
    exact List.getElem?_eq_none_iff.mp e
  | some d =>
    obtain ⟨v, e2, r2⟩ := rv.get e
    refine ⟨⟨vs, v, h1, e2⟩, fun x H' ⟨eH, hx⟩ => ?_⟩
    subst eH
    have e3 := hx vs h1
    rw [e2] at e3
    cases e3
    exact ⟨W', Wd.le.refl W', Fr.refl W' _, rp, r2.mono l⟩
theorem srcOk_liv {n : Nat} {a : Addr} (hn : W.io[n]? = some a) : SrcOk p W (.liv n) (Itl p.K a) := by
  intro i W' s H l rp
  show match ((atS n s).map fun xs => xs[i]? : Option (Option Z.D)) with | some none => _ | some (some d) => _ | none => True
  cases e : atS n s with
  | none => trivial
  | some xs =>
    have hs : s[n]? = some (.lst xs) := by
      unfold atS at e
      split at e
      · rename_i ys e2; cases e; exact e2
      · cases e
    obtain ⟨z, vs, h1, rv⟩ := rp.obs n _ a hs (l.at hn)
    show match (some xs[i]? : Option (Option Z.D)) with | some none => _ | some (some d) => _ | none => True
    cases e2 : xs[i]? with
    | none =>
      refine ⟨vs, SqL.of h1, ?_⟩
      rw [← rv.length]
      exact List.getElem?_eq_none_iff.mp e2
    | some d =>
      obtain ⟨v, e3, r2⟩ := rv.get e2
      refine ⟨⟨vs, v, SqL.of h1, e3⟩, fun x H' ⟨eH, hx⟩ => ?_⟩
      subst eH
      have e4 := hx vs (SqL.of h1)
      rw [e3] at e4
      cases e4
      exact ⟨W', Wd.le.refl W', Fr.refl W' _, rp, r2⟩
theorem srcOk_str {x : Str} : SrcOk p W (.fix (x.cps.toList.map fun c => .str ⟨#[c]⟩)) (Its x) := by
  intro i W' s H l rp
  show match (some ((x.cps.toList.map fun c => (Z.D.str ⟨#[c]⟩))[i]?) : Option (Option Z.D)) with | some none => _ | some (some d) => _ | none => True
  rw [List.getElem?_map, Array.getElem?_toList]
  cases e : x.cps[i]? with
  | none => exact Array.getElem?_eq_none_iff.mp e
  | some c =>
    refine ⟨(Array.getElem?_eq_some_iff.mp e).1, fun v H' ⟨eH, c', e', ev⟩ => ?_⟩
    rw [e] at e'
    cases e'
    subst eH
    subst ev
    exact ⟨W', Wd.le.refl W', Fr.refl W' _, rp, rel_str⟩
/-- the reading of a walked value, by the kinds -/
theorem pi_val {a : ME} {ex tg : Expr} (hK : p.K = X.K) (he : PE X ex (tE p WX a)) : PI X tg ex (tI p WX (wVal a)) := by
  refine ⟨fun pins s σ H R I ⟨W, e, st, re, rp, q⟩ => ?_⟩
  unfold wVal at q
  have key : ∀ (f : V → Hp → Prop), (∀ W' H' d v s, W.le W' → Fr W W' H H' → Rep p W' s H' → RelD p.K W' d v → a e st = .ok d s → Post p (SrcOk p) W' H' (exW p WX σ) R (wR (wOf d s) s) → f v H') → tE p WX a σ H f := fun f hf => by
    refine ⟨W, e, st, re, rp, ?_⟩
    cases h : a e st with
    | ok d s2 =>
      rw [h] at q
      intro W' H' v l fr rp' rv
      refine hf W' H' d v s2 l fr rp' rv h ?_
      have q' : Post p (SrcOk p) W H (exW p WX σ) R (wR (wOf d s2) s2) := q
      cases hw : wOf d s2 with
      | none => rw [hw] at q'; exact q'
      | some src =>
        rw [hw] at q'
        exact fun W2 H2 J l2 f2 rp2 so => q' W2 H2 J (l.trans l2) (fr.trans f2) rp2 so
    | exc c s2 => rw [h] at q; exact q
    | bad => rw [h] at q; exact q.elim
  cases h : a e st with
  | bad => rw [h] at q; exact q.elim
  | exc c s2 => exact (pi_list he).run pins s σ H R I (key _ fun W' H' d v s l fr rp' rv h2 => by rw [h] at h2; cases h2)
  | ok d s2 =>
    have isL : (∃ xs, wOf d s2 = some (.fix xs) ∧ ((d = .lst xs) ∨ (d = .scr xs))) ∨ (∃ n, d = .ref n ∧ wOf d s2 = some (.liv n)) → wpAny (model X.prog X.w) X.A (eval ex X.env) (fun v s1 => wpAny (model X.prog X.w) X.A (pyIter v) (PIE X pins σ tg R) X.xe s1) X.xe s := fun hL => by
      refine (pi_list he).run pins s σ H R I (key _ fun W' H' d' v s' l fr rp' rv h2 q2 => ?_)
      rw [h] at h2
      cases h2
      rcases hL with ⟨xs, e1, e2⟩ | ⟨n, e1, e2⟩
      · rw [e1] at q2
        rcases e2 with rfl | rfl
        · unfold RelD at rv
          obtain ⟨ad, vs, rfl, h1, r1⟩ := rv
          exact ⟨ad, rfl, ⟨vs, SqL.of (rp'.fz _ _ h1)⟩, Post.same rp' q2 (hK ▸ srcOk_seq (S := SqL p.K) rfl (fun W2 s H l2 rp2 => SqL.of (rp2.fz _ _ (l2.fz _ _ h1))) r1)⟩
        · obtain ⟨ad, vs, rfl, h1, r1⟩ := relD_scr rv
          exact ⟨ad, rfl, ⟨vs, hK ▸ seqL_mono rp'.fz h1⟩, Post.same rp' q2 (hK ▸ srcOk_seq (S := SqL p.K) rfl (fun W2 s H l2 rp2 => seqL_mono rp2.fz (seqL_mono l2.fz h1)) r1)⟩
      · subst e1
        rw [e2] at q2
        obtain ⟨ad, rfl, hio⟩ := relD_ref rv
        have e3 : ∃ xs, atS n s2 = some xs := by
          have e2' : (match atS n s2 with | some _ => some (Src.liv n) | none => none) = some (Src.liv n) := e2
          cases e4 : atS n s2 with
          | none => rw [e4] at e2'; cases e2'
          | some xs => exact ⟨xs, rfl⟩
        obtain ⟨xs, e3⟩ := e3
        obtain ⟨ad', vs, ea, h1, _⟩ := lst_rd (d := .ref n) rp' e3 rv
        cases ea
        exact ⟨ad, rfl, ⟨vs, SqL.of h1⟩, Post.same rp' q2 (hK ▸ srcOk_liv hio)⟩
    cases d with
    | lst xs => exact isL (.inl ⟨xs, rfl, .inl rfl⟩)
    | scr xs => exact isL (.inl ⟨xs, rfl, .inr rfl⟩)
    | ref n =>
      cases e : atS n s2 with
      | none =>
        rw [h] at q
        have q' : Post p (SrcOk p) W H (exW p WX σ) R (wR (match atS n s2 with | some _ => some (.liv n) | none => none) s2) := q
        rw [e] at q'
        exact q'.elim
      | some xs => exact isL (.inr ⟨n, rfl, by
        show (match atS n s2 with | some _ => some (Src.liv n) | none => none) = _
        rw [e]⟩)
    | tup xs =>
      refine (pi_tup he).run pins s σ H R I (key _ fun W' H' d' v s' l fr rp' rv h2 q2 => ?_)
      rw [h] at h2
      cases h2
      obtain ⟨ad, vs, rfl, h1, r1⟩ := relD_tup rv
      exact ⟨ad, rfl, ⟨vs, hK ▸ seqT_mono rp'.fz h1⟩, Post.same rp' q2 (hK ▸ srcOk_seq (S := SqT p.K) rfl (fun W2 s H l2 rp2 => seqT_mono rp2.fz (seqT_mono l2.fz h1)) r1)⟩
    | str x =>
      refine (pi_str he).run pins s σ H R I (key _ fun W' H' d' v s' l fr rp' rv h2 q2 => ?_)
      rw [h] at h2
      cases h2
      exact ⟨x, relD_str rv, Post.same rp' q2 srcOk_str⟩
    | non => rw [h] at q; exact q.elim
    | bl b => rw [h] at q; exact q.elim
    | int i => rw [h] at q; exact q.elim
    | lam i => rw [h] at q; exact q.elim
/-! ### range -/
theorem srcOk_itc {lo c : Int} {n : Nat} {J : It} (hJ : (∀ i H, (J.go i H ↔ i < n) ∧ (J.stop i H ↔ n ≤ i)) ∧ ∀ i H x H', J.yld i H x H' → H' = H ∧ x = .int (lo + (i : Nat) * c)) : SrcOk p W (.fix (rngL lo c n)) J := by
  intro i W' s H l rp
  show match (some ((rngL lo c n)[i]?) : Option (Option Z.D)) with | some none => _ | some (some d) => _ | none => True
  unfold rngL
  rw [List.getElem?_map]
  by_cases hi : i < n
  · rw [List.getElem?_range hi]
    refine ⟨(hJ.1 i H).1.mpr hi, fun v H' y => ?_⟩
    obtain ⟨e1, e2⟩ := hJ.2 i H v H' y
    subst e1
    subst e2
    exact ⟨W', Wd.le.refl W', Fr.refl W' _, rp, rel_int⟩
  · rw [List.getElem?_eq_none (by rw [List.length_range]; omega)]
    exact (hJ.1 i H).2.mpr (by omega)
theorem srcOk_itr {lo : Int} {n : Nat} : SrcOk p W (.fix (rngL lo 1 n)) (Itr lo n) := srcOk_itc ⟨fun i H => ⟨Iff.rfl, Iff.rfl⟩, fun i H x H' ⟨e1, e2⟩ => ⟨e1, by rw [e2, Int.mul_one]⟩⟩
theorem srcOk_itc' {lo c : Int} {n : Nat} : SrcOk p W (.fix (rngL lo c n)) (Itc lo c n) := srcOk_itc ⟨fun i H => ⟨Iff.rfl, Iff.rfl⟩, fun i H x H' ⟨e1, e2⟩ => ⟨e1, e2⟩⟩
theorem relDs_ints1 {v : List V} {i : Int} (h : RelDs p.K W [.int i] v) : v = [.int i] := by
  unfold RelDs at h
  obtain ⟨x, r, rfl, h1, h2⟩ := h
  unfold RelDs at h2
  rw [h2, relD_int h1]
theorem relDs_ints2 {v : List V} {i j : Int} (h : RelDs p.K W [.int i, .int j] v) : v = [.int i, .int j] := by
  unfold RelDs at h
  obtain ⟨x, r, rfl, h1, h2⟩ := h
  rw [relDs_ints1 h2, relD_int h1]
theorem relDs_ints3 {v : List V} {i j k : Int} (h : RelDs p.K W [.int i, .int j, .int k] v) : v = [.int i, .int j, .int k] := by
  unfold RelDs at h
  obtain ⟨x, r, rfl, h1, h2⟩ := h
  rw [relDs_ints2 h2, relD_int h1]
theorem wR_some {o : Option Src} {st : Sto} {EX : Nat → Hp → Prop} {R : It → Hp → Prop} (q : Post p (SrcOk p) W H EX R (wR o st)) : ∃ src, o = some src ∧ Post p (SrcOk p) W H EX R (.ok src st) := by
  cases o with
  | none => exact q.elim
  | some src => exact ⟨src, rfl, q⟩
theorem r_rng1 {as : MA} {a tg : Expr} {pp pos : Pos} (hg : Gl X "range") (hm : X.mg "range" = none) (ha : PA X [a] (tA p WX as)) (hl : ∀ e s ds s1, as e s = .ok ds s1 → ds.length = 1) (hs : starEach [a] X.env = [(false, eval a X.env)]) : PI X tg (.Call (.Name "range" pp) [a] [] pos) (tI p WX (wRng as)) := by
  refine ⟨fun pins s σ H R I ⟨W, e, st, re, rp, q⟩ => (pi_range1 hg hm ha hs).run pins s σ H R I ⟨W, e, st, re, rp, ?_⟩⟩
  cases h : as e st with
  | bad => unfold wRng at q; rw [h] at q; exact q.elim
  | exc c s2 => unfold wRng at q; rw [h] at q; exact q
  | ok ds s2 =>
    have hlen := hl e st ds s2 h
    unfold wRng at q; rw [h] at q
    have q' : Post p (SrcOk p) W H (exW p WX σ) R (wR ((rng ds).map .fix) s2) := q
    obtain ⟨src, e1, q2⟩ := wR_some q'
    intro W' H' v l fr rp' rv
    match ds, hlen, e1, rv with
    | [d], _, e1, rv =>
      cases d with
      | int j =>
        have e2 : ((if decide (-(2 ^ 62) ≤ j) && decide (j < 2 ^ 62) then some (rngL 0 1 j.toNat) else none).map Src.fix) = some src := e1
        split at e2
        · rename_i hc
          simp only [Bool.and_eq_true, decide_eq_true_eq] at hc
          cases e2
          exact ⟨j, relDs_ints1 rv, hc.1, hc.2, q2 W' H' _ l fr rp' srcOk_itr⟩
        · cases e2
      | _ => cases e1
theorem r_rng2 {as : MA} {a b tg : Expr} {pp pos : Pos} (hg : Gl X "range") (hm : X.mg "range" = none) (ha : PA X [a, b] (tA p WX as)) (hl : ∀ e s ds s1, as e s = .ok ds s1 → ds.length = 2) (hs : starEach [a, b] X.env = [(false, eval a X.env), (false, eval b X.env)]) (hs2 : starEach [b] X.env = [(false, eval b X.env)]) :
    PI X tg (.Call (.Name "range" pp) [a, b] [] pos) (tI p WX (wRng as)) := by
  refine ⟨fun pins s σ H R I ⟨W, e, st, re, rp, q⟩ => (pi_range2 hg hm ha hs hs2).run pins s σ H R I ⟨W, e, st, re, rp, ?_⟩⟩
  cases h : as e st with
  | bad => unfold wRng at q; rw [h] at q; exact q.elim
  | exc c s2 => unfold wRng at q; rw [h] at q; exact q
  | ok ds s2 =>
    have hlen := hl e st ds s2 h
    unfold wRng at q; rw [h] at q
    have q' : Post p (SrcOk p) W H (exW p WX σ) R (wR ((rng ds).map .fix) s2) := q
    obtain ⟨src, e1, q2⟩ := wR_some q'
    intro W' H' v l fr rp' rv
    match ds, hlen, e1, rv with
    | [d, d'], _, e1, rv =>
      cases d with
      | int i =>
        cases d' with
        | int j =>
          have e2 : ((if decide (-(2 ^ 62) ≤ i) && decide (i < 2 ^ 62) && decide (-(2 ^ 62) ≤ j) && decide (j < 2 ^ 62) then some (rngL i 1 (j - i).toNat) else none).map Src.fix) = some src := e1
          split at e2
          · rename_i hc
            simp only [Bool.and_eq_true, decide_eq_true_eq] at hc
            cases e2
            exact ⟨i, j, relDs_ints2 rv, ⟨hc.1.1.1, hc.1.1.2, hc.1.2, hc.2⟩, q2 W' H' _ l fr rp' srcOk_itr⟩
          · cases e2
        | _ => cases e1
      | _ => cases e1
theorem r_rng3 {as : MA} {a b c tg : Expr} {pp pos : Pos} (hg : Gl X "range") (hm : X.mg "range" = none) (ha : PA X [a, b, c] (tA p WX as)) (hl : ∀ e s ds s1, as e s = .ok ds s1 → ds.length = 3)
    (hs : starEach [a, b, c] X.env = (false, eval a X.env) :: starEach [b, c] X.env) (hpl : (backTo pos (starEach [b, c] X.env)).any (·.1) = false) :
    PI X tg (.Call (.Name "range" pp) [a, b, c] [] pos) (tI p WX (wRng as)) := by
  refine ⟨fun pins s σ H R I ⟨W, e, st, re, rp, q⟩ => (pi_range3 hg hm ha hs hpl).run pins s σ H R I ⟨W, e, st, re, rp, ?_⟩⟩
  cases h : as e st with
  | bad => unfold wRng at q; rw [h] at q; exact q.elim
  | exc c s2 => unfold wRng at q; rw [h] at q; exact q
  | ok ds s2 =>
    have hlen := hl e st ds s2 h
    unfold wRng at q; rw [h] at q
    have q' : Post p (SrcOk p) W H (exW p WX σ) R (wR ((rng ds).map .fix) s2) := q
    obtain ⟨src, e1, q2⟩ := wR_some q'
    intro W' H' v l fr rp' rv
    match ds, hlen, e1, rv with
    | [d, d', d''], _, e1, rv =>
      cases d with
      | int i =>
        cases d' with
        | int j =>
          cases d'' with
          | int k =>
            have e2 : ((if decide (k ≠ 0) && decide (k.natAbs < 1073741824) && Builtin.Range.small i j k && decide (Builtin.Range.rangeSize i j k = ((Builtin.Range.rangeSize i j k).toNat : Int)) then some (rngL i k (Builtin.Range.rangeSize i j k).toNat) else none).map Src.fix) = some src := e1
            split at e2
            · rename_i hc
              simp only [Bool.and_eq_true, decide_eq_true_eq] at hc
              cases e2
              exact ⟨i, j, k, _, relDs_ints3 rv, ⟨hc.1.1.1, hc.1.1.2, hc.1.2, hc.2⟩, q2 W' H' _ l fr rp' srcOk_itc'⟩
            · cases e2
          | _ => cases e1
        | _ => cases e1
      | _ => cases e1
end
end Z

set_option Elab.async false
set_option linter.all false
set_option maxRecDepth 100000
/-! Z8: in-place operators, stores in parallel. -/
namespace Z
open PySem PySem.Spec PyProof.Rows L2
/-- in place -/
def ipMul : B2 := fun x y s => match x, y with
  | .int i, .int j => if big i || big j then some ((.int (i * j)), s) else none
  | _, _ => none
def ipOp : Operator → B2
  | .Add => ipAdd
  | .Sub => opSub
  | .Mult => ipMul
  | .FloorDiv => opFdiv
  | .Mod => opMod
  | _ => fun _ _ _ => none
/-- a, b = x, y: stored from the right -/
def putAll : List Nat → List D → Env → Option Env
  | [], [], e => some e
  | i :: is, d :: ds, e => putAll is ds (e.set i (some d))
  | _, _, _ => none
def sPar (is : List Nat) (as : MA) : MS := fun e s => (as e s).out e fun ds s1 => match putAll is ds e with
  | some e1 => .nx e1 s1
  | none => .bad
section
variable {X : Cx} {p : Pl} {WX : L2.WX} {W W' : Wd} {H H' : Hp} {s : Sto}
theorem ip_addR (hK : p.K = X.K) : OpR X (inplaceOp .Add) (r2 p ipAdd) := by
  intro pins s σ H x y v u Q I rx ry h
  obtain ⟨W, st, a, b, rp, ra, rb, q⟩ := h
  unfold ipAdd at q
  split at q
  · cases relD_int ra
    cases relD_int rb
    exact iop_add pins s σ H _ _ v u Q I rx ry ⟨_, _, rfl, rfl, q.same rp rel_int⟩
  · cases relD_str ra
    cases relD_str rb
    split at q
    · rename_i hz
      exact iop_add_str pins s σ H _ _ v u Q I rx ry ⟨_, _, rfl, rfl, by rw [sizeLine_eq]; exact hz, q.same rp rel_str⟩
    · exact q.elim
  · rename_i n
    split at q
    · rename_i xs ys hx hy
      split at q
      · rename_i hz
        obtain ⟨a1, vs, rfl, h1, q1⟩ := lst_rd (d := .ref n) rp hx ra
        obtain ⟨b1, us, rfl, h2, q2⟩ := lst_rd rp hy rb
        obtain ⟨a2, e1, hio⟩ := relD_ref ra
        cases e1
        refine iop_ext pins s σ H _ _ v u Q I rx ry ⟨a1, b1, vs, us, rfl, rfl, h1, h2, by rw [← q1.length, ← q2.length, sizeLine_eq]; exact hz, ?_⟩
        have hz2 : W.fz a1 = none := by
          unfold atS at hx
          split at hx
          · rename_i ys e
            exact (rp.obs n _ a1 e hio).1
          · cases hx
        obtain ⟨f, r⟩ := rp.put (o := .lst (vs ++ us)) (ob := .lst (xs ++ ys)) hio hz2 h1 rfl ⟨hz2, _, upd_same, q1.append q2⟩
        exact q W _ _ (Wd.le.refl W) f r ra
      · exact q.elim
    · exact q.elim
  · exact q.elim
theorem ip_subR : OpR X (inplaceOp .Sub) (r2 p opSub) := by
  intro pins s σ H x y v u Q I rx ry h
  obtain ⟨W, st, a, b, rp, ra, rb, q⟩ := h
  unfold opSub at q
  split at q
  · cases relD_int ra
    cases relD_int rb
    exact iop_sub pins s σ H _ _ v u Q I rx ry ⟨_, _, rfl, rfl, q.same rp rel_int⟩
  · exact q.elim
theorem ip_fdivR : OpR X (inplaceOp .FloorDiv) (r2 p opFdiv) := by
  intro pins s σ H x y v u Q I rx ry h
  obtain ⟨W, st, a, b, rp, ra, rb, q⟩ := h
  unfold opFdiv at q
  split at q
  · cases relD_int ra
    cases relD_int rb
    split at q
    · rename_i hz
      exact iop_fdiv pins s σ H _ _ v u Q I rx ry ⟨_, _, rfl, rfl, hz, q.same rp rel_int⟩
    · exact q.elim
  · exact q.elim
theorem ip_modR : OpR X (inplaceOp .Mod) (r2 p opMod) := by
  intro pins s σ H x y v u Q I rx ry h
  obtain ⟨W, st, a, b, rp, ra, rb, q⟩ := h
  unfold opMod at q
  split at q
  · cases relD_int ra
    cases relD_int rb
    split at q
    · rename_i hz
      exact iop_mod pins s σ H _ _ v u Q I rx ry ⟨_, _, rfl, rfl, hz, q.same rp rel_int⟩
    · exact q.elim
  · exact q.elim
theorem ip_mulR : OpR X (inplaceOp .Mult) (r2 p ipMul) := by
  intro pins s σ H x y v u Q I rx ry h
  obtain ⟨W, st, a, b, rp, ra, rb, q⟩ := h
  unfold ipMul at q
  split at q
  · cases relD_int ra
    cases relD_int rb
    split at q
    · rename_i i j hz
      refine iop_mul pins s σ H _ _ v u Q I rx ry ⟨_, _, rfl, rfl, ?_, q.same rp rel_int⟩
      rcases Bool.or_eq_true_iff.mp hz with z | z
      · exact .inl (big_iff.mp z)
      · exact .inr (big_iff.mp z)
    · exact q.elim
  · exact q.elim
theorem ip_none {op : Operator} : OpR X (inplaceOp op) (r2 p fun _ _ _ => none) := fun pins s σ H x y v u Q I rx ry ⟨W, st, a, b, rp, ra, rb, q⟩ => q.elim
theorem op_none {f : Value → Value → Sem Value} : OpR X f (r2 p fun _ _ _ => none) := fun pins s σ H x y v u Q I rx ry ⟨W, st, a, b, rp, ra, rb, q⟩ => q.elim
theorem ip_R (hK : p.K = X.K) (op : Operator) : OpR X (inplaceOp op) (r2 p (ipOp op)) := by
  cases op <;> first
    | exact ip_addR hK
    | exact ip_subR
    | exact ip_mulR
    | exact ip_fdivR
    | exact ip_modR
    | exact ip_none
theorem bin_R (hK : p.K = X.K) (m : Bool) (op : Operator) : OpR X (binaryOp op) (r2 p (opBin m op)) := by
  cases op <;> first
    | exact op_addR hK m
    | exact op_subR
    | exact op_mulR hK m
    | exact op_fdivR
    | exact op_modR
    | exact op_powR
    | exact op_none
theorem cmp_R (hK : p.K = X.K) (hu : X.A.units + 65 < cLine) (op : CmpOp) : OpR X (compareOp op) (r2 p (opC op)) := by
  cases op with
  | Eq => exact op_eqR hK (by omega)
  | NotEq => exact op_neR hK (by omega)
  | Lt => exact op_cmpI op_lt
  | LtE => exact op_cmpI op_le
  | Gt => exact op_cmpI op_gt
  | GtE => exact op_cmpI op_ge
  | Is => exact op_isR
  | IsNot => exact op_isNotR
  | In => exact op_inS false hK hu
  | NotIn => exact op_inS true hK hu
theorem r_aug {i : Nat} {x : Str} {m : ME} {e : Expr} {op : Operator} {pos pos' : Pos} (hK : p.K = X.K) (hN : X.N.Nodup) (hi : X.N[i]? = some x) (hx : Loc X.env.scope x) (he : PE X e (tE p WX m)) (hf : X.fn x = true ∨ X.env.scope.names.lookup x = some .local) :
    PS X (.AugAssign (.Name x pos') op e pos) (tS p WX (sAug i (ipOp op) m)) :=
  PS.imp (ps_aug hN hi hx he (ip_R hK op) hf) fun D σ H ⟨W, e, s, re, rp, q⟩ => by
    unfold sAug at q
    unfold mVar at q
    split at q
    · rename_i d hd
      obtain ⟨v, h1, h2⟩ := re.at_ i d hd
      refine ⟨v, h1, W, e, s, re, rp, PostS.eval re (f := fun y s1 => (R.of (ipOp op d y s1)).out e fun z s2 => .nx (e.set i (some z)) s2) q fun W1 H1 d2 v2 s1 l fr rp1 rv1 q1 => ?_⟩
      refine ⟨W1, s1, d, d2, rp1, h2.mono l, rv1, Post.of (EX := exW p WX σ) (PostS.eval (re.mono l) q1 fun W2 H2 d3 v3 s2 l2 fr2 rp2 rv2 q2 => ?_)⟩
      exact PostS.nx q2 rp2 (((re.mono l).mono l2).set i rv2)
    · exact q.elim
theorem r_par2 {i j : Nat} {x y : Str} {a b : Expr} {as : MA} {px py pt pos : Pos} {kt k2 : Nat} {pt2 : Pos} (hc : X.calm = true) (hN : X.N.Nodup) (hi : X.N[i]? = some x) (hj : X.N[j]? = some y) (hij : i ≠ j)
    (hx : X.env.scope.names.lookup x = some .local) (hy : X.env.scope.names.lookup y = some .local) (ha : PA X [a, b] (tA p WX as))
    (hw : swappedStores [.Tuple [.Name x px, .Name y py] kt pt] (.Tuple [a, b] k2 pt2) X.env = pure (some [x, y]))
    (hs : swapsWithSole [.Tuple [.Name x px, .Name y py] kt pt] (.Tuple [a, b] k2 pt2) pos.line X.env = pure false) :
    PS X (.Assign [.Tuple [.Name x px, .Name y py] kt pt] (.Tuple [a, b] k2 pt2) pos) (tS p WX (sPar [i, j] as)) :=
  PS.imp (ps_par hc hN hi hj hij hx hy ha hw hs) fun D σ H ⟨W, e, s, re, rp, q⟩ => ⟨W, e, s, re, rp, q.eval re fun W1 H1 ds vs s1 l fr rp1 rv q1 => by
    match ds, q1, rv with
    | [], q1, rv => exact q1.elim
    | [_], q1, rv => exact q1.elim
    | [d, d'], q1, rv =>
      unfold RelDs at rv
      obtain ⟨v, r, rfl, h1, rv⟩ := rv
      unfold RelDs at rv
      obtain ⟨w, r, rfl, h2, rv⟩ := rv
      unfold RelDs at rv
      subst rv
      exact ⟨v, w, rfl, PostS.nx q1 rp1 (((re.mono l).set i h1).set j h2)⟩
    | _ :: _ :: _ :: _, q1, rv => exact q1.elim⟩
theorem r_par3 {i j k : Nat} {x y z : Str} {a b c : Expr} {as : MA} {px py pz pt pos : Pos} {kt k2 : Nat} {pt2 : Pos} (hc : X.calm = true) (hN : X.N.Nodup) (hi : X.N[i]? = some x) (hj : X.N[j]? = some y) (hk : X.N[k]? = some z) (hij : i ≠ j) (hik : i ≠ k) (hjk : j ≠ k)
    (hx : X.env.scope.names.lookup x = some .local) (hy : X.env.scope.names.lookup y = some .local) (hz : X.env.scope.names.lookup z = some .local) (ha : PA X [a, b, c] (tA p WX as))
    (hw : swappedStores [.Tuple [.Name x px, .Name y py, .Name z pz] kt pt] (.Tuple [a, b, c] k2 pt2) X.env = pure (some [x, y, z]))
    (hs : swapsWithSole [.Tuple [.Name x px, .Name y py, .Name z pz] kt pt] (.Tuple [a, b, c] k2 pt2) pos.line X.env = pure false) :
    PS X (.Assign [.Tuple [.Name x px, .Name y py, .Name z pz] kt pt] (.Tuple [a, b, c] k2 pt2) pos) (tS p WX (sPar [i, j, k] as)) :=
  PS.imp (ps_par3 hc hN hi hj hk hij hik hjk hx hy hz ha hw hs) fun D σ H ⟨W, e, s, re, rp, q⟩ => ⟨W, e, s, re, rp, q.eval re fun W1 H1 ds vs s1 l fr rp1 rv q1 => by
    match ds, q1, rv with
    | [], q1, rv => exact q1.elim
    | [_], q1, rv => exact q1.elim
    | [_, _], q1, rv => exact q1.elim
    | [d, d', d''], q1, rv =>
      unfold RelDs at rv
      obtain ⟨v, r, rfl, h1, rv⟩ := rv
      unfold RelDs at rv
      obtain ⟨w, r, rfl, h2, rv⟩ := rv
      unfold RelDs at rv
      obtain ⟨u, r, rfl, h3, rv⟩ := rv
      unfold RelDs at rv
      subst rv
      exact ⟨v, w, u, rfl, PostS.nx q1 rp1 ((((re.mono l).set i h1).set j h2).set k h3)⟩
    | _ :: _ :: _ :: _ :: _, q1, rv => exact q1.elim⟩
end
end Z

set_option Elab.async false
set_option linter.all false
set_option maxRecDepth 100000
/-! Z9: defs, calls, exceptions. -/
namespace Z
open PySem PySem.Spec PyProof.Rows L2
/-- what a def computes -/
abbrev FM := List D → Sto → R D
/-- a def's promise, by what it computes -/
def spOf (p : Pl) (n : Nat) (f : FM) : Sp := fun vs H Q E => vs.length = n ∧ ∃ W ds s, Rep p W s H ∧ RelDs p.K W ds vs ∧ Post p (RelD p.K) W H (fun c H' => E (.ref (p.xa c)) none H') Q (f ds s)
def mCall (n : Nat) (f : FM) (as : MA) : ME := fun e s => (as e s).bind fun ds s1 => if ds.length = n then f ds s1 else .bad
def startE (N : List Str) (ds : List D) : Env := ds.map some ++ List.replicate (N.length - ds.length) none
def runBody (N : List Str) (m : MS) : FM := fun ds s => match m (startE N ds) s with
  | .nx _ s1 => .ok .non s1
  | .rt d s1 => .ok d s1
  | .ex c _ s1 => .exc c s1
  | _ => .bad
/-- run alone: it knows nothing of the store -/
def alone (f : FM) : FM := fun ds s => if ds.all (pure? 12) then (match f ds [] with
  | .ok d _ => if pure? 12 d then .ok d s else .bad
  | .exc c _ => .exc c s
  | .bad => .bad) else .bad
def sRaise (c : Nat) : MS := fun e s => .ex c e s
def sTry (catch_ : Nat → Option Bool) (b h : MS) : MS := fun e s => match b e s with
  | .ex c e1 s1 => (match catch_ c with
    | some true => h e1 s1
    | some false => .ex c e1 s1
    | none => .bad)
  | o => o
/-! ### run alone -/
mutual
theorem relD_pure {K : PySem.W.Frag} {W W' : Wd} (hz : ∀ a o, W.fz a = some o → W'.fz a = some o) : ∀ (k : Nat) {d : D} {v : V}, pure? k d = true → RelD K W d v → RelD K W' d v
  | 0, d, v, h, r => by unfold pure? at h; cases h
  | k + 1, d, v, h, r => by
    cases d with
    | non => exact r
    | bl b => exact r
    | int i => exact r
    | str x => exact r
    | ref n => cases h
    | lam n => cases h
    | tup ds =>
      unfold RelD at r ⊢
      obtain ⟨a, vs, e, s, r⟩ := r
      exact ⟨a, vs, e, seqT_mono hz s, relDs_pure hz k (by simpa [pure?] using h) r⟩
    | lst ds =>
      unfold RelD at r ⊢
      obtain ⟨a, vs, e, s, r⟩ := r
      exact ⟨a, vs, e, hz _ _ s, relDs_pure hz k (by simpa [pure?] using h) r⟩
    | scr ds =>
      unfold RelD at r ⊢
      obtain ⟨a, vs, e, s, r⟩ := r
      exact ⟨a, vs, e, seqL_mono hz s, relDs_pure hz k (by simpa [pure?] using h) r⟩
theorem relDs_pure {K : PySem.W.Frag} {W W' : Wd} (hz : ∀ a o, W.fz a = some o → W'.fz a = some o) : ∀ (k : Nat) {ds : List D} {vs : List V}, (∀ d ∈ ds, pure? k d = true) → RelDs K W ds vs → RelDs K W' ds vs
  | k, [], vs, h, r => by
    unfold RelDs at r ⊢
    exact r
  | k, d :: ds, vs, h, r => by
    unfold RelDs at r ⊢
    obtain ⟨v, vr, e, h1, h2⟩ := r
    exact ⟨v, vr, e, relD_pure hz k (h d (List.mem_cons_self ..)) h1, relDs_pure hz k (fun x hx => h x (List.mem_cons_of_mem _ hx)) h2⟩
end
theorem rep_alone {p : Pl} {W : Wd} {s : Sto} {H : Hp} (rp : Rep p W s H) : Rep p ⟨W.fz, []⟩ [] H := ⟨rp.tab, rp.fz, rp.nt, rfl, List.nodup_nil, fun b hb => (by cases hb), fun n ob a e => (by simp at e)⟩
theorem rep_back {p : Pl} {W W' : Wd} {s s' : Sto} {H H' : Hp} (rp : Rep p W s H) (l : (⟨W.fz, []⟩ : Wd).le W') (fr : Fr ⟨W.fz, []⟩ W' H H') (rp' : Rep p W' s' H') : W.le ⟨W'.fz, W.io⟩ ∧ Fr W ⟨W'.fz, W.io⟩ H H' ∧ Rep p ⟨W'.fz, W.io⟩ s H' := by
  have le : W.le ⟨W'.fz, W.io⟩ := ⟨l.fz, [], by simp⟩
  refine ⟨le, ⟨fun b o e _ ht => fr.keep b o e (by simp) ht, fr.sm, fun a ha => ?_, fun a ha => .inl ha⟩, ⟨rp'.tab, rp'.fz, rp'.nt, rp.len, rp.nd, fun b hb => fr.sm b (rp.tr b hb), fun n ob a e1 e2 => ?_⟩⟩
  · rcases fr.new a ha with z | z | z | z
    · exact .inl z
    · exact .inr (.inl z)
    · cases z
    · exact .inr (.inr (.inr z))
  · have q := rp.obs n ob a e1 e2
    have key : ∀ o : HO, H a = some o → isSt o = true → H' a = H a := fun o ho hs => by
      rw [ho]
      exact fr.keep a o ho (by simp) (by rintro ps rfl; cases hs)
    have keyz : ∀ o : HO, H a = some o → isSt o = true → W.fz a = none → W'.fz a = none := fun o ho hs hz => by
      cases e : W'.fz a with
      | none => rfl
      | some o =>
        rcases fr.new a (by rw [e]; simp) with z | z | z | ⟨o2, z, z2⟩
        · exact absurd hz z
        · rw [ho] at z; cases z
        · cases z
        · rw [ho] at z
          cases z
          rw [hs] at z2
          cases z2
    cases ob with
    | dead => trivial
    | lst ds =>
      obtain ⟨_, vs, h1, _⟩ := id q
      exact q.keep le (key _ h1 rfl) (keyz _ h1 rfl)
    | dct kvs =>
      obtain ⟨_, vs, h1, _⟩ := id q
      exact q.keep le (key _ h1 rfl) (keyz _ h1 rfl)
    | ins c fs =>
      obtain ⟨_, dx, vs, h1, _⟩ := id q
      exact q.keep le (key _ h1 rfl) (keyz _ h1 rfl)
theorem spOf_alone {p : Pl} {n : Nat} {f : FM} {vs : List V} {H : Hp} {Q : VK} {E : XK} (h : spOf p n (alone f) vs H Q E) : spOf p n f vs H Q E := by
  obtain ⟨hl, W, ds, s, rp, rv, q⟩ := h
  unfold alone at q
  split at q
  · rename_i ha
    refine ⟨hl, ⟨W.fz, []⟩, ds, [], rep_alone rp, relDs_pure (W := W) (W' := ⟨W.fz, []⟩) (fun _ _ e => e) 12 (by simpa using ha) rv, ?_⟩
    cases e : f ds [] with
    | ok d s' =>
      rw [e] at q
      have q' : Post p (RelD p.K) W H (fun c H' => E (.ref (p.xa c)) none H') Q (if pure? 12 d then .ok d s else .bad) := q
      split at q'
      · rename_i hp
        intro W' H' v l fr rp' rv'
        obtain ⟨l2, f2, r2⟩ := rep_back rp l fr rp'
        exact q' _ H' v l2 f2 r2 (relD_pure (W := W') (W' := ⟨W'.fz, W.io⟩) (fun _ _ e => e) 12 hp rv')
      · exact q'.elim
    | exc c s' =>
      rw [e] at q
      intro W' H' l fr rp'
      obtain ⟨l2, f2, r2⟩ := rep_back rp l fr rp'
      exact q _ H' l2 f2 r2
    | bad => rw [e] at q; exact q
  · exact q.elim
section
variable {X : Cx} {p : Pl} {WX : L2.WX}
/-! ### calls -/
theorem t_call {n : Nat} {f : FM} {as : MA} {σ : L2.St} {H : Hp} {Q : VK} (h : tE p WX (mCall n f as) σ H Q) : tCallS (spOf p n f) (WE WX) (tA p WX as) σ H Q := by
  obtain ⟨W, e, s, re, rp, q⟩ := h
  refine ⟨W, e, s, re, rp, q.bind fun W1 H1 ds vs s1 l fr rp1 rv q1 => ?_⟩
  split at q1
  · rename_i hl
    exact ⟨by rw [← rv.length, hl], W1, ds, s1, rp1, rv, q1⟩
  · exact q1.elim
theorem r_call {n k : Nat} {f : FM} {as : MA} {fa : Addr} {fd : FuncData} {ps : List Str} {x : Str} {pp pos : Pos} {e : Expr} {es : List Expr} (F : FnOk X.prog X.w X.K X.mg X.base (L2.CX X.prog X.w) k fa fd ps (spOf p n f)) (hr : Room k X.A) (hg : Gl X x) (hm : X.mg x = some (.ref fa)) (hk : PySem.W.keepIn X.K (.ref fa) = true)
    (hb : Binds X.K fd ps []) (tk : Takes X WX) (ha : PA X (e :: es) (tA p WX as)) (hdb : (x == ("__debug__" : Str)) = false) (he : starEach (e :: es) X.env = (false, eval e X.env) :: starEach es X.env) (hpl : (backTo pos (starEach es X.env)).any (·.1) = false) :
    PE X (.Call (.Name x pp) (e :: es) [] pos) (tE p WX (mCall n f as)) := PE.imp (pe_callS F hr hg hm hk hb (fun σ => passAt tk σ) ha hdb he hpl) fun _ _ _ h => t_call h
theorem pe_call0S {n k : Nat} {f : FM} {fa : Addr} {fd : FuncData} {ps : List Str} {x : Str} {pp pos : Pos} {sp : Sp} {E : L2.St → XK} (F : FnOk X.prog X.w X.K X.mg X.base (L2.CX X.prog X.w) k fa fd ps sp) (hr : Room k X.A) (hg : Gl X x) (hm : X.mg x = some (.ref fa)) (hk : PySem.W.keepIn X.K (.ref fa) = true)
    (hb : Binds X.K fd ps []) (hx : ∀ σ, PassesAt (L2.CX X.prog X.w) X σ (E σ)) (hdb : (x == ("__debug__" : Str)) = false) : PE X (.Call (.Name x pp) [] [] pos) (tCallS sp E tNil) := by
  refine ⟨fun pins s σ H Q I h => ?_⟩
  refine wpAny_Call_Name_kw (ld_glob I hg hm ?_ hdb)
  exact PySem.W.callWith_K0 I.kIn hk (run_fnS (us := []) F hr hb (hx σ) I .nil h)
theorem r_call0 {n k : Nat} {f : FM} {fa : Addr} {fd : FuncData} {ps : List Str} {x : Str} {pp pos : Pos} (F : FnOk X.prog X.w X.K X.mg X.base (L2.CX X.prog X.w) k fa fd ps (spOf p n f)) (hr : Room k X.A) (hg : Gl X x) (hm : X.mg x = some (.ref fa)) (hk : PySem.W.keepIn X.K (.ref fa) = true)
    (hb : Binds X.K fd ps []) (tk : Takes X WX) (hdb : (x == ("__debug__" : Str)) = false) : PE X (.Call (.Name x pp) [] [] pos) (tE p WX (mCall n f aNil)) := by
  refine PE.imp (pe_call0S (n := n) (f := f) F hr hg hm hk hb (fun σ => passAt tk σ) hdb) fun σ H Q h => ?_
  obtain ⟨W, e, s, re, rp, q⟩ := h
  unfold mCall aNil at q
  have q' : Post p (RelD p.K) W H (exW p WX σ) Q (if ([] : List D).length = n then f [] s else .bad) := q
  split at q'
  · rename_i hl
    exact ⟨hl, W, [], s, rp, relDs_nil, q'⟩
  · exact q'.elim
/-! ### exceptions -/
theorem r_raise {c : Nat} {x m : Str} {j : Nat} {B newId initId : String} {bmB : List Value} {p1 p2 p3 pos : Pos} (hc : X.calm = true) (tk : Takes X WX) (F : PySem.ExcBaseFacts B newId initId bmB) (q : PySem.W.excIn X.K (p.xa c) bmB newId = true) (gC : X.mg x = some (.ref (p.xa c))) (kC : PySem.W.keepIn X.K (.ref (p.xa c)) = true)
    (r : Raises X (.ref (p.xa c))) (hg : Gl X x) (hdb : (x == ("__debug__" : Str)) = false) : PS X (.Raise (some (.Call (.Name x p1) [.Constant (.str m) j p2] [] p3)) none pos) (tS p WX (sRaise c)) :=
  PS.imp (ps_raise hc tk (pmk_own F q gC kC r hg hdb)) fun D σ H ⟨W, e, s, re, rp, q⟩ => q W H σ (Wd.le.refl W) (Fr.refl W H) rp re
theorem r_try {mb ms : MS} {catch_ : Nat → Option Bool} {x : Str} {c : Value} {body suite : List Stmt} {b₀ : Stmt} {np pos pos' : Pos} (hs : X.stack = X.env :: X.outer) (hf : X.env.frame = some X.env.locals) (hc : Names X x c) (tk : Takes X WX)
    (hx : ∀ i b, catch_ i = some b → PySem.W.exmOne X.K (.ref (p.xa i)) c = some b)
    (hb : ∀ (W : L2.WX) (pn : List (Addr × Obj)) (xe : Value → Shared → Prop), Takes (X.tr pn xe) W → PassesOwn (model X.prog X.w) X.A X.env xe → PSs (X.tr pn xe) body (tS p W mb))
    (hsu : ∀ (a : Addr) (pn : List (Addr × Obj)), PSs (X.suite a pn) (b₀ :: suite) (tS p (fun _ _ _ _ => False) ms))
    (hne : ∀ e s c e' s', ms e s ≠ .ex c e' s') :
    PS X (.Try body [.ExceptHandler (some (.Name x np)) none (b₀ :: suite) pos'] [] [] pos) (tS p WX (sTry catch_ mb ms)) :=
  PS.imp (ps_try_only (tb := fun W => tS p W mb) (ts := fun _ _ _ => tS p (fun _ _ _ _ => False) ms) hs hf hc tk hb fun a oe cls d pn _ _ => hsu a _) fun D σ H ⟨W, e, s, re, rp, q⟩ => by
    refine ⟨W, e, s, re, rp, ?_⟩
    unfold sTry at q
    cases h : mb e s with
    | nx e1 s1 => rw [h] at q; exact q
    | rt d s1 => rw [h] at q; exact q
    | bk e1 s1 => rw [h] at q; exact q
    | ct e1 s1 => rw [h] at q; exact q
    | bad => rw [h] at q; exact q
    | ex i e1 s1 =>
      rw [h] at q
      intro W1 H1 σ1 l1 f1 rp1 re1
      have q' : PostS p W H WX D (match catch_ i with | some true => ms e1 s1 | some false => .ex i e1 s1 | none => .bad) := q
      cases hci : catch_ i with
      | none => rw [hci] at q'; exact q'.elim
      | some b =>
        refine ⟨b, hx i b hci, fun hb => ?_, fun hb => ?_⟩
        · subst hb
          rw [hci] at q'
          intro a ha
          refine ⟨W1, e1, s1, re1, rp1, ?_⟩
          have q2 : PostS p W1 H1 WX D (ms e1 s1) := PostS.re l1 f1 q'
          cases hm : ms e1 s1 with
          | nx e2 s2 => rw [hm] at q2; exact q2
          | rt d s2 => rw [hm] at q2; exact q2
          | bk e2 s2 => rw [hm] at q2; exact q2
          | ct e2 s2 => rw [hm] at q2; exact q2
          | bad => rw [hm] at q2; exact q2
          | ex c2 e2 s2 => exact absurd hm (hne _ _ _ _ _)
        · subst hb
          rw [hci] at q'
          exact q' W1 H1 σ1 l1 f1 rp1 re1
end
/-! ### defs -/
theorem fn_sem {p : Pl} {P : Program} {w : World} {K : PySem.W.Frag} {mg : Str → Option Value} {base : Heap} {x qual : Str} {params : Arguments} {body : List Stmt} {scope : Scope} {f : Addr} {fd : FuncData} {N ps : List Str} {k : Nat} {m : MS}
    (hK : p.K = K) (F : FunD K x qual params body scope [] [] f fd) (S : FnScope N ps scope)
    (hb : ∀ (cdv : Value) (A : Around) (outer : List PySem.Env) (s : Shared) (H : Hp) (E : XK), Room k (A.deeper (envOfC qual scope s.heap.objs.size f cdv)) →
      PSs (cxOf (L2.CX P w) P w K mg base N qual scope f cdv A outer s H E) body (tS p (fun cls d _ H => E cls d H) m)) :
    FnOk P w K mg base (L2.CX P w) (k + 1) f fd ps (spOf p ps.length (runBody N m)) := by
  refine FunD.ok F S (fun vs H Q E h => h.1) fun cdv A outer s H vs Q E hr ⟨hl, W, ds, st, rp, rv, q⟩ => ⟨_, hb cdv A outer s H E hr, ?_⟩
  refine ⟨W, startE N ds, st, ?_, rp, ?_⟩
  · have hlen := rv.length
    refine ⟨?_, fun i d h => ?_⟩
    · unfold startE L2.start
      simp only [List.length_append, List.length_map, List.length_replicate, hlen]
    · unfold startE at h
      unfold L2.start
      by_cases hi : i < ds.length
      · rw [List.getElem?_append_left (by simpa using hi), List.getElem?_map] at h
        cases e : ds[i]? with
        | none => rw [e] at h; cases h
        | some d' =>
          rw [e] at h
          cases h
          obtain ⟨v, e2, r⟩ := rv.get e
          refine ⟨v, ?_, r⟩
          rw [List.getElem?_append_left (by rw [List.length_map, ← hlen]; exact hi), List.getElem?_map, e2]
          rfl
      · rw [List.getElem?_append_right (by simpa using hi)] at h
        rw [List.getElem?_replicate] at h
        split at h <;> cases h
  · unfold runBody at q
    cases h : m (startE N ds) st with
    | nx e1 s1 =>
      rw [h] at q
      exact fun W' H' σ' l fr rp' re' => q W' H' _ l fr rp' rel_non
    | rt d s1 =>
      rw [h] at q
      exact fun W' H' v l fr rp' rv' => q W' H' v l fr rp' rv'
    | ex c e1 s1 =>
      rw [h] at q
      exact fun W' H' σ' l fr rp' re' => q W' H' l fr rp'
    | bk e1 s1 => rw [h] at q; exact q.elim
    | ct e1 s1 => rw [h] at q; exact q.elim
    | bad => rw [h] at q; exact q.elim
end Z

set_option Elab.async false
set_option linter.all false
set_option maxRecDepth 100000
/-! Z10: built-in functions. -/
namespace Z
open PySem PySem.Spec PyProof.Rows L2
abbrev FB := List D → Sto → O1
def intsOf : List D → Option (List Int)
  | [] => some []
  | .int i :: r => (match intsOf r with | some l => some (i :: l) | none => none)
  | _ => none
def bLen : FB := fun ds s => match ds with
  | [.str x] => if x.length ≤ line then some (.int x.length, s) else none
  | [d] => (match seqOf d s with | some xs => some (.int xs.length, s) | none => none)
  | _ => none
def bInt : FB := fun ds s => match ds with
  | [.int i] => some (.int i, s)
  | [.bl b] => some (.int (if b then 1 else 0), s)
  | _ => none
def bAbs : FB := fun ds s => match ds with
  | [.int i] => some (.int (if i < 0 then -i else i), s)
  | _ => none
def bList (m : Bool) : FB := fun ds s => match ds with
  | [d] => (match seqOf d s with | some xs => mkL m xs s | none => none)
  | _ => none
def bTup : FB := fun ds s => match ds with
  | [.tup xs] => some (.tup xs, s)
  | [d] => (match seqOf d s with | some xs => mkT xs s | none => none)
  | _ => none
def bSum : FB := fun ds s => match ds with
  | [d] => (match seqOf d s with | some xs => (match intsOf xs with | some ns => some (.int ns.sum, s) | none => none) | none => none)
  | _ => none
def bMax : FB := fun ds s => match ds with
  | [.int i, .int j] => some (.int (if j > i then j else i), s)
  | _ => none
def bMin : FB := fun ds s => match ds with
  | [.int i, .int j] => some (.int (if j < i then j else i), s)
  | _ => none
def bStr : FB := fun ds s => match ds with
  | [.int i] => if i.natAbs.log2 < 1920 then some (.str (toString i), s) else none
  | _ => none
def mB1 (f : FB) (as : MA) : ME := fun e s => (as e s).bind fun ds s1 => R.of (f ds s1)
def rB (p : Pl) (f : FB) : List V → Hp → VK → Prop := fun vs H Q => ∃ W s ds, Rep p W s H ∧ RelDs p.K W ds vs ∧ PostO p (RelD p.K) W H Q (f ds s)
section
variable {X : Cx} {p : Pl} {WX : L2.WX} {W W' : Wd} {H H' : Hp} {s : Sto}
theorem relDs_1 {d : Z.D} {vs : List V} (h : RelDs p.K W [d] vs) : ∃ v, vs = [v] ∧ RelD p.K W d v := by
  unfold RelDs at h
  obtain ⟨v, r, rfl, h1, h2⟩ := h
  unfold RelDs at h2
  exact ⟨v, by rw [h2], h1⟩
theorem relDs_2 {d d' : Z.D} {vs : List V} (h : RelDs p.K W [d, d'] vs) : ∃ v w, vs = [v, w] ∧ RelD p.K W d v ∧ RelD p.K W d' w := by
  unfold RelDs at h
  obtain ⟨v, r, rfl, h1, h2⟩ := h
  obtain ⟨w, rfl, h3⟩ := relDs_1 h2
  exact ⟨v, w, rfl, h1, h3⟩
theorem CallR.imp {f : Value} {r r' : List V → Hp → VK → Prop} (h : CallR X f r) (i : ∀ vs H Q, r' vs H Q → r vs H Q) : CallR X f r' := fun pins s σ H xs us Q I rs q => h pins s σ H xs us Q I rs (i xs H Q q)
theorem t_B {f : FB} {as : MA} {σ : L2.St} {H : Hp} {Q : VK} (h : tE p WX (mB1 f as) σ H Q) : tCB (rB p f) (tA p WX as) σ H Q := by
  obtain ⟨W, e, s, re, rp, q⟩ := h
  exact ⟨W, e, s, re, rp, q.bind fun W1 H1 ds vs s1 l fr rp1 rv q1 => ⟨W1, s1, ds, rp1, rv, q1.of⟩⟩
theorem r_B {f : FB} {as : MA} {id : String} {x : Str} {pp pos : Pos} {e : Expr} {es : List Expr} (hc : CallR X (.builtin id) (rB p f)) (hg : Gl X x) (hm : X.mg x = none) (hv : bootBuiltins x = some (.builtin id)) (ha : PA X (e :: es) (tA p WX as)) (hn : x ≠ "__name__") (hdb : (x == ("__debug__" : Str)) = false)
    (he : starEach (e :: es) X.env = (false, eval e X.env) :: starEach es X.env) (hpl : (backTo pos (starEach es X.env)).any (·.1) = false) : PE X (.Call (.Name x pp) (e :: es) [] pos) (tE p WX (mB1 f as)) :=
  PE.imp (pe_callB hc hg hm hv ha hn hdb he hpl) fun _ _ _ h => t_B h
theorem r_Ty {f : FB} {as : MA} {T : String} {x : Str} {pp pos : Pos} {e : Expr} {es : List Expr} (hc : CallR X (.type T) (rB p f)) (hg : Gl X x) (hm : X.mg x = none) (hv : bootBuiltins x = some (.type T)) (ha : PA X (e :: es) (tA p WX as)) (hn : x ≠ "__name__") (hdb : (x == ("__debug__" : Str)) = false)
    (he : starEach (e :: es) X.env = (false, eval e X.env) :: starEach es X.env) (hpl : (backTo pos (starEach es X.env)).any (·.1) = false) : PE X (.Call (.Name x pp) (e :: es) [] pos) (tE p WX (mB1 f as)) :=
  PE.imp (pe_callTy hc hg hm hv ha hn hdb he hpl) fun _ _ _ h => t_B h
theorem b_len (hK : p.K = X.K) : CallR X (.builtin "len") (rB p bLen) := CallR.imp (CallR.or call_len_seq call_len_str) fun vs H Q ⟨W, s, ds, rp, rv, q⟩ => by
  unfold bLen at q
  split at q
  · obtain ⟨v, rfl, h1⟩ := relDs_1 rv
    cases relD_str h1
    split at q
    · rename_i hz
      exact .inr ⟨_, rfl, by rw [sizeLine_eq]; exact hz, q.same rp rel_int⟩
    · exact q.elim
  · obtain ⟨v, rfl, h1⟩ := relDs_1 rv
    split at q
    · rename_i xs hx
      obtain ⟨a, ys, rfl, hs, r⟩ := seq_rd rp hx h1
      exact .inl ⟨a, ys, rfl, hK ▸ hs, by rw [← r.length]; exact q.same rp rel_int⟩
    · exact q.elim
  · exact q.elim
theorem b_int : CallR X (.type "int") (rB p bInt) := CallR.imp call_int1 fun vs H Q ⟨W, s, ds, rp, rv, q⟩ => by
  unfold bInt at q
  split at q
  · obtain ⟨v, rfl, h1⟩ := relDs_1 rv
    cases relD_int h1
    exact .inl ⟨_, rfl, q.same rp rel_int⟩
  · obtain ⟨v, rfl, h1⟩ := relDs_1 rv
    cases relD_bl h1
    exact .inr ⟨_, rfl, q.same rp rel_int⟩
  · exact q.elim
theorem b_abs : CallR X (.builtin "abs") (rB p bAbs) := CallR.imp call_abs fun vs H Q ⟨W, s, ds, rp, rv, q⟩ => by
  unfold bAbs at q
  split at q
  · obtain ⟨v, rfl, h1⟩ := relDs_1 rv
    cases relD_int h1
    exact ⟨_, rfl, q.same rp rel_int⟩
  · exact q.elim
theorem b_max (hc : X.calm = true) : CallR X (.builtin "max") (rB p bMax) := CallR.imp (call_max2 hc) fun vs H Q ⟨W, s, ds, rp, rv, q⟩ => by
  unfold bMax at q
  split at q
  · obtain ⟨v, w, rfl, h1, h2⟩ := relDs_2 rv
    cases relD_int h1
    cases relD_int h2
    exact ⟨_, _, rfl, q.same rp rel_int⟩
  · exact q.elim
theorem b_min (hc : X.calm = true) : CallR X (.builtin "min") (rB p bMin) := CallR.imp (call_min2 hc) fun vs H Q ⟨W, s, ds, rp, rv, q⟩ => by
  unfold bMin at q
  split at q
  · obtain ⟨v, w, rfl, h1, h2⟩ := relDs_2 rv
    cases relD_int h1
    cases relD_int h2
    exact ⟨_, _, rfl, q.same rp rel_int⟩
  · exact q.elim
theorem b_str : CallR X (.type "str") (rB p bStr) := CallR.imp call_str_int fun vs H Q ⟨W, s, ds, rp, rv, q⟩ => by
  unfold bStr at q
  split at q
  · obtain ⟨v, rfl, h1⟩ := relDs_1 rv
    cases relD_int h1
    split at q
    · rename_i hz
      exact ⟨_, rfl, hz, q.same rp rel_str⟩
    · exact q.elim
  · exact q.elim
theorem b_list (hK : p.K = X.K) (m : Bool) : CallR X (.type "list") (rB p (bList m)) := CallR.imp call_list_of fun vs H Q ⟨W, s, ds, rp, rv, q⟩ => by
  unfold bList at q
  split at q
  · obtain ⟨v, rfl, h1⟩ := relDs_1 rv
    split at q
    · rename_i xs hx
      obtain ⟨a, ys, rfl, hs, r⟩ := seq_rd rp hx h1
      exact ⟨a, ys, rfl, hK ▸ hs, fun l n => mkL_ok rp q r n⟩
    · exact q.elim
  · exact q.elim
theorem b_tup (hK : p.K = X.K) : CallR X (.type "tuple") (rB p bTup) := CallR.imp call_tuple_of fun vs H Q ⟨W, s, ds, rp, rv, q⟩ => by
  have key : ∀ {d : Z.D} {v : V} {xs : List Z.D}, lstOf d s = some xs ∨ d = .scr xs → RelD p.K W d v → PostO p (RelD p.K) W H Q (mkT xs s) → ∃ p_1 ys, [v] = [V.ref p_1] ∧ ((SqL X.K H p_1 ys ∧ ∀ l, H l = none → Q (.ref l) (upd H l (.tup ys))) ∨ (SqT X.K H p_1 ys ∧ Q (.ref p_1) H)) := fun {d v xs} hx h1 q => by
    rcases hx with hx | rfl
    · obtain ⟨a, ys, rfl, hs, r⟩ := lst_rd rp hx h1
      exact ⟨a, ys, rfl, .inl ⟨SqL.of hs, fun l n => mkT_ok rp q r n⟩⟩
    · obtain ⟨a, ys, rfl, hs, r⟩ := relD_scr h1
      exact ⟨a, ys, rfl, .inl ⟨hK ▸ seqL_mono rp.fz hs, fun l n => mkT_ok rp q r n⟩⟩
  unfold bTup at q
  split at q
  · obtain ⟨v, rfl, h1⟩ := relDs_1 rv
    obtain ⟨a, ys, rfl, hs, r⟩ := tup_rd rp h1
    exact ⟨a, ys, rfl, .inr ⟨hK ▸ hs, q.same rp h1⟩⟩
  · rename_i d hne
    obtain ⟨v, rfl, h1⟩ := relDs_1 rv
    split at q
    · rename_i xs hx
      cases d with
      | tup ys => exact absurd rfl (hne ys)
      | lst ys => exact key (d := .lst ys) (xs := xs) (.inl hx) h1 q
      | ref n => exact key (d := .ref n) (xs := xs) (.inl hx) h1 q
      | scr ys => cases hx; exact key (.inr rfl) h1 q
      | _ => cases hx
    · exact q.elim
  · exact q.elim
theorem intsOf_rel : ∀ {xs : List Z.D} {ns : List Int} {vs : List V}, intsOf xs = some ns → RelDs p.K W xs vs → vs = ns.map V.int
  | [], ns, vs, h, r => by
    unfold RelDs at r
    cases h
    exact r
  | d :: xs, ns, vs, h, r => by
    unfold RelDs at r
    obtain ⟨v, vr, rfl, h1, h2⟩ := r
    cases d with
    | int i =>
      unfold intsOf at h
      split at h
      · rename_i l hl
        cases h
        rw [intsOf_rel hl h2, relD_int h1]
        rfl
      · cases h
    | _ => cases h
theorem sum_tup (hc : X.calm = true) : CallR X (.builtin "sum") (fun vs H Q => ∃ (a : Addr) (ns : List Int), vs = [V.ref a] ∧ SqT X.K H a (ns.map V.int) ∧ Q (.int ns.sum) H) := by
  intro pins s σ H vs us Q I r h
  obtain ⟨a, ns, rfl, hs, q⟩ := h
  obtain ⟨its, rv, hl, _⟩ := I.tuple hs
  rw [Vals.ref1 r]
  have hi := rv.ints
  obtain ⟨xs, e⟩ := hi.allInts.items
  have hn : numsOf (intItems xs).toList = ns := by rw [← e]; exact hi.numsOf
  rw [nums_intItems] at hn
  have hl' : s.heap.IsTuple a its.toArray := hl
  rw [e] at hl'
  refine PySem.W.ktm_sumG (I.ok.hd hc) hl' fun h' tk t' hk => ?_
  rw [preSum_eq, List.take_of_length_le (by simp), hn]
  exact ⟨.int _, H, I.kept hk, ⟨_, rfl⟩, q⟩
theorem b_sum (hK : p.K = X.K) (hc : X.calm = true) : CallR X (.builtin "sum") (rB p bSum) := CallR.imp (CallR.or (cr_sum hc) (sum_tup hc)) fun vs H Q ⟨W, s, ds, rp, rv, q⟩ => by
  unfold bSum at q
  split at q
  · obtain ⟨v, rfl, h1⟩ := relDs_1 rv
    split at q
    · rename_i xs hx
      split at q
      · rename_i ns hn
        obtain ⟨a, ys, rfl, hs, r⟩ := seq_rd rp hx h1
        have e := intsOf_rel hn r
        subst e
        rcases hs with hs | hs
        · exact .inl ⟨a, ns, rfl, hK ▸ hs, q.same rp rel_int⟩
        · exact .inr ⟨a, ns, rfl, hK ▸ hs, q.same rp rel_int⟩
      · exact q.elim
    · exact q.elim
  · exact q.elim
/-! ### methods of texts and lists -/
/-- what a method makes: by the thing and the arguments -/
abbrev FMt := D → List D → Sto → O1
inductive TyK where | str | list | dict
def TyK.nm : TyK → String
  | .str => "str"
  | .list => "list"
  | .dict => "dict"
def isStr : D → Bool
  | .str _ => true
  | _ => false
def isDct (d : D) (s : Sto) : Bool := match d with
  | .ref n => (match s[n]? with | some (.dct _) => true | _ => false)
  | _ => false
def isTy (T : TyK) (d : D) (s : Sto) : Bool := match T with
  | .str => isStr d
  | .list => (lstOf d s).isSome
  | .dict => isDct d s
def mMt (T : TyK) (f : FMt) (a : ME) (as : MA) : ME := fun e s => (a e s).bind fun d s1 => if isTy T d s1 then (as e s1).bind fun ds s2 => R.of (f d ds s2) else .bad
def rMt (p : Pl) (f : FMt) : V → List V → Hp → VK → Prop := fun x vs H Q => ∃ W s d ds, Rep p W s H ∧ RelD p.K W d x ∧ RelDs p.K W ds vs ∧ PostO p (RelD p.K) W H Q (f d ds s)
theorem isTy_ok {T : TyK} {d : Z.D} {st : Sto} {H : Hp} {v : V} (hK : p.K = X.K) (h : isTy T d st = true) (rp : Rep p W st H) (rv : RelD p.K W d v) : tyV X.K T.nm v H := by
  cases T with
  | str =>
    cases d with
    | str x => cases relD_str rv; rfl
    | _ => cases h
  | list =>
    cases e : lstOf d st with
    | none =>
      have h' : (lstOf d st).isSome = true := h
      rw [e] at h'
      cases h'
    | some xs =>
      obtain ⟨a, vs, rfl, h1, r⟩ := lst_rd rp e rv
      exact .inl ⟨rfl, vs, SqL.of h1⟩
  | dict =>
    cases d with
    | ref n =>
      have h' : (match st[n]? with | some (.dct _) => true | _ => false) = true := h
      split at h'
      · rename_i kvs e
        obtain ⟨a, rfl, hio⟩ := relD_ref rv
        obtain ⟨z, kws, h1, r⟩ := rp.obs n _ a e hio
        exact .inr (.inr (.inl ⟨rfl, .inl ⟨kws, h1⟩⟩))
      · cases h'
    | _ => cases h
theorem t_Mt {T : TyK} {f : FMt} {a : ME} {as : MA} {σ : L2.St} {H : Hp} {Q : VK} (hK : p.K = X.K) (h : tE p WX (mMt T f a as) σ H Q) : tBM X.K T.nm (rMt p f) (tE p WX a) (tA p WX as) σ H Q := by
  obtain ⟨W, e, s, re, rp, q⟩ := h
  refine ⟨W, e, s, re, rp, q.bind fun W1 H1 d v s1 l fr rp1 rv q1 => ?_⟩
  split at q1
  · rename_i ht
    exact ⟨isTy_ok hK ht rp1 rv, W1, e, s1, re.mono l, rp1, q1.bind fun W2 H2 ds vs s2 l2 fr2 rp2 rv2 q2 => ⟨W2, s2, d, ds, rp2, rv.mono l2, rv2, q2.of⟩⟩
  · exact q1.elim
theorem t_Mt0 {T : TyK} {f : FMt} {a : ME} {σ : L2.St} {H : Hp} {Q : VK} (hK : p.K = X.K) (h : tE p WX (mMt T f a aNil) σ H Q) : tBM0 X.K T.nm (rMt p f) (tE p WX a) σ H Q := by
  obtain ⟨W, e, s, re, rp, q⟩ := h
  refine ⟨W, e, s, re, rp, q.bind fun W1 H1 d v s1 l fr rp1 rv q1 => ?_⟩
  split at q1
  · rename_i ht
    exact ⟨isTy_ok hK ht rp1 rv, W1, s1, d, [], rp1, rv, relDs_nil, Post.of (EX := exW p WX σ) q1⟩
  · exact q1.elim
theorem MtR.imp {id : String} {r r' : V → List V → Hp → VK → Prop} (h : MtR X id r) (i : ∀ x vs H Q, r' x vs H Q → r x vs H Q) : MtR X id r' := fun pins s σ H x xs v us Q I rx rs q => h pins s σ H x xs v us Q I rx rs (i x xs H Q q)
theorem r_Mt {T : TyK} {id : String} {name : Str} {f : FMt} {a : ME} {as : MA} {ea e : Expr} {es : List Expr} {apos cpos : Pos} (hK : p.K = X.K) (pa : PlainAttrs T.nm) (slot : Slot T.nm name id) (hty : typeOf (.builtin id) = pure (.type "method_descriptor")) (hm : MtR X id (rMt p f)) (ha : PE X ea (tE p WX a)) (has : PA X (e :: es) (tA p WX as))
    (hbase : attributeBase ea name X.env (eval ea X.env) = eval ea X.env)
    (hfew : ((backTo cpos (starEach (e :: es) X.env)).all (fun x => !x.1) && (backToKw cpos (keywordEach [] X.env)).all (fun x => x.1.isSome) && decide ((e :: es).length + ([] : List Keyword).length + (if ([] : List Keyword).isEmpty then 0 else 1) < 30)) = true)
    (hline : (apos.endLine == cpos.line) = true) (hs : starEach (e :: es) X.env = (false, eval e X.env) :: starEach es X.env) (hplain : (backTo cpos (starEach es X.env)).any (·.1) = false) :
    PE X (.Call (.Attribute ea name apos) (e :: es) [] cpos) (tE p WX (mMt T f a as)) := PE.imp (pe_bm pa slot hty hm ha has hbase hfew hline hs hplain) fun _ _ _ h => t_Mt hK h
theorem r_Mt0 {T : TyK} {id : String} {name : Str} {f : FMt} {a : ME} {ea : Expr} {apos cpos : Pos} (hK : p.K = X.K) (pa : PlainAttrs T.nm) (slot : Slot T.nm name id) (hty : typeOf (.builtin id) = pure (.type "method_descriptor")) (hm : MtR X id (rMt p f)) (ha : PE X ea (tE p WX a))
    (hbase : attributeBase ea name X.env (eval ea X.env) = eval ea X.env) (hline : (apos.endLine == cpos.line) = true) :
    PE X (.Call (.Attribute ea name apos) [] [] cpos) (tE p WX (mMt T f a aNil)) := PE.imp (pe_bm0 pa slot hty hm ha hbase hline) fun _ _ _ h => t_Mt0 hK h
/-- s.index(t), when it is there -/
def mtIndex : FMt := fun x ys s => match x, ys with
  | .str a, [.str b] => (match Txt.index0 a b with | some k => some (.int (k : Nat), s) | none => none)
  | _, _ => none
theorem mt_indexS (tk : Takes X WX) (hc : X.calm = true) : MtR X "str.index" (rMt p mtIndex) := fun pins s σ H x xs v us Q I rx rs ⟨W, st, d, ds, rp, rd, rds, q⟩ => by
  refine mt_indexX hc tk pins s σ H x xs v us Q I rx rs ?_
  unfold mtIndex at q
  split at q
  · cases relD_str rd
    obtain ⟨w, rfl, h1⟩ := relDs_1 rds
    cases relD_str h1
    split at q
    · rename_i k hk
      refine ⟨_, _, rfl, rfl, fun k' hk' => ?_, fun hn => ?_⟩
      · rw [hk] at hk'
        cases hk'
        exact q.same rp rel_int
      · rw [hk] at hn
        cases hn
    · exact q.elim
  · exact q.elim
end
end Z

set_option Elab.async false
set_option linter.all false
set_option maxRecDepth 100000
/-! Z11: list comprehensions. -/
namespace Z
open PySem PySem.Spec PyProof.Rows L2
/-- no exception leaves -/
def R.nx {α : Type} : R α → R α
  | .ok a s => .ok a s
  | .exc _ _ => .bad
  | .bad => .bad
def wipeE (e : Env) : List Nat → Env
  | [] => e
  | v :: vs => (wipeE e vs).set v none
/-- a turn: k goes on behind it, with what the turn gave -/
def lcT (t : Tg) (c : MB) (el : ME) (d : D) (e : Env) (s : Sto) (k : Sto → R (List D)) : R (List D) := match t d e s with
  | some (e1, s1) => (c e1 s1).nx.bind fun b s2 => if b then (el e1 s2).nx.bind fun v s3 => (k s3).bind fun r s4 => .ok (v :: r) s4 else k s2
  | none => .bad
def lcF (t : Tg) (c : MB) (el : ME) : List D → Env → Sto → R (List D)
  | [], _, s => .ok [] s
  | d :: ds, e, s => lcT t c el d e s (lcF t c el ds e)
def lcI (src : Src) (t : Tg) (c : MB) (el : ME) : Nat → Nat → Env → Sto → R (List D)
  | 0, _, _, _ => .bad
  | n + 1, i, e, s => match src.at i s with
    | some none => .ok [] s
    | some (some d) => lcT t c el d e s (lcI src t c el n (i + 1) e)
    | none => .bad
def lcS (t : Tg) (c : MB) (el : ME) (src : Src) (e : Env) (s : Sto) : R (List D) := match src with
  | .fix xs => if xs.length ≤ line then lcF t c el xs e s else .bad
  | src => lcI src t c el line 0 e s
def bYes : MB := fun _ s => .ok true s
def mLc (m : Bool) (vs : List Nat) (t : Tg) (w : MW) (c : MB) (el : ME) : ME := fun e s => (w e s).bind fun src s1 => (lcS t c el src (wipeE e vs) s1).bind fun r s2 => R.of (mkL m r s2)
section
variable {X : Cx} {p : Pl} {WX : L2.WX} {W W' : Wd} {H H' : Hp} {s : Sto}
theorem wipeE_len (e : Env) : ∀ vs, (wipeE e vs).length = e.length
  | [] => rfl
  | v :: vs => by unfold wipeE; rw [List.length_set, wipeE_len e vs]
theorem relE_wipe {e : Env} {σ : L2.St} (h : RelE p W e σ) : ∀ vs, RelE p W (wipeE e vs) (wipe σ vs)
  | [] => h
  | v :: vs => by
    have q := relE_wipe h vs
    unfold wipeE wipe
    refine ⟨by rw [List.length_set, List.length_set, q.len], fun i d hd => ?_⟩
    by_cases hv : i = v
    · subst hv
      rw [List.getElem?_set] at hd
      simp only [if_true] at hd
      split at hd <;> cases hd
    · rw [List.getElem?_set_ne (Ne.symm hv)] at hd ⊢
      exact q.at_ i d hd
theorem wipe_set {σ : L2.St} {i : Nat} {v : Option V} : ∀ {vs : List Nat}, i ∈ vs → wipe (σ.set i v) vs = wipe σ vs
  | [], h => by cases h
  | u :: vs, h => by
    unfold wipe
    by_cases hi : i ∈ vs
    · rw [wipe_set hi]
    · rcases List.mem_cons.mp h with e | e
      · subst e
        have key : ∀ (l : List Nat), i ∉ l → wipe (σ.set i v) l = (wipe σ l).set i v := fun l => by
          induction l with
          | nil => intro _; rfl
          | cons a l ih =>
            intro hn
            unfold wipe
            rw [ih (fun z => hn (List.mem_cons_of_mem _ z)), List.set_comm]
            intro z
            exact hn (by rw [z]; exact List.mem_cons_self ..)
        rw [key vs hi, List.set_set]
      · exact absurd e hi
theorem wipe_get {σ : L2.St} {i : Nat} : ∀ {vs : List Nat}, i ∈ vs → (wipe σ vs)[i]? = none ∨ (wipe σ vs)[i]? = some none
  | [], h => by cases h
  | u :: vs, h => by
    unfold wipe
    by_cases hu : u = i
    · subst hu
      rw [List.getElem?_set]
      simp only [if_true]
      split
      · exact .inr rfl
      · exact .inl rfl
    · rw [List.getElem?_set_ne hu]
      rcases List.mem_cons.mp h with e | e
      · exact absurd e.symm hu
      · exact wipe_get e
theorem wipe_wipe {σ : L2.St} (vs : List Nat) : wipe (wipe σ vs) vs = wipe σ vs := by
  have key : ∀ l : List Nat, (∀ i ∈ l, i ∈ vs) → wipe (wipe σ vs) l = wipe σ vs := fun l => by
    induction l with
    | nil => intro _; rfl
    | cons a l ih =>
      intro h
      show (wipe (wipe σ vs) l).set a none = wipe σ vs
      rw [ih fun i hi => h i (List.mem_cons_of_mem _ hi)]
      refine List.ext_getElem? fun j => ?_
      by_cases hj : a = j
      · subst hj
        rw [List.getElem?_set]
        simp only [if_true]
        rcases wipe_get (σ := σ) (h a (List.mem_cons_self ..)) with z | z
        · rw [z]
          rw [List.getElem?_eq_none_iff] at z
          rw [if_neg (by omega)]
        · rw [z]
          rw [if_pos (List.getElem?_eq_some_iff.mp z).1]
      · rw [List.getElem?_set_ne hj]
  exact key vs fun _ h => h
/-! ### targets that stay within the block's own names -/
def gTw (p : Pl) (vs : List Nat) (t : Tg) : TG := fun v σ H Q => ∃ W e s d, RelE p W e σ ∧ Rep p W s H ∧ RelD p.K W d v ∧ PostT p W H (fun σ' H' => wipe σ' vs = wipe σ vs → Q σ' H') (t d e s)
def gTws (p : Pl) (vs : List Nat) (ts : List Tg) : TGs := fun us σ H Q => ∃ W e s ds, RelE p W e σ ∧ Rep p W s H ∧ RelDs p.K W ds us ∧ PostT p W H (fun σ' H' => wipe σ' vs = wipe σ vs → Q σ' H') (tAll ts ds e s)
theorem r_wName {vs : List Nat} {i : Nat} {x : Str} {pos : Pos} (hN : X.N.Nodup) (hi : X.N[i]? = some x) (hx : Loc X.env.scope x) (hf : X.fn x = true ∨ X.env.scope.names.lookup x = some .local) (hv : i ∈ vs) : PG X (.Name x pos) (gTw p vs (tName i)) :=
  PG.imp (pg_name hN hi hx hf) fun v σ H Q ⟨W, e, s, d, re, rp, rv, q⟩ => q.nx rp (re.set i rv) (wipe_set hv)
theorem r_wNil {vs : List Nat} : PGs X [] (gTws p vs []) := PGs.imp pgs_nil fun us σ H Q ⟨W, e, s, ds, re, rp, rv, q⟩ => by
  cases ds with
  | nil => unfold RelDs at rv; exact ⟨rv, PostT.nx q rp re rfl⟩
  | cons d r => exact q.elim
theorem PostT.impQ {Q Q' : L2.St → Hp → Prop} {o : Option (Env × Sto)} (q : PostT p W H Q o) (h : ∀ σ H, Q σ H → Q' σ H) : PostT p W H Q' o := by
  cases o with
  | none => exact q
  | some x => obtain ⟨e, s⟩ := x; exact fun W2 H2 v l2 f2 r2 re2 => h _ _ (q W2 H2 v l2 f2 r2 re2)
theorem r_wCons {vs : List Nat} {t : Tg} {ts : List Tg} {ex : Expr} {es : List Expr} (h1 : PG X ex (gTw p vs t)) (h2 : PGs X es (gTws p vs ts)) (hs : (assignEach (ex :: es) X.env).map (·.2) = assign ex X.env :: (assignEach es X.env).map (·.2)) : PGs X (ex :: es) (gTws p vs (t :: ts)) :=
  PGs.imp (pgs_cons h1 h2 hs) fun us σ H Q ⟨W, e, s, ds, re, rp, rv, q⟩ => by
    cases ds with
    | nil => exact q.elim
    | cons d r =>
      unfold RelDs at rv
      obtain ⟨v, vr, rfl, a, b⟩ := rv
      refine ⟨v, vr, rfl, W, e, s, d, re, rp, a, ?_⟩
      have q2 : PostT p W H (fun σ' H' => wipe σ' vs = wipe σ vs → Q σ' H') (match t d e s with | some (e1, s1) => tAll ts r e1 s1 | none => none) := q
      cases h : t d e s with
      | none => rw [h] at q2; exact q2
      | some x =>
        obtain ⟨e1, s1⟩ := x
        rw [h] at q2
        exact fun W' H' σ' l f rp' re' hw => ⟨W', e1, s1, r, re', rp', b.mono l, PostT.impQ (PostT.re l f q2) fun σ2 H2 hq hw2 => hq (hw2.trans hw)⟩
theorem r_wTup {vs : List Nat} {ts : List Tg} {es : List Expr} {k : Nat} {pos : Pos} (hK : p.K = X.K) (hc : X.calm = true) (h : PGs X es (gTws p vs ts)) (hn : (assignEach es X.env).length = ts.length) (hst : (assignEach es X.env).findIdx? (·.1) = none) : PG X (.Tuple es k pos) (gTw p vs (tTup ts)) :=
  PG.imp (pg_tup hc h hn hst) fun v σ H Q ⟨W, e, s, d, re, rp, rv, q⟩ => by
    cases d with
    | tup xs =>
      obtain ⟨a, us, rfl, h1, q1⟩ := tup_rd rp rv
      have q2 : PostT p W H (fun σ' H' => wipe σ' vs = wipe σ vs → Q σ' H') (tAll ts xs e s) := q
      have hl : xs.length = ts.length := by
        cases hh : tAll ts xs e s with
        | none => rw [hh] at q2; exact q2.elim
        | some x => exact tAll_len hh
      exact ⟨a, us, rfl, hK ▸ h1, by rw [← q1.length, hl], W, e, s, xs, re, rp, q1, q2⟩
    | _ => exact q.elim
/-! ### a list of the heap that is not yet known -/
/-- D is neither the store's nor known -/
structure Un0 (W : Wd) (D : Addr) : Prop where
  io : D ∉ W.io
  fz : W.fz D = none
theorem Un0.keep {D : Addr} {o : HO} (u : Un0 W D) (h : H D = some o) (hs : isSt o = true) (f : Fr W W' H H') : Un0 W' D ∧ H' D = some o := by
  refine ⟨⟨fun z => ?_, ?_⟩, f.keep D o h u.io (by rintro ps rfl; cases hs)⟩
  · rcases f.io D z with e | e
    · exact u.io e
    · rw [h] at e; cases e
  · cases e : W'.fz D with
    | none => rfl
    | some o' =>
      rcases f.new D (by rw [e]; simp) with z | z | z | ⟨o2, z, z2⟩
      · exact absurd u.fz z
      · rw [h] at z; cases z
      · exact absurd z u.io
      · rw [h] at z
        cases z
        rw [hs] at z2
        cases z2
theorem Un0.fresh {D : Addr} (rp : Rep p W s H) (h : H D = none) : Un0 W D := by
  refine ⟨fun z => rp.tr D z h, ?_⟩
  cases e : W.fz D with
  | none => rfl
  | some o => rw [rp.fz D o e] at h; cases h
theorem Rep.other {D : Addr} {o u : HO} (rp : Rep p W s H) (n : Un0 W D) (h : H D = some u) (hs : isSt u = true) : Rep p W s (upd H D o) := by
  refine ⟨rp.tab.put h hs, fun b x e => ?_, rp.nt, rp.len, rp.nd, fun b hb => ?_, fun k ob b e1 e2 => ?_⟩
  · have hb : b ≠ D := fun z => by rw [z, n.fz] at e; cases e
    rw [upd_ne hb]; exact rp.fz b x e
  · have hb2 : b ≠ D := fun z => n.io (z ▸ hb)
    rw [upd_ne hb2]; exact rp.tr b hb
  · have hb : b ≠ D := fun z => n.io (z ▸ List.mem_of_getElem? e2)
    exact (rp.obs k ob b e1 e2).keep (Wd.le.refl W) (upd_ne hb) (fun z => z)
theorem Rep.new0 {D : Addr} {o : HO} (rp : Rep p W s H) (n : H D = none) : Rep p W s (upd H D o) := by
  have ne : ∀ b x, H b = some x → b ≠ D := fun b x e => ne_of_none e n
  refine ⟨rp.tab.ext fun b x e => by rw [upd_ne (ne b x e)]; exact e, fun b x e => by rw [upd_ne (ne b x (rp.fz b x e))]; exact rp.fz b x e, rp.nt, rp.len, rp.nd, fun b hb => ?_, fun k ob b e1 e2 => ?_⟩
  · have hb2 : b ≠ D := fun z => rp.tr b hb (z ▸ n)
    rw [upd_ne hb2]; exact rp.tr b hb
  · have hb : b ≠ D := fun z => rp.tr b (List.mem_of_getElem? e2) (z ▸ n)
    exact (rp.obs k ob b e1 e2).keep (Wd.le.refl W) (upd_ne hb) (fun z => z)
theorem Fr.other {D : Addr} {o : HO} (f : Fr W W' H H') (n : H D = none) : Fr W W' H (upd H' D o) := by
  refine ⟨fun b x e hb ht => ?_, fun b hb => ?_, f.new, f.io⟩
  · rw [upd_ne (ne_of_none e n)]; exact f.keep b x e hb ht
  · by_cases z : b = D
    · rw [z, upd_same]; simp
    · rw [upd_ne z]; exact f.sm b hb
/-- the list at D becomes known -/
theorem adopt {m : Bool} {ds : List Z.D} {acc : List V} {D : Addr} {H0 : Hp} {W0 : Wd} {Q : VK} {EX : Nat → Hp → Prop} (rp : Rep p W s H) (n : Un0 W D) (h : H D = some (.lst acc)) (rv : RelDs p.K W ds acc) (l : W0.le W) (f : Fr W0 W H0 H) (n0 : H0 D = none)
    (q : Post p (RelD p.K) W0 H0 EX Q (R.of (mkL m ds s))) : Q (.ref D) H := by
  unfold mkL at q
  split at q
  · cases m with
    | false =>
      have le : W.le ⟨upd W.fz D (.lst acc), W.io⟩ := ⟨fun b x e => by
        show upd W.fz D (.lst acc) b = some x
        rw [upd_ne (ne_of_none e n.fz)]; exact e, [], by simp⟩
      refine q ⟨upd W.fz D (.lst acc), W.io⟩ H (.ref D) (l.trans le) ⟨f.keep, f.sm, fun a ha => ?_, f.io⟩ ⟨rp.tab, fun b x e => ?_, fun b ps e => ?_, rp.len, rp.nd, rp.tr, fun k ob b e1 e2 => ?_⟩ (rel_lst upd_same (rv.mono le))
      · by_cases z : a = D
        · rw [z]; exact .inr (.inl n0)
        · have ha' : upd W.fz D (.lst acc) a ≠ none := ha
          rw [upd_ne z] at ha'
          exact f.new a ha'
      · have e' : upd W.fz D (.lst acc) b = some x := e
        by_cases z : b = D
        · rw [z, upd_same] at e'
          cases e'
          rw [z]; exact h
        · rw [upd_ne z] at e'; exact rp.fz b x e'
      · have e' : upd W.fz D (.lst acc) b = some (.tbl ps) := e
        by_cases z : b = D
        · rw [z, upd_same] at e'; cases e'
        · rw [upd_ne z] at e'; exact rp.nt b ps e'
      · have hb : b ≠ D := fun z => n.io (z ▸ List.mem_of_getElem? e2)
        exact (rp.obs k ob b e1 e2).keep le rfl (fun hz => by
          show upd W.fz D (.lst acc) b = none
          rw [upd_ne hb]; exact hz)
    | true =>
      have le : W.le ⟨W.fz, W.io ++ [D]⟩ := ⟨fun _ _ e => e, [D], rfl⟩
      have hat : (W.io ++ [D])[s.length]? = some D := by rw [List.getElem?_append_right (by rw [rp.len]; exact Nat.le_refl _), rp.len, Nat.sub_self]; rfl
      refine q ⟨W.fz, W.io ++ [D]⟩ H (.ref D) (l.trans le) ⟨f.keep, f.sm, f.new, fun a ha => ?_⟩ ⟨rp.tab, rp.fz, rp.nt, ?_, ?_, fun b hb => ?_, fun k ob b e1 e2 => ?_⟩ (rel_ref hat)
      · rcases List.mem_append.mp ha with z | z
        · exact f.io a z
        · rw [List.mem_singleton.mp z]; exact .inr n0
      · show (W.io ++ [D]).length = (s ++ [Ob.lst ds]).length
        rw [List.length_append, List.length_append, rp.len]; rfl
      · show (W.io ++ [D]).Nodup
        exact List.nodup_append.mpr ⟨rp.nd, by simp, fun x hx y hy => by rw [List.mem_singleton.mp hy]; rintro rfl; exact n.io hx⟩
      · rcases List.mem_append.mp hb with z | z
        · exact rp.tr b z
        · rw [List.mem_singleton.mp z, h]; simp
      · have e2' : (W.io ++ [D])[k]? = some b := e2
        by_cases hk : k < s.length
        · rw [List.getElem?_append_left hk] at e1
          rw [List.getElem?_append_left (by rw [rp.len]; exact hk)] at e2'
          exact (rp.obs k ob b e1 e2').keep le rfl (fun z => z)
        · have hk2 : k = s.length := by
            have h1 := (List.getElem?_eq_some_iff.mp e1).1
            rw [List.length_append] at h1
            simp only [List.length_singleton] at h1
            omega
          subst hk2
          rw [List.getElem?_append_right (Nat.le_refl _), Nat.sub_self] at e1
          rw [hat] at e2'
          simp only [List.getElem?_cons_zero, Option.some.injEq] at e1 e2'
          subst e1
          subst e2'
          exact ⟨n.fz, acc, h, rv.mono le⟩
  · exact q.elim
end
end Z

set_option Elab.async false
set_option linter.all false
set_option maxRecDepth 100000
/-! Z11b: the rule of list comprehensions. -/
namespace Z
open PySem PySem.Spec PyProof.Rows L2
abbrev W0x : L2.WX := fun _ _ _ _ => False
section
variable {X : Cx} {p : Pl} {WX : L2.WX} {W W' : Wd} {H H' : Hp} {s : Sto}
theorem Post.unx {α β : Type} {Rl : Wd → α → β → Prop} {EX EX' : Nat → Hp → Prop} {Q : β → Hp → Prop} {r : R α} (h : Post p Rl W H EX Q (R.nx r)) : Post p Rl W H EX' Q r := by
  cases r with
  | ok a s => exact h
  | exc c s => exact h.elim
  | bad => exact h.elim
/-- behind an evaluation, from a later state -/
theorem Post.re {α β : Type} {Rl : Wd → α → β → Prop} {EX : Nat → Hp → Prop} {Q : β → Hp → Prop} {x : R α} (l : W.le W') (fr : Fr W W' H H') (q : Post p Rl W H EX Q x) : Post p Rl W' H' EX Q x := by
  cases x with
  | ok d s => exact fun W2 H2 v l2 f2 r2 rv => q W2 H2 v (l.trans l2) (fr.trans f2) r2 rv
  | exc c s => exact fun W2 H2 l2 f2 r2 => q W2 H2 (l.trans l2) (fr.trans f2) r2
  | bad => exact q
/-- the turns of a comprehension, from (W0, H0): K tells what is wanted of all that came -/
structure LcAt (p : Pl) (W0 : Wd) (H0 : Hp) (D : Addr) (WX : Nat → Hp → Prop) (Q : VK) (m : Bool) (σ : L2.St) (e : Env) (rest : Sto → R (List Z.D)) (H : Hp) : Prop where
  ex : ∃ W s acc ds, W0.le W ∧ Fr W0 W H0 H ∧ RelE p W e σ ∧ Rep p W s H ∧ Un0 W D ∧ H D = some (.lst acc) ∧ RelDs p.K W ds acc ∧ Post p (RelD p.K) W0 H0 WX Q ((rest s).bind fun r s2 => R.of (mkL m (ds ++ r) s2))
theorem lcT_ok {vs : List Nat} {t : Tg} {c : MB} {el : ME} {d : Z.D} {v : V} {m : Bool} {D : Addr} {e : Env} {σ : L2.St} {k : Sto → R (List Z.D)} {W0 : Wd} {H0 H1 : Hp} {W1 : Wd} {EX : Nat → Hp → Prop} {Q : VK} {acc : List V} {ds : List Z.D} {st : Sto} {Nx : Hp → Prop}
    (n0 : H0 D = none) (l : W0.le W) (f : Fr W0 W H0 H) (re : RelE p W e (wipe σ vs)) (rp : Rep p W st H) (un : Un0 W D) (hD : H D = some (.lst acc)) (rds : RelDs p.K W ds acc) (rv : RelD p.K W d v) (hz : acc.length < line)
    (q : Post p (RelD p.K) W0 H0 EX Q ((lcT t c el d e st k).bind fun r s2 => R.of (mkL m (ds ++ r) s2)))
    (hNx : ∀ H' ds', ds'.length ≤ ds.length + 1 → (∃ W s acc, W0.le W ∧ Fr W0 W H0 H' ∧ RelE p W e (wipe σ vs) ∧ Rep p W s H' ∧ Un0 W D ∧ H' D = some (.lst acc) ∧ RelDs p.K W ds' acc ∧ Post p (RelD p.K) W0 H0 EX Q ((k s).bind fun r s2 => R.of (mkL m (ds' ++ r) s2))) → Nx H') :
    gTw p vs t v (wipe σ vs) H fun σ2 H2 => wipe σ2 vs = wipe σ vs ∧ tB p W0x c σ2 H2 fun b H3 => if b = true then tE p W0x el σ2 H3 fun y H4 => ∃ acc, H4 D = some (.lst acc) ∧ acc.length < sizeLine ∧ Nx (upd H4 D (.lst (acc ++ [y]))) else Nx H3 := by
  refine ⟨W, e, st, d, re, rp, rv, ?_⟩
  unfold lcT at q
  cases h : t d e st with
  | none => rw [h] at q; exact q.elim
  | some x =>
    obtain ⟨e1, s1⟩ := x
    rw [h] at q
    intro W1 H1 σ1 l1 f1 rp1 re1 hw
    refine ⟨hw.trans (wipe_wipe vs), W1, e1, s1, re1, rp1, ?_⟩
    obtain ⟨un1, hD1⟩ := un.keep hD rfl f1
    have q1 : Post p (RelD p.K) W0 H0 EX Q (((c e1 s1).nx.bind fun b s2 => if b then (el e1 s2).nx.bind fun v s3 => (k s3).bind fun r s4 => .ok (v :: r) s4 else k s2).bind fun r s2 => R.of (mkL m (ds ++ r) s2)) := q
    cases hc : c e1 s1 with
    | bad => rw [hc] at q1; exact q1.elim
    | exc i s2 => rw [hc] at q1; exact q1.elim
    | ok b s2 =>
      rw [hc] at q1
      intro W2 H2 v2 l2 f2 rp2 rv2
      subst rv2
      obtain ⟨un2, hD2⟩ := un1.keep hD1 rfl f2
      cases v2 with
      | false =>
        rw [if_neg Bool.false_ne_true]
        exact hNx H2 ds (by omega) ⟨W2, s2, acc, (l.trans l1).trans l2, (f.trans f1).trans f2, (re.mono l1).mono l2, rp2, un2, hD2, (rds.mono l1).mono l2, q1⟩
      | true =>
        rw [if_pos rfl]
        refine ⟨W2, e1, s2, re1.mono l2, rp2, ?_⟩
        have q2 : Post p (RelD p.K) W0 H0 EX Q (((el e1 s2).nx.bind fun v s3 => (k s3).bind fun r s4 => .ok (v :: r) s4).bind fun r s2 => R.of (mkL m (ds ++ r) s2)) := q1
        cases he : el e1 s2 with
        | bad => rw [he] at q2; exact q2.elim
        | exc i s3 => rw [he] at q2; exact q2.elim
        | ok y s3 =>
          rw [he] at q2
          intro W3 H3 v3 l3 f3 rp3 rv3
          obtain ⟨un3, hD3⟩ := un2.keep hD2 rfl f3
          have ll := ((l.trans l1).trans l2).trans l3
          refine ⟨acc, hD3, by rw [sizeLine_eq]; exact hz, hNx _ (ds ++ [y]) (by rw [List.length_append]; simp) ⟨W3, s3, acc ++ [v3], ll, (((f.trans f1).trans f2).trans f3).other n0, (((re.mono l1).mono l2).mono l3), rp3.other un3 hD3 rfl, un3, upd_same, (((rds.mono l1).mono l2).mono l3).append (relDs_cons rv3 relDs_nil), ?_⟩⟩
          have q3 : Post p (RelD p.K) W0 H0 EX Q (((k s3).bind fun r s4 => (.ok (y :: r) s4 : R (List Z.D))).bind fun r s2 => R.of (mkL m (ds ++ r) s2)) := q2
          cases hk : k s3 with
          | bad => rw [hk] at q3; exact q3
          | exc i s4 => rw [hk] at q3; exact q3
          | ok r s4 =>
            rw [hk] at q3
            have q4 : Post p (RelD p.K) W0 H0 EX Q (R.of (mkL m (ds ++ (y :: r)) s4)) := q3
            show Post p (RelD p.K) W0 H0 EX Q (R.of (mkL m ((ds ++ [y]) ++ r) s4))
            rw [List.append_assoc]
            exact q4
theorem t_lc {m : Bool} {vs : List Nat} {t : Tg} {w : MW} {c : MB} {el : ME} {tt : TT} (htt : ∀ σ H Q, tB p W0x c σ H Q → tt σ H Q) {σ : L2.St} {H : Hp} {Q : VK} (h : tE p WX (mLc m vs t w c el) σ H Q) : tLc (tI p WX w) (gTw p vs t) tt (tE p W0x el) vs σ H Q := by
  obtain ⟨W, e, s, re, rp, q⟩ := h
  refine ⟨W, e, s, re, rp, q.bind fun W1 H1 src J s1 l fr rp1 so q1 => fun D hD => ?_⟩
  have re1 := relE_wipe (re.mono l) vs
  have start : ∀ {rest : Sto → R (List Z.D)}, Post p (RelD p.K) W1 H1 (exW p WX σ) Q ((rest s1).bind fun r s2 => R.of (mkL m r s2)) →
      ∃ W' s' acc, W1.le W' ∧ Fr W1 W' H1 (upd H1 D (.lst [])) ∧ RelE p W' (wipeE e vs) (wipe σ vs) ∧ Rep p W' s' (upd H1 D (.lst [])) ∧ Un0 W' D ∧ upd H1 D (.lst []) D = some (.lst acc) ∧ RelDs p.K W' [] acc ∧ Post p (RelD p.K) W1 H1 (exW p WX σ) Q ((rest s').bind fun r s2 => R.of (mkL m ([] ++ r) s2)) := fun {rest} q =>
    ⟨W1, s1, [], Wd.le.refl W1, (Fr.refl W1 H1).other hD, re1, rp1.new0 hD, Un0.fresh rp1 hD, upd_same, relDs_nil, q⟩
  have any : ∀ (n : Nat), n ≤ line → Post p (RelD p.K) W1 H1 (exW p WX σ) Q ((lcI src t c el n 0 (wipeE e vs) s1).bind fun r s2 => R.of (mkL m r s2)) → ∃ Wt : Nat → Nat → Hp → Prop, (∃ m, Wt 0 m (upd H1 D (.lst []))) ∧ ∀ i m H, Wt i m H →
      (J.stop i H ∧ Q (.ref D) H) ∨ (J.go i H ∧ ∃ Nx : Hp → Prop, (∀ H', Nx H' → ∃ m', m' < m ∧ Wt (i + 1) m' H') ∧ ∀ x H', J.yld i H x H' → gTw p vs t x (wipe σ vs) H' fun σ2 H2 => wipe σ2 vs = wipe σ vs ∧ tt σ2 H2 fun b H3 =>
        if b = true then tE p W0x el σ2 H3 fun y H4 => ∃ acc, H4 D = some (.lst acc) ∧ acc.length < sizeLine ∧ Nx (upd H4 D (.lst (acc ++ [y]))) else Nx H3) := fun n hn q2 => by
    refine ⟨fun i mm H => mm + i ≤ line ∧ ∃ ds, ds.length ≤ i ∧ ∃ W' s' acc, W1.le W' ∧ Fr W1 W' H1 H ∧ RelE p W' (wipeE e vs) (wipe σ vs) ∧ Rep p W' s' H ∧ Un0 W' D ∧ H D = some (.lst acc) ∧ RelDs p.K W' ds acc ∧ Post p (RelD p.K) W1 H1 (exW p WX σ) Q ((lcI src t c el mm i (wipeE e vs) s').bind fun r s2 => R.of (mkL m (ds ++ r) s2)),
      ⟨n, hn, [], Nat.le_refl _, start (rest := lcI src t c el n 0 (wipeE e vs)) q2⟩, ?_⟩
    rintro i mm H ⟨hm, ds, hds, W', s', acc, l', fr', re', rp', un, hH, rds, q3⟩
    cases mm with
    | zero => exact q3.elim
    | succ mm =>
      unfold lcI at q3
      have so' := so i W' s' H l' rp'
      cases ha : src.at i s' with
      | none => rw [ha] at q3; exact q3.elim
      | some o =>
        rw [ha] at q3 so'
        cases o with
        | none =>
          refine .inl ⟨so', adopt (EX := exW p WX σ) rp' un hH rds l' fr' hD (m := m) ?_⟩
          have q4 : Post p (RelD p.K) W1 H1 (exW p WX σ) Q (R.of (mkL m (ds ++ []) s')) := q3
          rw [List.append_nil] at q4
          exact q4
        | some d =>
          obtain ⟨go, yl⟩ := so'
          refine .inr ⟨go, fun H => ∃ ds, ds.length ≤ i + 1 ∧ ∃ W' s' acc, W1.le W' ∧ Fr W1 W' H1 H ∧ RelE p W' (wipeE e vs) (wipe σ vs) ∧ Rep p W' s' H ∧ Un0 W' D ∧ H D = some (.lst acc) ∧ RelDs p.K W' ds acc ∧ Post p (RelD p.K) W1 H1 (exW p WX σ) Q ((lcI src t c el mm (i + 1) (wipeE e vs) s').bind fun r s2 => R.of (mkL m (ds ++ r) s2)),
            fun H' h' => ⟨mm, Nat.lt_succ_self mm, by omega, h'⟩, fun x H2 y => ?_⟩
          obtain ⟨W2, l2, f2, rp2, rv2⟩ := yl x H2 y
          obtain ⟨un2, hH2⟩ := un.keep hH rfl f2
          have g := lcT_ok (W0 := W1) (H0 := H1) (σ := σ) (Nx := fun H => ∃ ds, ds.length ≤ i + 1 ∧ ∃ W' s' acc, W1.le W' ∧ Fr W1 W' H1 H ∧ RelE p W' (wipeE e vs) (wipe σ vs) ∧ Rep p W' s' H ∧ Un0 W' D ∧ H D = some (.lst acc) ∧ RelDs p.K W' ds acc ∧ Post p (RelD p.K) W1 H1 (exW p WX σ) Q ((lcI src t c el mm (i + 1) (wipeE e vs) s').bind fun r s2 => R.of (mkL m (ds ++ r) s2)))
            (W1 := W1) (H1 := H1) hD (l'.trans l2) (fr'.trans f2) (re'.mono l2) rp2 un2 hH2 (rds.mono l2) rv2 (by rw [← rds.length]; omega) q3 fun H' ds' hl h => ⟨ds', by omega, h⟩
          obtain ⟨Wa, ea, sa, da, g1, g2, g3, g4⟩ := g
          exact ⟨Wa, ea, sa, da, g1, g2, g3, PostT.impQ g4 fun σ2 H2 h hw => ⟨(h hw).1, htt _ _ _ (h hw).2⟩⟩
  have q2 : Post p (RelD p.K) W1 H1 (exW p WX σ) Q ((lcS t c el src (wipeE e vs) s1).bind fun r s2 => R.of (mkL m r s2)) := q1
  cases src with
  | liv n => exact any line (Nat.le_refl _) q2
  | enu a => exact any line (Nat.le_refl _) q2
  | zip a b => exact any line (Nat.le_refl _) q2
  | fix xs =>
    unfold lcS at q2
    have q3 : Post p (RelD p.K) W1 H1 (exW p WX σ) Q ((if xs.length ≤ line then lcF t c el xs (wipeE e vs) s1 else .bad).bind fun r s2 => R.of (mkL m r s2)) := q2
    by_cases hz : xs.length ≤ line
    · rw [if_pos hz] at q3
      refine ⟨fun i mm H => mm = xs.length - i ∧ i ≤ xs.length ∧ ∃ ds, ds.length ≤ i ∧ ∃ W' s' acc, W1.le W' ∧ Fr W1 W' H1 H ∧ RelE p W' (wipeE e vs) (wipe σ vs) ∧ Rep p W' s' H ∧ Un0 W' D ∧ H D = some (.lst acc) ∧ RelDs p.K W' ds acc ∧ Post p (RelD p.K) W1 H1 (exW p WX σ) Q ((lcF t c el (xs.drop i) (wipeE e vs) s').bind fun r s2 => R.of (mkL m (ds ++ r) s2)),
        ⟨_, rfl, Nat.zero_le _, [], Nat.le_refl _, start (rest := lcF t c el xs (wipeE e vs)) q3⟩, ?_⟩
      rintro i mm H ⟨hm, hi2, ds, hds, W', s', acc, l', fr', re', rp', un, hH, rds, q4⟩
      have so' := so i W' s' H l' rp'
      by_cases hl : i < xs.length
      · have e1 : (Src.fix xs).at i s' = some (some xs[i]) := by
          show some xs[i]? = _
          rw [List.getElem?_eq_getElem hl]
        rw [e1] at so'
        obtain ⟨go, yl⟩ := so'
        rw [List.drop_eq_getElem_cons hl] at q4
        refine .inr ⟨go, fun H => ∃ ds, ds.length ≤ i + 1 ∧ ∃ W' s' acc, W1.le W' ∧ Fr W1 W' H1 H ∧ RelE p W' (wipeE e vs) (wipe σ vs) ∧ Rep p W' s' H ∧ Un0 W' D ∧ H D = some (.lst acc) ∧ RelDs p.K W' ds acc ∧ Post p (RelD p.K) W1 H1 (exW p WX σ) Q ((lcF t c el (xs.drop (i + 1)) (wipeE e vs) s').bind fun r s2 => R.of (mkL m (ds ++ r) s2)),
          fun H' h' => ⟨xs.length - (i + 1), by omega, rfl, by omega, h'⟩, fun x H2 y => ?_⟩
        obtain ⟨W2, l2, f2, rp2, rv2⟩ := yl x H2 y
        obtain ⟨un2, hH2⟩ := un.keep hH rfl f2
        have g := lcT_ok (W0 := W1) (H0 := H1) (σ := σ) (Nx := fun H => ∃ ds, ds.length ≤ i + 1 ∧ ∃ W' s' acc, W1.le W' ∧ Fr W1 W' H1 H ∧ RelE p W' (wipeE e vs) (wipe σ vs) ∧ Rep p W' s' H ∧ Un0 W' D ∧ H D = some (.lst acc) ∧ RelDs p.K W' ds acc ∧ Post p (RelD p.K) W1 H1 (exW p WX σ) Q ((lcF t c el (xs.drop (i + 1)) (wipeE e vs) s').bind fun r s2 => R.of (mkL m (ds ++ r) s2)))
          (W1 := W1) (H1 := H1) hD (l'.trans l2) (fr'.trans f2) (re'.mono l2) rp2 un2 hH2 (rds.mono l2) rv2 (by rw [← rds.length]; omega) q4 fun H' ds' hl h => ⟨ds', by omega, h⟩
        obtain ⟨Wa, ea, sa, da, g1, g2, g3, g4⟩ := g
        exact ⟨Wa, ea, sa, da, g1, g2, g3, PostT.impQ g4 fun σ2 H2 h hw => ⟨(h hw).1, htt _ _ _ (h hw).2⟩⟩
      · have e1 : (Src.fix xs).at i s' = some none := by
          show some xs[i]? = _
          rw [List.getElem?_eq_none (by omega)]
        rw [e1] at so'
        rw [List.drop_eq_nil_of_le (by omega)] at q4
        refine .inl ⟨so', adopt (EX := exW p WX σ) rp' un hH rds l' fr' hD (m := m) ?_⟩
        have q5 : Post p (RelD p.K) W1 H1 (exW p WX σ) Q (R.of (mkL m (ds ++ []) s')) := q4
        rw [List.append_nil] at q5
        exact q5
    · rw [if_neg hz] at q3
      exact q3.elim
theorem r_lc {m : Bool} {t : Tg} {w : MW} {c : MB} {el : ME} {elt tg iter : Expr} {ifs : List Expr} {scope : Scope} {own : List (Str × Nat)} {pos : Pos} {tt : TT} (hc : X.calm = true) (hN : X.N.Nodup) (hi : PI X tg iter (tI p WX w)) (ok : BlkOk X.N X.env.scope scope own)
    (hg : ∀ (s : Shared) (H : Hp) (C : Addr) (cl : List (Str × Addr)) (fp : List Addr), PG (X.blk s H scope (compEnvC scope cl C X.env) fp) tg (gTw p (own.map (·.2)) t))
    (ht : ∀ (s : Shared) (H : Hp) (C : Addr) (cl : List (Str × Addr)) (fp : List Addr), PTs (X.blk s H scope (compEnvC scope cl C X.env) fp) ifs tt)
    (htt : ∀ σ H Q, tB p W0x c σ H Q → tt σ H Q)
    (he : ∀ (s : Shared) (H : Hp) (C : Addr) (cl : List (Str × Addr)) (fp : List Addr), PE (X.blk s H scope (compEnvC scope cl C X.env) fp) elt (tE p W0x el)) (hs : ∀ x, foldedSetIterable iter X.env x = pure x) :
    PE X (.ListComp elt [⟨tg, iter, ifs, 0⟩] scope pos) (tE p WX (mLc m (own.map (·.2)) t w c el)) := PE.imp (pe_lc hc hN hi ok hg ht he hs) fun _ _ _ h => t_lc htt h
/-- name = [..] on one line -/
theorem r_setLc {m : Bool} {t : Tg} {w : MW} {c : MB} {el : ME} {i : Nat} {y : Str} {py spos : Pos} {elt tg iter : Expr} {ifs : List Expr} {scope : Scope} {own : List (Str × Nat)} {pos : Pos} {tt : TT} (hc : X.calm = true) (hN : X.N.Nodup) (hy : X.N[i]? = some y) (hyl : X.env.scope.names.lookup y = some .local)
    (hsw : swapsWith (.ListComp elt [⟨tg, iter, ifs, 0⟩] scope pos) (some (.Name y py)) spos.line X.env = pure true) (hi : PI X tg iter (tI p WX w)) (ok : BlkOk X.N X.env.scope scope own)
    (hg : ∀ (s : Shared) (H : Hp) (C : Addr) (cl : List (Str × Addr)) (fp : List Addr), PG (X.blk s H scope (compEnvC scope cl C X.env) fp) tg (gTw p (own.map (·.2)) t))
    (ht : ∀ (s : Shared) (H : Hp) (C : Addr) (cl : List (Str × Addr)) (fp : List Addr), PTs (X.blk s H scope (compEnvC scope cl C X.env) fp) ifs tt)
    (htt : ∀ σ H Q, tB p W0x c σ H Q → tt σ H Q)
    (he : ∀ (s : Shared) (H : Hp) (C : Addr) (cl : List (Str × Addr)) (fp : List Addr), PE (X.blk s H scope (compEnvC scope cl C X.env) fp) elt (tE p W0x el)) (hs : ∀ x, foldedSetIterable iter X.env x = pure x) :
    PS X (.Assign [.Name y py] (.ListComp elt [⟨tg, iter, ifs, 0⟩] scope pos) spos) (tS p WX (sAsg (tName i) (mLc m (own.map (·.2)) t w c el))) :=
  PS.imp (ps_setLc hc hN hy hyl hsw hi ok hg ht he hs) fun D σ H ⟨W, e, s, re, rp, q⟩ => t_lc htt ⟨W, e, s, re, rp, q.eval re fun W1 H1 d v s1 l fr rp1 rv q1 => PostT.nx (goOn_post q1) rp1 ((re.mono l).set i rv)⟩
end
end Z

set_option Elab.async false
set_option linter.all false
set_option maxRecDepth 100000
set_option maxHeartbeats 1000000
/-! Z12: generator expressions: the frame of one. -/
namespace Z
open PySem PySem.Spec PyProof.Rows L2
structure GxOk (N : List Str) (sc scope : Scope) (own : List (Str × Nat)) : Prop where
  blk : BlkOk N sc scope own
  co : scope.isCoroutine = false
  dot : scope.names.lookup (".0" : Str) = some .local
def gxOkB (N : List Str) (sc scope : Scope) (own : List (Str × Nat)) : Bool := blkC N sc scope own && !scope.isCoroutine && decide (scope.names.lookup (".0" : Str) = some .local)
theorem gxOk_by {N : List Str} {sc scope : Scope} {own : List (Str × Nat)} (h : gxOkB N sc scope own = true) : GxOk N sc scope own := by
  unfold gxOkB at h
  simp only [Bool.and_eq_true, Bool.not_eq_true', decide_eq_true_eq] at h
  exact ⟨blkOk_by h.1.1, h.1.2, h.2⟩
abbrev gxCells (X : Cx) (scope : Scope) (n : Nat) : List (Str × Addr) := cellsFrom (n + 1) scope.names (cloFrom X.env.cells scope.names [])
abbrev gxEnv (X : Cx) (scope : Scope) (L : Addr) (code : Value) : PySem.Env := newEnv scope L X.env.globals (gxCells X scope L) (X.env.qual ++ "<genexpr>.") none code none builtinsNs
abbrev gxCx (X : Cx) (A : Around) (s : Shared) (H : Hp) (cenv : PySem.Env) (fp : List Addr) : Cx :=
  { X with A := A.deeper cenv, s_0 := s, H_0 := H, env := cenv, outer := X.stack, stack := cenv :: X.stack, ex := fp, fn := fun x => cenv.scope.names.lookup x == some .cell, pn := [], xe := fun _ _ => False }
section
variable {X : Cx} {pins : List (Addr × Obj)} {σ : L2.St} {H : Hp} {s : Shared}
theorem gx_start {scope : Scope} {own : List (Str × Nat)} {fp : List Addr} {A : Around} {s2 : Shared} {code : Value} {m : Str → Option Value} (I : Inv X pins σ H s) (ok : GxOk X.N X.env.scope scope own) (hN : X.N.Nodup) (hfp : ∀ b ∈ fp, FpOk X pins H b ∧ b < s.heap.objs.size)
    (hA : A.handled = none) (hfr : A.frames = some X.stack) (hos : s2.os = s.os) (hb : AllBare s2.gens) (kp : ∀ b o, s.heap.get? b = some o → s2.heap.get? b = some o) (hns : s2.heap.Ns s.heap.objs.size m)
    (hcs : ∀ c, s.heap.objs.size + 1 ≤ c → CellAt (pushCells (s.heap.push { cls := .type "frame", data := .dict #[] }) scope.names) c none → ∃ v, s2.heap.IsCell c v) :
    Inv (gxCx X A s H (gxEnv X scope s.heap.objs.size code) fp) [] (wipe σ (own.map (·.2))) H s2 := by
  have hz : (s.heap.push { cls := .type "frame", data := .dict #[] }).objs.size = s.heap.objs.size + 1 := Heap.size_push ..
  have hfree : ∀ y ∈ scope.names, y.2 = .free → ∃ c, X.env.cells.lookup y.1 = some c := fun y hy e => (ok.blk.free y hy e).elim (fun k => I.ok.has _ (.inl k)) (fun k => I.ok.has _ (.inr k))
  have cm : ∀ {y c}, (y, c) ∈ cloFrom X.env.cells scope.names [] → X.env.cells.lookup y = some c ∧ c < s.heap.objs.size := fun {y c} hm => by
    rcases cloFrom_mem hm with hm | ⟨h1, e⟩
    · cases hm
    · obtain ⟨c1, hc⟩ := hfree _ h1 rfl
      have hc : X.env.cells.lookup y = some c1 := hc
      rw [hc] at e
      have e : c = c1 := e
      subst e
      obtain ⟨w, z⟩ := I.cell _ _ hc
      exact ⟨hc, z.lt⟩
  have hcells : gxCells X scope s.heap.objs.size = cellsFrom (s.heap.push { cls := .type "frame", data := .dict #[] }).objs.size scope.names (cloFrom X.env.cells scope.names []) := by rw [hz]
  have mem : ∀ {y c}, (gxCells X scope s.heap.objs.size).lookup y = some c → (X.env.cells.lookup y = some c ∧ c < s.heap.objs.size) ∨ (s.heap.objs.size + 1 ≤ c ∧ ∃ v, s2.heap.IsCell c v) := fun {y c} e => by
    rw [hcells] at e
    rcases cells_mem (PySem.mem_of_lookup e) with hm | ⟨_, h2, h3⟩
    · exact .inl (cm hm)
    · rw [hz] at h2
      exact .inr ⟨h2, hcs c h2 h3⟩
  have look : ∀ {y}, scope.names.lookup y = some .free → ∃ c, (gxCells X scope s.heap.objs.size).lookup y = some c ∧ X.env.cells.lookup y = some c := fun {y} hl => by
    have hy : (y, NameKind.free) ∈ scope.names := PySem.mem_of_lookup hl
    obtain ⟨c', e'⟩ := mem_lookup (cells_acc (names := scope.names) (n := (s.heap.push { cls := .type "frame", data := .dict #[] }).objs.size) (cloFrom_has (cells := X.env.cells) (acc := []) hy))
    refine ⟨c', by rw [hcells]; exact e', ?_⟩
    rcases cells_mem (PySem.mem_of_lookup e') with hm | ⟨h1, _, _⟩
    · exact (cm hm).1
    · have q := ok.blk.uniq _ h1
      rw [hl] at q; cases q
  have keepC : ∀ {c : Addr} {v : Option Value}, s.heap.IsCell c v → s2.heap.IsCell c v := fun {c v} z => z.keeps kp
  have noex : ∀ b ∈ frs X.stack, b = X.env.locals ∨ b ∈ X.fs := fun b hb => List.mem_cons.mp (I.stkSub b hb)
  refine ⟨⟨I.ok.mod, ok.blk.kind, I.ok.glob, rfl, Nat.le_refl _, fun y z c e1 e2 => ?_, fun y hy => ?_, fun y c z e => ?_, fun _ => hA, Around.frames_deeper hfr, .inr ⟨rfl, rfl⟩, fun b hb => ⟨Nat.ne_of_lt (hfp b hb).2, fun y c e z => ?_⟩, I.bs, Nat.le_trans I.ok.bsz I.sz,
      fun b o e hb => ?_, fun b hb z => ?_, I.stack, I.stkFree⟩,
    hos, hb, Un.kept kp, ⟨m, hns, fun i y av e1 e2 e3 => ?_⟩, fun y c e => ?_, I.hok.fresh (Nat.le_refl _), fun y c e => ?_, fun p hp => absurd (show p ∈ ([] : List (Addr × Obj)) ++ [] from hp) (by simp), I.hok.kept kp, by rw [wipe_length]; exact I.len⟩
  · have e1 : (gxCells X scope s.heap.objs.size).lookup y = some c := e1
    have e2 : (gxCells X scope s.heap.objs.size).lookup z = some c := e2
    rw [hcells] at e1 e2
    refine cells_inj (fun p hp => ?_) (fun y z c a b => I.ok.inj y z c (cm a).1 (cm b).1) (PySem.mem_of_lookup e1) (PySem.mem_of_lookup e2)
    rw [hz]
    exact Nat.lt_succ_of_lt (cm (y := p.1) (c := p.2) hp).2
  · have hy : scope.names.lookup y = some .cell ∨ scope.names.lookup y = some .free := hy
    rcases hy with hy | hy
    · obtain ⟨c, hm⟩ := cells_has (n := (s.heap.push { cls := .type "frame", data := .dict #[] }).objs.size) (acc := cloFrom X.env.cells scope.names []) (PySem.mem_of_lookup hy)
      obtain ⟨c', e'⟩ := mem_lookup hm
      exact ⟨c', by show (gxCells X scope s.heap.objs.size).lookup y = _; rw [hcells]; exact e'⟩
    · obtain ⟨c, h1, _⟩ := look hy
      exact ⟨c, h1⟩
  · have z : (scope.names.lookup y == some NameKind.cell) = true := z
    have z : scope.names.lookup y = some .cell := by simpa using z
    have e : (gxCells X scope s.heap.objs.size).lookup y = some c := e
    rw [hcells] at e
    rcases cells_mem (PySem.mem_of_lookup e) with hm | ⟨_, h2, _⟩
    · rcases cloFrom_mem hm with hm | ⟨h1, _⟩
      · cases hm
      · have q := ok.blk.uniq _ h1
        rw [z] at q; cases q
    · rw [hz] at h2
      exact Nat.le_of_succ_le h2
  · rcases mem (y := y) (c := c) e with ⟨h1, _⟩ | ⟨h1, _⟩
    · exact (hfp b hb).1.2.2.2.2.1 y c h1 z
    · rw [z] at h1
      exact absurd (Nat.lt_of_lt_of_le (hfp b hb).2 (Nat.le_of_succ_le h1)) (Nat.lt_irrefl _)
  · rcases (hfp b hb).1.2.2.2.1 with z | z
    · exact I.ok.noex b o e z
    · exact absurd (Nat.lt_of_lt_of_le (Heap.lt_size e) (Nat.le_trans I.ok.bsz z)) (Nat.lt_irrefl _)
  · rcases noex b z with z | z
    · exact (hfp b hb).1.2.1 z
    · exact (hfp b hb).1.2.2.1 z
  · obtain ⟨e2, hne⟩ := wipe_some e2
    have notOwn : ∀ k, scope.names.lookup y = some k → k = .local ∨ k = .cell → False := fun k hk hh => by
      rcases ok.blk.own _ (PySem.mem_of_lookup hk) hh with e' | e'
      · obtain ⟨q, hq, hqy⟩ := List.mem_map.mp e'
        have e4 := ok.blk.ix q hq
        have hqy : q.1 = y := hqy
        rw [hqy] at e4
        exact hne (List.mem_map.mpr ⟨q, hq, nodup_ix hN e4 e1⟩)
      · exact e' (List.mem_of_getElem? e1)
    have hfree2 : scope.names.lookup y = some .free := by
      have e3 : Vis scope y := e3
      rcases e3 with k | k | k
      · exact (notOwn _ k (.inl rfl)).elim
      · exact (notOwn _ k (.inr rfl)).elim
      · exact k
    obtain ⟨m0, hn0, hl0⟩ := I.loc
    have hv : X.env.scope.names.lookup y = some .cell ∨ X.env.scope.names.lookup y = some .free := ok.blk.free _ (PySem.mem_of_lookup hfree2) rfl
    obtain ⟨w, r, q⟩ := hl0 i y av e1 e2 (hv.elim (fun k => .inr (.inl k)) (fun k => .inr (.inr k)))
    obtain ⟨c, h1, h2⟩ := look hfree2
    refine ⟨w, r, .inr ⟨.inr hfree2, c, h1, ?_⟩⟩
    rcases q with ⟨k, _⟩ | ⟨_, c', e', z⟩
    · have k : X.env.scope.names.lookup y = some .local := k
      rcases hv with k' | k' <;> rw [k'] at k <;> cases k
    · rw [h2] at e'
      cases e'
      exact keepC z
  · rcases mem (y := y) (c := c) e with ⟨h1, _⟩ | ⟨_, z⟩
    · obtain ⟨w, z⟩ := I.cell y c h1
      exact ⟨w, keepC z⟩
    · exact z
  · rcases mem (y := y) (c := c) e with ⟨h1, _⟩ | ⟨h1, _⟩
    · exact I.freeC y c h1
    · exact I.hok.fresh (Nat.le_of_succ_le h1)
/-- back in the frame that made it -/
theorem gx_back {A : Around} {cenv : PySem.Env} {fp : List Addr} {s2 : Shared} {pins2 : List (Addr × Obj)} {σ2 : L2.St} {H2 : Hp} (I : Inv X pins σ H s) (hfp : ∀ b ∈ fp, FpOk X pins H b) (J : Inv (gxCx X A s H cenv fp) pins2 σ2 H2 s2) : Inv X pins σ H2 s2 :=
  I.call' (ch := fp) J.os J.base J.hok J.bare fun b hb => ⟨(hfp b hb).2.2.2.1, (hfp b hb).2.1, (hfp b hb).2.2.2.2.1, (hfp b hb).2.2.2.2.2⟩
/-- the frame of a generator expression is made -/
theorem newEnv_gx {M : Model} {A : Around} {E : Value → Shared → Prop} {scope : Scope} {globals : Addr} {closure : List (Str × Addr)} {qual : Str} {code it : Value} {builtins : Addr} {Q : PySem.Env → Shared → Prop} (hk : scope.kind = .function) (h0 : scope.names.lookup (".0" : Str) = some .local)
    (h : ∀ h' tk m, h'.Ns s.heap.objs.size m → Heap.SameBut s.heap.objs.size (pushCells (s.heap.push { cls := .type "frame", data := .dict #[] }) scope.names) h' → Q (newEnv scope s.heap.objs.size globals (cellsFrom (s.heap.objs.size + 1) scope.names closure) qual none code none builtins) { s with heap := h', toks := tk }) :
    wpAny M A (newFunctionEnv scope globals closure [((".0" : Str), it)] qual none code none builtins) Q E s := by
  simp only [newFunctionEnv, Option.isSome_none, Bool.false_eq_true, if_false]
  refine wpAny_bind (wpAny_alloc ?_)
  refine wpAny_bind (wpAny_layCells _ (fun name kind cells => by cases hkc : kind == NameKind.cell <;> simp [hkc]) scope.names closure _ _ ?_)
  rw [show ({ s with heap := s.heap.push { cls := .type "frame", data := .dict #[] } } : Shared).heap.objs.size = s.heap.objs.size + 1 from Heap.size_push ..]
  have hn : (pushCells (s.heap.push { cls := .type "frame", data := .dict #[] }) scope.names).Ns s.heap.objs.size fun _ => none := Heap.Ns.keeps (Heap.Ns.new ..) fun b o e => pushCells_keeps _ _ _ _ e
  rw [List.forIn_cons]
  refine wpAny_bind ?_
  refine wpAny_bind ?_
  refine wpAny_bind (wpAny_storeName_local (m := fun _ => none) h0 hn (fun h' hn' hs' => ?_) ?_)
  · refine wpAny_pure (wpAny_pure (wpAny_pure ?_))
    exact h h' _ _ hn' hs'
  · show (scope.kind == .class || (scope.kind == .module && _)) = false
    rw [hk]; rfl
end
end Z

set_option Elab.async false
set_option linter.all false
set_option maxRecDepth 100000
set_option maxHeartbeats 1000000
/-! Z13: generator expressions: their turns. -/
namespace Z
open PySem PySem.Spec PyProof.Rows L2
/-- who asks a generator for its items: his object, how it tells what came, what he wishes -/
structure Con where
  S : Addr
  SR : List V → Obj → Prop
  take : List V → V → Hp → Prop
  go : List V → V → Hp → Prop
  done : List V → Hp → Prop
/-- while the generator sleeps -/
structure Slp (C : Con) (ys : List V) (s s' : Shared) : Prop where
  os : s'.os = s.os
  bare : AllBare s'.gens
  keep : ∀ b o, b ≠ C.S → s.heap.get? b = some o → s'.heap.get? b = some o
  own : ∃ o, s'.heap.get? C.S = some o ∧ C.SR ys o
def gxEnd (Y : Cx) (C : Con) (gp : List (Addr × Obj)) : GenEnd := fun n s₀ r s1 => r = .ok .next ∧ ∃ ys o σ H, n + ys.length = line ∧ s₀.heap.get? C.S = some o ∧ C.SR ys o ∧ Inv Y ((C.S, o) :: gp) σ H s1 ∧ C.done ys H
def gxItem (Y : Cx) (C : Con) (gp : List (Addr × Obj)) : Protocol := fun n s₀ v s1 kap => ∃ ys o y σ H, n + 1 + ys.length = line ∧ RelV y v ∧ s₀.heap.get? C.S = some o ∧ C.SR ys o ∧ Inv Y ((C.S, o) :: gp) σ H s1 ∧ C.take ys y H ∧ (C.go ys y H → ∀ s', Slp C (ys ++ [y]) s1 s' → kap (.send .none) s')
theorem inv_wiped {X : Cx} {pins : List (Addr × Obj)} {σ : L2.St} {H : Hp} {s : Shared} (I : Inv X pins σ H s) (vs : List Nat) : Inv X pins (wipe σ vs) H s := by
  obtain ⟨m, hn, hl⟩ := I.loc
  exact ⟨I.ok, I.os, I.bare, I.base, ⟨m, hn, fun i x v e1 e2 e3 => hl i x v e1 (wipe_some e2).1 e3⟩, I.cell, I.free, I.freeC, I.pin, I.hok, by rw [wipe_length]; exact I.len⟩
/-- woken -/
theorem gx_woken {Y : Cx} {C : Con} {gp : List (Addr × Obj)} {σ : L2.St} {H : Hp} {s s' : Shared} {o : Obj} {ys : List V} (hgp : ∀ p ∈ gp, p.1 ≠ C.S) (hpn : Y.pn = []) (hS : Y.s_0.heap.objs.size ≤ C.S ∧ C.S ≠ Y.env.locals ∧ ∀ x c, Y.env.cells.lookup x = some c → c ≠ C.S) (hcl : ∀ ys o, C.SR ys o → ∀ v, o.data ≠ .cell v)
    (I : Inv Y ((C.S, o) :: gp) σ H s) (z : Slp C ys s s') : ∃ o', s'.heap.get? C.S = some o' ∧ C.SR ys o' ∧ Inv Y ((C.S, o') :: gp) σ H s' := by
  obtain ⟨e0, n0, nL, nF, _⟩ := I.pin (C.S, o) (List.mem_append_right _ List.mem_cons_self)
  have I0 : Inv Y gp σ H s := I.pins_of fun p hp => I.pin p (List.mem_append_right _ (List.mem_cons_of_mem _ hp))
  obtain ⟨z1, z2, z3, o', z4, z5⟩ := z
  obtain ⟨hh, g, d, t, os'⟩ := s'
  have ho : os' = s.os := z1
  subst ho
  have nc : ∀ b, b ∉ [C.S] → b ≠ C.S := fun b hb e => hb (by rw [e]; exact List.mem_singleton.mpr rfl)
  have nt : ∀ b u, H b = some u → b ≠ C.S := fun b u q hb => by rw [hb, n0] at q; cases q
  have J : Inv Y gp σ H { s with heap := hh, gens := g, drawn := d, toks := t } := by
    refine I0.step (g' := g) (t' := t) (d' := d) (ch := [C.S]) (fun b hb => ?_)
      (fun b ob _ _ hc q _ => z3 b ob (nc b hc) q) (fun b ob _ _ hc q _ => ⟨ob.slots, z3 b ob (nc b hc) q⟩) (fun _ _ _ _ n => n) (fun b ob hc q => ⟨ob, z3 b ob (nc b hc) q⟩)
      (fun _ _ q => q) (fun _ _ _ q => q) (fun b ps q => ⟨#[], by rw [q]; simp⟩) (fun m hm => ?_) (fun b u q => ?_) z2
    · rw [List.mem_singleton.mp hb]
      refine ⟨.inr hS.1, hS.2.1, hS.2.2, fun p hp => ?_⟩
      rw [hpn] at hp
      exact hgp p hp
    · obtain ⟨ob, es, ep, ho, r⟩ := hm
      exact ⟨ob, es, ep, z3 _ ob (Ne.symm nL) ho, r⟩
    · refine (I0.hok b u q).stay (fun c v hc y => z3 c v ?_ y) (fun _ y => y) fun _ _ y => y
      rcases hc with y | y
      · rw [y]; exact nt b u q
      · exact nt c _ y
  refine ⟨o', z4, z5, J.pins_of fun p hp => ?_⟩
  rcases List.mem_cons.mp hp with hp | hp
  · rw [hp]
    exact ⟨z4, n0, nL, nF, hcl ys o' z5⟩
  · exact J.pin p (List.mem_append_right _ hp)
/-- the turns' wish -/
def GxTurns (J : It) (g : TG) (tt : TT) (te : TE) (vs : List Nat) (σ : L2.St) (C : Con) (Wn : Nat → Nat → List V → Hp → Prop) : Prop := ∀ i m ys H, Wn i m ys H →
  (J.stop i H ∧ C.done ys H) ∨ (J.go i H ∧ ∃ Nx : List V → Hp → Prop, (∀ ys' H', Nx ys' H' → ∃ m', m' < m ∧ Wn (i + 1) m' ys' H') ∧ ∀ x H', J.yld i H x H' → g x (wipe σ vs) H' fun σ2 H2 => wipe σ2 vs = wipe σ vs ∧ tt σ2 H2 fun b H3 =>
    if b = true then te σ2 H3 fun y H4 => ys.length < line ∧ C.take ys y H4 ∧ (C.go ys y H4 → Nx (ys ++ [y]) H4) else Nx ys H3)
theorem seg_gx {Y : Cx} {C : Con} {gp : List (Addr × Obj)} {A : Around} {cenv : PySem.Env} {tg elt iter : Expr} {ifs : List Expr} {scope : Scope} {pos : Pos} {it : Addr} {fp : List Addr} {tn : Nat → Heap → Prop} {J : It} {g : TG} {tt : TT} {te : TE} {vs : List Nat} {σ : L2.St} {Wn : Nat → Nat → List V → Hp → Prop}
    (hA : Y.A = A.deeper cenv) (hE : Y.env = cenv) (hx : Y.xe = fun _ _ => False) (hc : Y.calm = true) (hpn : Y.pn = []) (hco : cenv.scope.isCoroutine = false) (T : Turn Y.prog Y.w Y.K tg J fp it tn) (hg : PG Y tg g) (ht : PTs Y ifs tt) (he : PE Y elt te)
    (hgp : ∀ p ∈ gp, p.1 ≠ C.S) (hS : Y.s_0.heap.objs.size ≤ C.S ∧ C.S ≠ Y.env.locals ∧ ∀ x c, Y.env.cells.lookup x = some c → c ≠ C.S) (hcl : ∀ ys o, C.SR ys o → ∀ v, o.data ≠ .cell v)
    (hfp : ∀ b ∈ fp, (b ∈ Y.ex ∨ Y.s_0.heap.objs.size ≤ b) ∧ b ≠ Y.env.locals ∧ b ∉ Y.fs ∧ (∀ x c, Y.env.cells.lookup x = some c → c ≠ b) ∧ b ≠ C.S ∧ ∀ p ∈ gp, p.1 ≠ b)
    (turn : GxTurns J g tt te vs σ C Wn) :
    ∀ (m n i : Nat) (ys : List V) (s₀ s : Shared) (H : Hp) (o : Obj), n + ys.length = line → s₀.heap.get? C.S = some o → Wn i m ys H → C.SR ys o → Inv Y ((C.S, o) :: gp) (wipe σ vs) H s → tn i s.heap → (∀ b ∈ fp, H b = none) →
      Seg (model Y.prog Y.w) A (gxEnd Y C gp) (gxItem Y C gp) n s₀ (.compLoop (.GeneratorExp elt [⟨tg, iter, ifs, 0⟩] scope pos) 0 (.ref it) .none cenv) ((model Y.prog Y.w).den (.compLoop (.GeneratorExp elt [⟨tg, iter, ifs, 0⟩] scope pos) 0 (.ref it) .none cenv)) [] s := by
  have hov : A.over (.compLoop (.GeneratorExp elt [⟨tg, iter, ifs, 0⟩] scope pos) 0 (.ref it) .none cenv) [] = Y.A := by rw [hA]; rfl
  have noE : ∀ {P : Prop} (x : Value) (s' : Shared), Y.xe x s' → P := fun x s' z => by rw [hx] at z; exact z.elim
  have stat : ∀ {o : Obj} {H : Hp}, (∀ b ∈ fp, H b = none) → ∀ b ∈ fp, FpOk Y ((C.S, o) :: gp) H b := fun {o H} fr b hb => by
    obtain ⟨h1, h2, h3, h4, h5, h6⟩ := hfp b hb
    refine ⟨fr b hb, h2, h3, h1, h4, fun p hp => ?_⟩
    rw [hpn] at hp
    rcases List.mem_cons.mp hp with e | e
    · rw [e]; exact Ne.symm h5
    · exact h6 p e
  intro m
  induction m using Nat.strongRecOn with
  | ind m ih =>
    intro n i ys s₀ s H o hn hs0 w hSR I st fr
    show Seg _ A _ _ _ s₀ _ ((compTurn (.GeneratorExp elt [⟨tg, iter, ifs, 0⟩] scope pos) 0 (.ref it) .none cenv).onRaise (leaving cenv)) [] s
    rw [compTurn_gen, Sem.onRaise_eq_wrap]
    refine seg_bind_wrap (wpAny_standAt ?_)
    rcases turn i m ys H w with ⟨stop, qd⟩ | ⟨go, Nx, hN, step⟩
    · refine seg_bind_wrap ?_
      rw [hov]
      refine wpAny_mono (T.done Y rfl rfl rfl hc i _ s _ H (fun _ _ => False) I (stat fr) st stop) (fun r s4 hr => ?_) fun _ _ z => z.elim
      obtain ⟨hr, I4⟩ := hr
      subst hr
      exact seg_end (.ok .next) ⟨rfl, ys, o, _, H, hn, hs0, hSR, I4, qd⟩
    · refine seg_bind_wrap ?_
      rw [hov]
      refine wpAny_mono (T.item Y rfl rfl rfl hc i _ s _ H (fun _ _ => False) I (stat fr) st go) (fun r s4 hr => ?_) fun _ _ z => z.elim
      obtain ⟨u, hr, h4⟩ := hr
      subst hr
      refine seg_bind_wrap ?_
      rw [hov]
      refine wpAny_mono h4 (fun _ s5 h5 => ?_) fun _ _ z => z.elim
      obtain ⟨x, H5, I5, r5, y5, st5, fr5⟩ := h5
      have I5' := I5.pinned (stat fr5) (T.obj _ _ st5)
      refine seg_bind_wrap ?_
      rw [hov, ← hE]
      refine wpAny_mono (hg.run _ s5 _ H5 x u _ I5' r5 (step x H5 y5)) (fun _ s6 h6 => ?_) fun x s z => noE x s z
      obtain ⟨σ6, H6, I6, hw, q6⟩ := h6
      refine seg_bind_wrap ?_
      rw [hE, hov, ← hE]
      refine wpAny_mono (ht.run _ s6 σ6 H6 _ I6 q6) (fun ok s7 h7 => ?_) fun x s z => noE x s z
      obtain ⟨H7, I7, q7⟩ := h7
      have fin : ∀ {s8 : Shared} {H8 : Hp}, Inv Y (((C.S, o) :: gp) ++ pinsAt fp s5.heap) σ6 H8 s8 → Inv Y ((C.S, o) :: gp) (wipe σ vs) H8 s8 ∧ tn (i + 1) s8.heap ∧ ∀ b ∈ fp, H8 b = none := fun {s8 H8} I8 => by
        refine ⟨hw ▸ inv_wiped I8.unpinned vs, T.keep _ _ _ st5 fun b hb o e => (I8.pin (b, o) (List.mem_append_right _ (List.mem_append_right _ (mem_pinsAt hb e)))).1, fun b hb => ?_⟩
        obtain ⟨o, e, d⟩ := T.obj _ _ st5 b hb
        exact (I8.pin (b, o) (List.mem_append_right _ (List.mem_append_right _ (mem_pinsAt hb e)))).2.1
      cases ok with
      | false =>
        rw [if_neg Bool.false_ne_true] at q7
        obtain ⟨m', hm, w'⟩ := hN _ _ q7
        obtain ⟨J7, t7, f7⟩ := fin I7
        simp only [Bool.false_eq_true, if_false]
        rw [hE]
        exact seg_again rfl (ih m' hm n (i + 1) ys s₀ s7 H7 o hn hs0 w' hSR J7 t7 f7)
      | true =>
        rw [if_pos rfl] at q7
        simp only [if_true]
        have hy : ∀ v, yieldOut Y.env v = yieldValue v := fun v => by rw [hE]; simp only [yieldOut, hco, Bool.false_eq_true, if_false]
        simp only [hy]
        rw [Sem.bind_eq_wrap', Sem.bind_eq_wrap', Sem.wrap_wrap, Sem.wrap_wrap]
        refine seg_wrap ?_
        rw [hE, hov, ← hE]
        refine wpAny_mono (he.run _ s7 σ6 H7 _ I7 q7) (fun v s8 h8 => ?_) fun x s z => noE x s z
        obtain ⟨y, H8, I8, rv, hl, htk, hgo⟩ := h8
        obtain ⟨J8, t8, f8⟩ := fin I8
        cases n with
        | zero => omega
        | succ n =>
          refine seg_at (seg_yield rfl rfl rfl ⟨ys, o, y, _, H8, by show n + 1 - 1 + 1 + ys.length = line; omega, rv, hs0, hSR, J8, htk, fun hgo' s' z => ?_⟩)
          obtain ⟨o', hs0', hSR', J9⟩ := gx_woken hgp hpn hS hcl J8 z
          obtain ⟨m', hm, w'⟩ := hN _ _ (hgo hgo')
          rw [hE]
          exact seg_again rfl (ih m' hm n (i + 1) (ys ++ [y]) s' s' H8 o' (by rw [List.length_append, List.length_singleton]; omega) hs0' w' hSR' J9 (T.keep _ _ _ t8 fun b hb o e => z.keep b o (hfp b hb).2.2.2.2.1 e) f8)
end Z

set_option Elab.async false
set_option linter.all false
set_option maxRecDepth 100000
set_option maxHeartbeats 2000000
/-! Z14: generator expressions: made, woken. -/
namespace Z
open PySem PySem.Spec PyProof.Rows L2
section
variable {M : Model} {A : Around} {E : Value → Shared → Prop} {s : Shared}
theorem gx_eval {env : PySem.Env} {elt target iter : Expr} {ifs : List Expr} {scope : Scope} {cl : List (Str × Addr)} {pos : Pos} {Q : Value → Shared → Prop}
    (hco : scope.isCoroutine = false) (hclos : closureFor scope env = pure cl) (h0 : scope.names.lookup (".0" : Str) = some NameKind.local) (hkind : scope.kind = .function) (hroom : A.depth < recursionLimit)
    (h : wpAny M A (eval iter env) (fun xv s₁ => wpAny M A (pyIter xv) (fun it s₂ => s₂.heap.NoLimit ∧
      wpAny M A (genexprCode env pos (env.qual ++ "<genexpr>") scope) (fun code s₃ => wpAny M A (builtinsFor env.globals env.builtins) (fun bi s₄ =>
        ∀ h' tk m (go : Obj) (nm qn : Value), h'.Ns s₄.heap.objs.size m → Heap.SameBut s₄.heap.objs.size (pushCells (s₄.heap.push { cls := .type "frame", data := .dict #[] }) scope.names) h' →
          go.cls = .type "generator" → go.data = .fields #[.int s₄.gens.size 0, nm, qn] → go.slots = #[] → (∀ h : Heap, (h.push go).get? h.objs.size = some go) →
          Q (.ref h'.objs.size) { s₄ with
            gens := s₄.gens.push (.fresh (.compStart (.GeneratorExp elt [⟨target, iter, ifs, 0⟩] scope pos) 0 it .none (newEnv scope s₄.heap.objs.size env.globals (cellsFrom (s₄.heap.objs.size + 1) scope.names cl) (env.qual ++ "<genexpr>.") none code none bi))),
            toks := tk, heap := h'.push go }) E s₃) E s₂) E s₁) E s)
    (hs : ∀ x, genFold iter env x = pure x) : wpAny M A (eval (.GeneratorExp elt [⟨target, iter, ifs, 0⟩] scope pos) env) Q E s := by
  rw [eval_GeneratorExp1 _ _ _ _ _ _ _ hco, hclos]
  refine wpAny_bind (wpAny_mono h (fun xv s₁ h₁ => ?_) fun _ _ e => e)
  refine wpAny_bind (wpAny_standAt ?_)
  refine wpAny_bind (wpAny_of_eq (hs xv) ?_)
  refine wpAny_bind (wpAny_holding (wpAny_mono h₁ (fun it s₂ h₂ => ?_) fun _ _ e => e))
  refine wpAny_bind (wpAny_enterFrame h₂.1 hroom ?_)
  refine wpAny_bind (wpAny_pure ?_)
  refine wpAny_bind (wpAny_mono h₂.2 (fun code s₃ h₃ => ?_) fun _ _ e => e)
  refine wpAny_bind (wpAny_mono h₃ (fun bi s₄ h₄ => ?_) fun _ _ e => e)
  refine wpAny_bind (newEnv_gx hkind h0 fun h' tk m hn hsb => ?_)
  simp only [newGenerator, newFields]
  refine wpAny_bind (wpAny_newGen (wpAny_bind (wpAny_mkText (wpAny_bind (wpAny_mkText (wpAny_newObj_type ?_ (by size_fits)))))))
  exact h₄ h' _ m _ _ _ hn hsb rfl rfl rfl fun h => Heap.get?_push_size _ rfl
end
def xEnd (X : Cx) (pins : List (Addr × Obj)) (σ : L2.St) (C : Con) (gp : List (Addr × Obj)) : GenEnd := fun n s₀ r s1 => r = .ok .next ∧ ∃ ys o H, n + ys.length = line ∧ s₀.heap.get? C.S = some o ∧ C.SR ys o ∧ s1.heap.get? C.S = some o ∧ H C.S = none ∧ Inv X pins σ H s1 ∧ (∀ p ∈ gp, s1.heap.get? p.1 = some p.2) ∧ C.done ys H
def xItem (X : Cx) (pins : List (Addr × Obj)) (σ : L2.St) (C : Con) (gp : List (Addr × Obj)) : Protocol := fun n s₀ v s1 kap => ∃ ys o y H, n + 1 + ys.length = line ∧ RelV y v ∧ s₀.heap.get? C.S = some o ∧ C.SR ys o ∧ s1.heap.get? C.S = some o ∧ H C.S = none ∧ Inv X pins σ H s1 ∧ (∀ p ∈ gp, s1.heap.get? p.1 = some p.2) ∧ C.take ys y H ∧
  (C.go ys y H → ∀ s', Slp C (ys ++ [y]) s1 s' → kap (.send .none) s')
/-- a generator that has not begun; ready: how it runs when it is asked by C -/
def GxMade (X : Cx) (pins : List (Addr × Obj)) (σ : L2.St) (k : Nat) (R : Hp → Con → Prop) (u : Value) (s' : Shared) : Prop :=
  ∃ (a : Addr) (g : Nat) (go : Obj) (c : Code) (H1 : Hp), u = .ref a ∧ s'.heap.get? a = some go ∧ (∀ h : Heap, h.get? a = some go → h.IsGen a g) ∧ (∀ v, go.data ≠ .cell v) ∧ s'.gens[g]? = some (.fresh c) ∧ Inv X pins σ H1 s' ∧ H1 a = none ∧ a < s'.heap.objs.size ∧
    ∀ (A : Around) (C : Con) (gp : List (Addr × Obj)) (s2 : Shared), Room k A → A.frames = some X.stack → (C.S = a ∧ gp = []) ∨ (s'.heap.objs.size ≤ C.S ∧ gp = [(a, go)]) → (∀ ys o, C.SR ys o → ∀ v, o.data ≠ .cell v) → (∀ b o, b ≠ C.S → s'.heap.get? b = some o → s2.heap.get? b = some o) →
      (∃ o, s2.heap.get? C.S = some o ∧ C.SR [] o) → s2.os = s'.os → AllBare s2.gens → R H1 C → Seg (model X.prog X.w) A (xEnd X pins σ C gp) (xItem X pins σ C gp) line s2 c ((model X.prog X.w).den c) [] s2
theorem gx_make {X : Cx} {pins : List (Addr × Obj)} {σ : L2.St} {H : Hp} {s : Shared} {c P : Addr} {tg elt iter : Expr} {ifs : List Expr} {scope : Scope} {own : List (Str × Nat)} {gpos : Pos} {wi : TI} {g : TG} {tt : TT} {te : TE} {k : Nat} {R : Hp → Con → Prop} {Q' : Value → Shared → Prop}
    (hd : X.A.depth < recursionLimit) (hc : X.calm = true) (hN : X.N.Nodup) (TB : GxR.TabB X.base X.mg c P) (hcode : X.env.code = .ref c) (ok : GxOk X.N X.env.scope scope own) (hi : PI X tg iter wi)
    (hg : ∀ (A : Around) (s : Shared) (H : Hp) (L : Addr) (cd : Value) (fp : List Addr), Room k (A.deeper (gxEnv X scope L cd)) → PG (gxCx X A s H (gxEnv X scope L cd) fp) tg g)
    (ht : ∀ (A : Around) (s : Shared) (H : Hp) (L : Addr) (cd : Value) (fp : List Addr), Room k (A.deeper (gxEnv X scope L cd)) → PTs (gxCx X A s H (gxEnv X scope L cd) fp) ifs tt)
    (he : ∀ (A : Around) (s : Shared) (H : Hp) (L : Addr) (cd : Value) (fp : List Addr), Room k (A.deeper (gxEnv X scope L cd)) → PE (gxCx X A s H (gxEnv X scope L cd) fp) elt te)
    (hs : ∀ v, genFold iter X.env v = pure v) (I : Inv X pins σ H s)
    (h : wi σ H fun J H1 => GxR.TabG H1 P ∧ ∀ H2 C, GxR.Tabbed P H1 H2 → R H2 C → ∃ Wn m, GxTurns J g tt te (own.map (·.2)) σ C Wn ∧ Wn 0 m [] H2)
    (hQ : ∀ u s', GxMade X pins σ (k + 1) R u s' → Q' u s') :
    wpAny (model X.prog X.w) X.A (eval (.GeneratorExp elt [⟨tg, iter, ifs, 0⟩] scope gpos) X.env) Q' X.xe s := by
  have hfree : ∀ y ∈ scope.names, y.2 = .free → ∃ c, X.env.cells.lookup y.1 = some c := fun y hy e => (ok.blk.free y hy e).elim (fun k => I.ok.has _ (.inl k)) (fun k => I.ok.has _ (.inr k))
  refine gx_eval ok.co (closure_ok hfree) ok.dot ok.blk.kind hd ?_ hs
  refine thn (hi.run pins s σ H _ I h) fun xv s1 h1 => thn h1 fun itv s2 h2 => ?_
  obtain ⟨it, fp, tn, J, H2, e, I2, T, st2, f2, ⟨ps, hP, htr⟩, hR⟩ := h2
  subst e
  refine ⟨I2.nolimit, ?_⟩
  have hPs : s2.heap.get? P = some { cls := .none, data := .fields ps } := I2.hok P _ hP
  have cd : PySem.W.CodeHd s2.heap c P := TB.code.keeps fun b u e => I2.bk b u e
  have fpP : ∀ b ∈ fp, b ≠ P := fun b hb z => by
    have q := (f2 b hb).1
    rw [z, hP] at q
    cases q
  -- behind the making of the code object
  have cont : ∀ (code : Value) (h3 : Heap) (tk : Nat) (more : Array Value), Heap.ExtBut P s2.heap h3 → h3.get? P = some { cls := .none, data := .fields (ps ++ more) } → TriplesOk (ps ++ more).toList →
      wpAny (model X.prog X.w) X.A (builtinsFor X.env.globals X.env.builtins) (fun bi s₄ =>
        ∀ h' tk m (go : Obj) (nm qn : Value), h'.Ns s₄.heap.objs.size m → Heap.SameBut s₄.heap.objs.size (pushCells (s₄.heap.push { cls := .type "frame", data := .dict #[] }) scope.names) h' →
          go.cls = .type "generator" → go.data = .fields #[.int s₄.gens.size 0, nm, qn] → go.slots = #[] → (∀ h : Heap, (h.push go).get? h.objs.size = some go) →
          Q' (.ref h'.objs.size) { s₄ with
            gens := s₄.gens.push (.fresh (.compStart (.GeneratorExp elt [⟨tg, iter, ifs, 0⟩] scope gpos) 0 (.ref it) .none (newEnv scope s₄.heap.objs.size X.env.globals (cellsFrom (s₄.heap.objs.size + 1) scope.names (cloFrom X.env.cells scope.names [])) (X.env.qual ++ "<genexpr>.") none code none bi))),
            toks := tk, heap := h'.push go }) X.xe { s2 with heap := h3, toks := tk } := by
    intro code h3 tk more hx hP3 ht3
    have I3 : Inv X pins σ (upd H2 P (.tbl (ps ++ more))) { s2 with heap := h3, gens := s2.gens, drawn := s2.drawn, toks := tk } := GxR.inv_tab I2 hP hx hP3 I2.bare
    have TG3 : GxR.Tabbed P H2 (upd H2 P (.tbl (ps ++ more))) := ⟨⟨_, upd_same, ht3⟩, fun b hb => upd_ne hb⟩
    have f3 : ∀ b ∈ fp, FpOk X pins (upd H2 P (.tbl (ps ++ more))) b := fun b hb => by
      obtain ⟨q1, q⟩ := f2 b hb
      exact ⟨by rw [upd_ne (fpP b hb)]; exact q1, q⟩
    have st3 : tn 0 h3 := T.keep _ _ _ st2 fun b hb o e => hx b o (fpP b hb) e
    obtain ⟨bm, ob, e1, e2, e3, e4, e5, e6, e7, e8⟩ := TB.bm
    refine wpAny_builtinsFor (m := X.mg) (by rw [I3.ok.glob]; exact I3.mod.glob.keeps I3.bk) e1 e2 (I3.bk _ _ e5) e6 e7 e8 ?_
    generalize hs3 : ({ s2 with heap := h3, toks := tk } : Shared) = s3 at *
    have st3 : tn 0 s3.heap := by rw [← hs3]; exact st3
    generalize hH3 : upd H2 P (.tbl (ps ++ more)) = H3 at *
    intro h' tk m go nm qn hns hsb hgc hgd hgs hgp
    have hsz5 : s3.heap.objs.size + 1 ≤ (pushCells (s3.heap.push { cls := .type "frame", data := .dict #[] }) scope.names).objs.size := by
      have q := pushCells_size scope.names (s3.heap.push { cls := .type "frame", data := .dict #[] })
      rw [Heap.size_push] at q
      exact q
    have hsz : s3.heap.objs.size < h'.objs.size := by rw [hsb.1]; exact hsz5
    have k5 : ∀ b o, b ≠ s3.heap.objs.size → (pushCells (s3.heap.push { cls := .type "frame", data := .dict #[] }) scope.names).get? b = some o → h'.get? b = some o := fun b o hb e => (hsb.2 b hb).trans e
    have kp : ∀ b o, s3.heap.get? b = some o → h'.get? b = some o := fun b o e => k5 b o (Nat.ne_of_lt (Heap.lt_size e)) (pushCells_keeps _ _ _ _ (Heap.get?_push_of_some _ e))
    have hgo : (h'.push go).get? h'.objs.size = some go := hgp h'
    have kp2 : ∀ b o, s3.heap.get? b = some o → (h'.push go).get? b = some o := fun b o e => Heap.get?_push_of_some _ (kp b o e)
    have hgcell : ∀ v, go.data ≠ .cell v := fun v q => by rw [hgd] at q; cases q
    have I6 : Inv X pins σ H3 { s3 with gens := s3.gens.push (.fresh (.compStart (.GeneratorExp elt [⟨tg, iter, ifs, 0⟩] scope gpos) 0 (.ref it) .none (newEnv scope s3.heap.objs.size X.env.globals (cellsFrom (s3.heap.objs.size + 1) scope.names (cloFrom X.env.cells scope.names [])) (X.env.qual ++ "<genexpr>.") none code none builtinsNs))), toks := tk, heap := h'.push go } :=
      I3.call' (ch := []) rfl (Un.kept kp2) (I3.hok.kept kp2) (AllBare.push I3.bare rfl) fun b z => by simp at z
    have hfp : ∀ b ∈ fp, FpOk X pins H3 b ∧ b < s3.heap.objs.size := fun b hb => by
      obtain ⟨o, e, _⟩ := T.obj _ _ st3 b hb
      exact ⟨f3 b hb, Heap.lt_size e⟩
    refine hQ _ _ ⟨h'.objs.size, s3.gens.size, go, _, H3, rfl, hgo, fun h e => ⟨go, nm, qn, e, hgc, hgd, hgs⟩, hgcell, Array.getElem?_push_size .., I6, I3.hok.fresh (Nat.le_of_lt hsz), by show _ < (h'.push go).objs.size; rw [Heap.size_push]; exact Nat.lt_succ_self _, ?_⟩
    intro A C gp s6 hr hfr hS hcl hk6 hSo hos hba hRC
    obtain ⟨Wn, m0, hturn, hW0⟩ := hR H3 C TG3 hRC
    obtain ⟨oS, eS, rS⟩ := hSo
    have hCS : h'.objs.size ≤ C.S := by
      rcases hS with ⟨e, _⟩ | ⟨e, _⟩
      · rw [e]; exact Nat.le_refl _
      · have e : (h'.push go).objs.size ≤ C.S := e
        rw [Heap.size_push] at e
        exact Nat.le_of_succ_le e
    have hne : ∀ b : Addr, b < h'.objs.size → b ≠ C.S := fun b hb => Nat.ne_of_lt (Nat.lt_of_lt_of_le hb hCS)
    have k6 : ∀ b o, h'.get? b = some o → s6.heap.get? b = some o := fun b o e => hk6 b o (hne b (Heap.lt_size e)) (Heap.get?_push_of_some _ e)
    have J0 : Inv (gxCx X A s3 H3 (gxEnv X scope s3.heap.objs.size code) fp) [] (wipe σ (own.map (·.2))) H3 s6 := by
      refine gx_start (m := m) I3 ok hN hfp hr.hd hfr hos hba (fun b o e => k6 b o (kp b o e)) (hns.keeps k6) fun c hc hcc => ?_
      obtain ⟨o, ho, hd⟩ := hcc
      exact ⟨_, o, k6 _ _ (k5 _ _ (Nat.ne_of_gt hc) ho), hd⟩
    have hgp' : ∀ p ∈ gp, p = (h'.objs.size, go) ∧ p.1 ≠ C.S := fun p hp => by
      rcases hS with ⟨_, e⟩ | ⟨e1, e⟩
      · rw [e] at hp; cases hp
      · rw [e] at hp
        have e2 := List.mem_singleton.mp hp
        refine ⟨e2, ?_⟩
        rw [e2]
        have e1 : (h'.push go).objs.size ≤ C.S := e1
        rw [Heap.size_push] at e1
        exact Nat.ne_of_lt e1
    have young : ∀ b, h'.objs.size ≤ b → H3 b = none ∧ b ≠ s3.heap.objs.size ∧ b ∉ frs X.stack := fun b hb => ⟨I3.hok.fresh (Nat.le_trans (Nat.le_of_lt hsz) hb), Nat.ne_of_gt (Nat.lt_of_lt_of_le hsz hb), fun z => by
      rcases List.mem_cons.mp (I3.stkSub b z) with q | q
      · have h1 := I3.lt
        rw [← q] at h1
        exact absurd (Nat.lt_of_lt_of_le (Nat.lt_of_lt_of_le h1 (Nat.le_of_lt hsz)) hb) (Nat.lt_irrefl _)
      · exact I3.nofs (Nat.le_trans (Nat.le_of_lt hsz) hb) q⟩
    have J : Inv (gxCx X A s3 H3 (gxEnv X scope s3.heap.objs.size code) fp) ((C.S, oS) :: gp) (wipe σ (own.map (·.2))) H3 s6 := by
      refine J0.pins_of fun p hp => ?_
      rcases List.mem_cons.mp hp with e | e
      · subst e
        obtain ⟨y1, y2, y3⟩ := young C.S hCS
        exact ⟨eS, y1, y2, y3, hcl _ _ rS⟩
      · obtain ⟨e1, e2⟩ := hgp' p e
        rw [e1] at e2 ⊢
        obtain ⟨y1, y2, y3⟩ := young h'.objs.size (Nat.le_refl _)
        exact ⟨hk6 _ _ e2 hgo, y1, y2, y3, hgcell⟩
    have hS3 : s3.heap.objs.size ≤ C.S ∧ C.S ≠ s3.heap.objs.size ∧ ∀ x c, (gxCells X scope s3.heap.objs.size).lookup x = some c → c ≠ C.S := by
      refine ⟨Nat.le_trans (Nat.le_of_lt hsz) hCS, Nat.ne_of_gt (Nat.lt_of_lt_of_le hsz hCS), fun x c e z => ?_⟩
      obtain ⟨v, o, ho, hd⟩ := J0.cell x c e
      rw [z, eS] at ho
      cases ho
      exact hcl _ _ rS _ hd
    have loop := seg_gx (Y := gxCx X A s3 H3 (gxEnv X scope s3.heap.objs.size code) fp) (C := C) (gp := gp) (A := A) (cenv := gxEnv X scope s3.heap.objs.size code) (elt := elt) (iter := iter) (ifs := ifs) (scope := scope) (pos := gpos) (it := it) (σ := σ) (vs := own.map (·.2)) (Wn := Wn) rfl rfl rfl hc rfl ok.co T
      (hg A s3 H3 _ code fp (hr.deeper _)) (ht A s3 H3 _ code fp (hr.deeper _)) (he A s3 H3 _ code fp (hr.deeper _)) (fun p hp => (hgp' p hp).2) hS3 hcl
      (fun b hb => ⟨.inl hb, (J0.ok.exf b hb).1, J0.ok.exfs b hb, (J0.ok.exf b hb).2, hne b (Nat.lt_trans (hfp b hb).2 hsz), fun p hp => by
        rw [(hgp' p hp).1]
        exact Nat.ne_of_gt (Nat.lt_trans (hfp b hb).2 hsz)⟩) hturn m0 line 0 [] s6 s6 H3 oS (Nat.add_zero _) eS hW0 rS J (T.keep _ _ _ st3 fun b hb o e => k6 b o (kp b o e)) (fun b hb => (hfp b hb).1.1)
    refine seg_imp (R := gxEnd (gxCx X A s3 H3 (gxEnv X scope s3.heap.objs.size code) fp) C gp) (Y := gxItem (gxCx X A s3 H3 (gxEnv X scope s3.heap.objs.size code) fp) C gp) (fun n s₀ r s1' hE => ?_) (fun n s₀ v s1' kap kap' hkk hY => ?_) line ?_
    · obtain ⟨hr1, ys, o, σ', H', hn, hs0, hSR, J', hd⟩ := hE
      obtain ⟨q1, q2, _⟩ := J'.pin (C.S, o) (List.mem_append_right _ List.mem_cons_self)
      refine ⟨hr1, ys, o, H', hn, hs0, hSR, q1, q2, (gx_back I3 (fun b hb => (hfp b hb).1) J').call' (ch := []) rfl (Un.kept fun _ _ e => e) J'.hok J'.bare (fun b z => by simp at z), fun p hp => (J'.pin p (List.mem_append_right _ (List.mem_cons_of_mem _ hp))).1, hd⟩
    · obtain ⟨ys, o, y, σ', H', hn, rv, hs0, hSR, J', htk, hgo'⟩ := hY
      obtain ⟨q1, q2, _⟩ := J'.pin (C.S, o) (List.mem_append_right _ List.mem_cons_self)
      exact ⟨ys, o, y, H', hn, rv, hs0, hSR, q1, q2, gx_back I3 (fun b hb => (hfp b hb).1) J', fun p hp => (J'.pin p (List.mem_append_right _ (List.mem_cons_of_mem _ hp))).1, htk, fun hg s' z => hkk _ _ (hgo' hg s' z)⟩
    · have hov : A.over (.compStart (.GeneratorExp elt [⟨tg, iter, ifs, 0⟩] scope gpos) 0 (.ref it) .none (gxEnv X scope s3.heap.objs.size code)) [] = A.deeper (gxEnv X scope s3.heap.objs.size code) := rfl
      show Seg _ A _ _ _ s6 _ ((compStart (.GeneratorExp elt [⟨tg, iter, ifs, 0⟩] scope gpos) 0 (.ref it) .none (gxEnv X scope s3.heap.objs.size code)).onRaise (leaving (gxEnv X scope s3.heap.objs.size code))) [] s6
      unfold compStart
      rw [Sem.onRaise_eq_wrap]
      show Seg _ A _ _ _ s6 _ ((ask >>= _).wrap _ _ _ _) [] s6
      refine seg_bind_wrap (wpAny_askSetting ?_)
      have st6 : tn 0 s6.heap := T.keep _ _ _ st3 fun b hb o e => k6 b o (kp b o e)
      split
      · exact seg_again rfl loop
      · first
          | exact seg_bind_wrap (wpAny_rule (seg_bind_wrap (wpAny_standAt (seg_bind_wrap (T.self _ 0 s6 _ _ st6 (seg_again rfl loop))))))
          | (refine seg_bind_wrap (wpAny_rule ?_); show Seg _ A _ _ _ s6 _ ((standAt iter.pos >>= _).wrap _ _ _ _) [] s6; exact seg_bind_wrap (wpAny_standAt (seg_bind_wrap (T.self _ 0 s6 _ _ st6 (seg_again rfl loop)))))
  cases hf : codeAmong gpos ps.toList with
  | none =>
    refine wpAny_genexprCodeX hcode (cd.code hPs htr) (cd.tab hPs) hf fun c' h3 tk hx hge hlt hco' _ htab' _ => ?_
    obtain ⟨o1, vs, f1, tf, fl, tg', inF, tx, tt', op, _, _, _, _, _, _, _, _, _, htr', _⟩ := hco'
    exact cont _ h3 tk _ hx htab'.2 htr'
  | some cv =>
    refine wpAny_genexprCode_hit hcode (cd.code hPs htr) hf ?_
    exact cont cv s2.heap s2.toks #[] (Heap.ExtBut.refl _ _) (by rw [Array.append_empty]; exact hPs) (by rw [Array.append_empty]; exact htr)
end Z

set_option Elab.async false
set_option linter.all false
set_option maxRecDepth 100000
set_option maxHeartbeats 2000000
/-! Z15: who asks generator expressions. -/
namespace Z
open PySem PySem.Spec PyProof.Rows L2 GenW
def xF (X : Cx) (pins : List (Addr × Obj)) (σ : L2.St) (C : Con) (gp : List (Addr × Obj)) : Nat → Shared → Shared → Prop := fun n s₀ s1 => ∃ ys o H, n + ys.length = line ∧ s₀.heap.get? C.S = some o ∧ C.SR ys o ∧ s1.heap.get? C.S = some o ∧ H C.S = none ∧ Inv X pins σ H s1 ∧ (∀ p ∈ gp, s1.heap.get? p.1 = some p.2) ∧ C.done ys H
abbrev xR (X : Cx) (pins : List (Addr × Obj)) (σ : L2.St) (C : Con) (gp : List (Addr × Obj)) : GenEnd := fun n s₀ r s₁ => ((r = .ok (.ret .none) ∨ r = .ok .next) ∧ xF X pins σ C gp n s₀ s₁) ∨ ∃ e, r = .error e ∧ (fun (_ : Value) (_ : Shared) => False) e s₁
section
variable {X : Cx} {pins : List (Addr × Obj)} {σ : L2.St} {C : Con} {gp : List (Addr × Obj)} {A : Around} {E : Value → Shared → Prop} {s : Shared}
theorem gx_next {a : Addr} {g n : Nat} {gs : GenState} {Q : Option Value → Shared → Prop} (hh : A.handled = none) (hl : s.heap.NoLimit) (hroom : A.depth < recursionLimit) (hg : s.heap.IsGen a g) (hgs : s.gens[g]? = some gs)
    (hgo : gs.Goes (model X.prog X.w) A.in1 (xR X pins σ C gp) (xItem X pins σ C gp) n (.send .none) (s.setGen g .running))
    (hY : ∀ v s₁ gs' ys o y H, gs'.bare = true → n - 1 + 1 + ys.length = line → RelV y v → s.heap.get? C.S = some o → C.SR ys o → s₁.heap.get? C.S = some o → H C.S = none → Inv X pins σ H s₁ → (∀ p ∈ gp, s₁.heap.get? p.1 = some p.2) → C.take ys y H →
      (C.go ys y H → ∀ s', Slp C (ys ++ [y]) s₁ s' → ∃ m, n = m + 1 ∧ gs'.Goes (model X.prog X.w) A.in1 (xR X pins σ C gp) (xItem X pins σ C gp) m (.send .none) s') → Q (some v) (s₁.setGen g gs'))
    (hP : ∀ s₁ ys o H, n + ys.length = line → s.heap.get? C.S = some o → C.SR ys o → s₁.heap.get? C.S = some o → H C.S = none → Inv X pins σ H s₁ → (∀ p ∈ gp, s₁.heap.get? p.1 = some p.2) → C.done ys H → ∀ h', (∀ b o, s₁.heap.get? b = some o → h'.get? b = some o) → Q none { s₁.setGen g .finished with heap := h' }) :
    wpAny (model X.prog X.w) A (pyNext (.ref a)) Q E s := by
  refine next_genG hh hl hroom hg hgs hgo (fun v s₁ gs' hb hv => ?_) (fun s₁ hp h' hk => ?_) fun e s₁ he => he.elim
  · obtain ⟨ys, o, y, H, hn, rv, h0, h1, h2, h3, h4, h5, h6, h7⟩ := hv
    refine hY v s₁ gs' ys o y H hb hn rv h0 h1 h2 h3 h4 h5 h6 fun hgo s' z => ?_
    have q := h7 hgo s' z
    cases n with
    | zero => exact q.elim
    | succ m => exact ⟨m, rfl, q⟩
  · obtain ⟨ys, o, H, hn, h0, h1, h2, h3, h4, h5, h6⟩ := hp
    exact hP s₁ ys o H hn h0 h1 h2 h3 h4 h5 h6 h' hk
theorem goes_fresh {c : Code} {n : Nat} {s : Shared} (h : Seg (model X.prog X.w) A (xEnd X pins σ C gp) (xItem X pins σ C gp) n s c ((model X.prog X.w).den c) [] s) : GenState.Goes (model X.prog X.w) A (xR X pins σ C gp) (xItem X pins σ C gp) n (.fresh c) (.send .none) s :=
  ⟨rfl, seg_imp (fun n s₀ r s1 hR => .inl ⟨.inr hR.1, hR.2⟩) (fun n s₀ v s1 kap kap' hk hY => by
    obtain ⟨ys, o, y, H, hn, rv, h0, h1, h2, h3, h4, h5, h6, h7⟩ := hY
    exact ⟨ys, o, y, H, hn, rv, h0, h1, h2, h3, h4, h5, h6, fun hg s' z => hk _ _ (h7 hg s' z)⟩) n h⟩
/-- a list that takes all -/
def lstCon (S : Addr) (done : List V → Hp → Prop) : Con := ⟨S, fun ys o => ∃ acc c, o = lstObj acc c ∧ Vals ys acc.toList, fun _ _ _ => True, fun _ _ _ => True, done⟩
theorem gx_drain {R : Result → Shared → Prop} {S a : Addr} {g : Nat} {go : Obj} {res : Value} {done : List V → Hp → Prop} (hh : A.handled = none) (hd : A.depth < recursionLimit) (hSa : a ≠ S) (hgen : ∀ h : Heap, h.get? a = some go → h.IsGen a g)
    (hend : ∀ s' acc c H' ys, s'.heap.get? S = some (lstObj acc c) → Vals ys acc.toList → ys.length ≤ line → H' S = none → Inv X pins σ H' s' → done ys H' → R (.ok (.ret res)) s') :
    ∀ (m : Nat) (s : Shared), s.heap.get? a = some go → s.heap.NoLimit →
      (∃ gs, s.gens[g]? = some gs ∧ gs.Goes (model X.prog X.w) A.in1.in1 (xR X pins σ (lstCon S done) [(a, go)]) (xItem X pins σ (lstCon S done) [(a, go)]) m (.send .none) (s.setGen g .running)) →
      codeAny (model X.prog X.w) A (.builtin "list.extend.loop" ⟨[.ref S, .ref a, res], []⟩) R s := by
  intro m
  induction m with
  | zero =>
    intro s hg hl ⟨gs, hgs, hgo⟩
    refine codeAny_builtin F.entry_extend_loop ?_
    rw [Around.under_plainId F.plain_extend_loop _]
    show wpAny _ A.in1 (pyNext (.ref a) >>= _) _ _ s
    refine wpAny_bind (gx_next (A := A.in1) hh hl hd (hgen _ hg) hgs hgo (fun v s₁ gs' ys o y H hb hn rv _ hSR hS hSn I hgp _ hk => ?_) fun s₁ ys o H hn _ hSR hS hSn I hgp hdn h' hk => ?_)
    · have hsl : Slp (lstCon S done) (ys ++ [y]) s₁ { s₁ with heap := s₁.heap.update S (Obj.mapSeq (·.push v)) } := by
        obtain ⟨acc, c, rfl, r⟩ := hSR
        exact ⟨rfl, I.bare, fun b o hb e => (Heap.get?_update_other _ _ (Ne.symm hb)).trans e, _, Heap.get?_update_self _ hS rfl, acc.push v, _, rfl, by rw [Array.toList_push]; exact r.append (.cons rv .nil)⟩
      obtain ⟨m, hm, _⟩ := hk trivial _ hsl
      exact absurd hm (Nat.succ_ne_zero m).symm
    · obtain ⟨acc, c, rfl, r⟩ := hSR
      exact wpAny_pure (hend _ acc c H ys (hk _ _ hS) r (by omega) hSn (I.call' (ch := []) rfl (Un.kept hk) (I.hok.kept hk) (allBare_setGen I.bare rfl) fun b z => by simp at z) hdn)
  | succ m ih =>
    intro s hg hl ⟨gs, hgs, hgo⟩
    have hgl : g < s.gens.size := (Array.getElem?_eq_some_iff.mp hgs).1
    refine codeAny_builtin F.entry_extend_loop ?_
    rw [Around.under_plainId F.plain_extend_loop _]
    show wpAny _ A.in1 (pyNext (.ref a) >>= _) _ _ s
    refine wpAny_bind (wpAny_gsz (n := g + 1) hgl (gx_next (A := A.in1) hh hl hd (hgen _ hg) hgs hgo (fun v s₁ gs' ys o y H hb hn rv _ hSR hS hSn I hgp _ hk => ?_) fun s₁ ys o H hn _ hSR hS hSn I hgp hdn h' hk => ?_))
    · intro hsz
      obtain ⟨acc, c, rfl, r⟩ := hSR
      have hlen : acc.toList.length = ys.length := r.length.symm
      have hasz : acc.size < sizeLine := by
        rw [sizeLine_eq]
        show acc.size < line
        have e : acc.toList.length = acc.size := Array.length_toList
        have e2 : acc.size = ys.length := e.symm.trans hlen
        rw [e2]
        generalize ys.length = q at hn
        omega
      show wpAny _ A.in1 (updateSeq S (·.push v) >>= _) _ _ _
      refine wpAny_bind ?_
      refine wpAny_updateSeq hS rfl (wpAny_pure ⟨plainId_quiet F.plain_extend_loop _, ?_⟩) (Nat.le_of_lt hasz) (by show (acc.push v).size ≤ sizeLine + 1; rw [Array.size_push]; omega)
      have keep3 : ∀ b o, b ≠ S → s₁.heap.get? b = some o → (s₁.heap.update S (Obj.mapSeq (·.push v))).get? b = some o := fun b o hbS e => (Heap.get?_update_other _ _ (Ne.symm hbS)).trans e
      have hsz1 : g < s₁.gens.size := by
        have q : (s₁.setGen g gs').gens.size = s₁.gens.size := setGen_size _ _ _
        have hsz' : g + 1 ≤ (s₁.setGen g gs').gens.size := hsz
        omega
      have hsl : Slp (lstCon S done) (ys ++ [y]) s₁ ({ s₁.setGen g gs' with heap := s₁.heap.update S (Obj.mapSeq (·.push v)) }.setGen g .running) :=
        ⟨rfl, allBare_setGen (s := s₁.setGen g gs') (allBare_setGen I.bare hb) rfl, keep3, _, Heap.get?_update_self _ hS rfl, acc.push v, _, rfl, by rw [Array.toList_push]; exact r.append (.cons rv .nil)⟩
      obtain ⟨m', hm, hgo'⟩ := hk trivial _ hsl
      cases hm
      have hcs : S ≠ cStatics := fun z => by
        obtain ⟨mc, hns, _⟩ := I.nolimit
        obtain ⟨o, es, ep, ho, hd, _⟩ := hns
        rw [← z] at ho
        have hS' : s₁.heap.get? S = some (lstObj acc c) := hS
        rw [hS'] at ho
        cases ho
        cases hd
      refine ih { s₁.setGen g gs' with heap := s₁.heap.update S (Obj.mapSeq (·.push v)) } (keep3 a go hSa (hgp (a, go) (List.mem_singleton.mpr rfl))) ?_ ⟨gs', setGen_at hsz1, hgo'⟩
      obtain ⟨mc, hns, hnn⟩ := I.nolimit
      exact ⟨mc, hns.at' fun o e => keep3 _ o (Ne.symm hcs) e, hnn⟩
    · intro hsz
      obtain ⟨acc, c, rfl, r⟩ := hSR
      exact wpAny_pure (hend _ acc c H ys (hk _ _ hS) r (by omega) hSn (I.call' (ch := []) rfl (Un.kept hk) (I.hok.kept hk) (allBare_setGen I.bare rfl) fun b z => by simp at z) hdn)
end
end Z

set_option Elab.async false
set_option linter.all false
set_option maxRecDepth 100000
set_option maxHeartbeats 2000000
/-! Z16: tuple, list of a generator expression. -/
namespace Z
open PySem PySem.Spec PyProof.Rows L2 GenW
section
variable {X : Cx} {pins : List (Addr × Obj)} {σ : L2.St} {A : Around} {E : Value → Shared → Prop} {s : Shared} {k : Nat}
/-- all of it in a list -/
theorem collect_gx {R : Hp → Con → Prop} {done : List V → Hp → Prop} {u : Value} {Q : List Value → Shared → Prop} (h : GxMade X pins σ k R u s) (hr : Room (k + 1) A) (hfr : A.frames = some X.stack) (hR : ∀ H1 S, H1 S = none → R H1 (lstCon S done))
    (hQ : ∀ s' ys vals H', Vals ys vals → ys.length ≤ line → Inv X pins σ H' s' → done ys H' → Q vals s') : wpAny (model X.prog X.w) A (collect u) Q E s := by
  obtain ⟨a, g, go, c, H1, rfl, hgo, hgen, hgc, hgs, I, hn, hlt, wake⟩ := h
  have hg := hgen _ hgo
  have hSa : a ≠ s.heap.objs.size := Nat.ne_of_lt hlt
  have hSI : s.heap.objs.size ≠ a := Ne.symm hSa
  unfold collect
  refine wpAny_bind (wpAny_runValue (codeAny_builtin F.entry_proto_collect ?_))
  rw [Around.under_plainId F.plain_proto_collect _]
  show wpAny _ A.in1 (newList [] >>= fun l => again (.builtin "list.__iadd__" ⟨[l, .ref a], []⟩)) _ _ s
  refine wpAny_bind (wpAny_newObj_type ?_)
  refine wpAny_pure ⟨plainId_quiet F.plain_list_iadd _, codeAny_builtin F.entry_list_iadd ?_⟩
  rw [Around.under_plainId F.plain_list_iadd _]
  show wpAny _ A.in1 (Builtin.List.listExtendWith (.ref s.heap.objs.size) (.ref a) (.ref s.heap.objs.size)) _ _ _
  have k1 : ∀ b o, s.heap.get? b = some o → (s.heap.push { cls := .type "list", data := .seq ([] : List Value).toArray }).get? b = some o := fun b o e => Heap.get?_push_of_some _ e
  have gty : ∀ {h : Heap}, (∀ b o, s.heap.get? b = some o → h.get? b = some o) → h.IsGen a g := fun {h} q => hg.keeps q
  unfold Builtin.List.listExtendWith
  refine wpAny_bind (wpAny_typeOf (Heap.IsGen.typeIs (s := { s with heap := _ }) (gty k1)) ?_)
  have h1 : Builtin.List.listSameRef (.ref s.heap.objs.size) (.ref a) = false := by simp [Builtin.List.listSameRef, hSI]
  have h2 : (Value.type "generator" == Value.type "list") = false := by decide
  have h3 : (Value.type "generator" == Value.type "tuple") = false := by decide
  simp only [h1, h2, h3, Bool.or_false, Bool.false_eq_true, if_false]
  refine wpAny_bind (wpAny_pyIter_gen (s := { s with heap := _ }) (gty k1) ?_)
  refine wpAny_bind (wpAny_holding ?_)
  unfold Builtin.List.listLengthHint
  refine wpAny_bind (wpAny_specialOf (Heap.IsGen.typeIs (s := { s with heap := _ }) (gty k1)) F.gen_no_len ?_)
  show wpAny _ A.in1 (specialOf (Value.ref a) (Str.ofString "__length_hint__") >>= _) _ _ _
  refine wpAny_bind (wpAny_specialOf (Heap.IsGen.typeIs (s := { s with heap := _ }) (gty k1)) F.gen_no_hint ?_)
  refine wpAny_pure ?_
  show wpAny _ A.in1 (rule "list.extend.makes-room" >>= fun _ => Builtin.List.listTouch (.ref s.heap.objs.size) >>= fun _ =>
    again (.builtin "list.extend.loop" ⟨[.ref s.heap.objs.size, .ref a, .ref s.heap.objs.size], []⟩)) _ _ _
  refine wpAny_bind (wpAny_rule ?_)
  have hS1 : (s.heap.push { cls := .type "list", data := .seq ([] : List Value).toArray }).get? s.heap.objs.size = some { cls := .type "list", data := .seq ([] : List Value).toArray } := Heap.get?_push_size _ rfl
  refine wpAny_bind ?_
  show wpAny _ A.in1 (updateSeq s.heap.objs.size (·.push .none) >>= fun _ => updateSeq s.heap.objs.size (·.pop)) _ _ _
  refine wpAny_bind (wpAny_updateSeq hS1 rfl ?_)
  have hS2 := Heap.get?_update_self (Obj.mapSeq (·.push Value.none)) hS1 rfl
  refine wpAny_updateSeq (hz := by seq_fits) hS2 rfl ?_
  have hS3 := Heap.get?_update_self (Obj.mapSeq (·.pop)) hS2 rfl
  have oth : ∀ b o, b ≠ s.heap.objs.size → (s.heap.push { cls := .type "list", data := .seq ([] : List Value).toArray }).get? b = some o →
      (((s.heap.push { cls := .type "list", data := .seq ([] : List Value).toArray }).update s.heap.objs.size (Obj.mapSeq (·.push Value.none))).update s.heap.objs.size (Obj.mapSeq (·.pop))).get? b = some o :=
    fun b o hb e => (Heap.get?_update_other _ _ (Ne.symm hb)).trans ((Heap.get?_update_other _ _ (Ne.symm hb)).trans e)
  have k4 : ∀ b o, s.heap.get? b = some o → (((s.heap.push { cls := .type "list", data := .seq ([] : List Value).toArray }).update s.heap.objs.size (Obj.mapSeq (·.push Value.none))).update s.heap.objs.size (Obj.mapSeq (·.pop))).get? b = some o :=
    fun b o e => oth b o (Nat.ne_of_lt (Heap.lt_size e)) (k1 b o e)
  refine wpAny_pure ⟨plainId_quiet F.plain_extend_loop _, ?_⟩
  refine gx_drain (A := A) (g := g) (go := go) (done := done) (X := X) (pins := pins) (σ := σ) hr.hd hr.depth hSa hgen (fun s' acc cc H' ys e1 e2 e3 e4 e5 e6 => ?_) line _ (k4 _ _ hgo) (I.nolimit.keeps k4) ⟨.fresh c, hgs, goes_fresh ?_⟩
  · show wpAny _ A (load s.heap.objs.size >>= _) _ _ s'
    refine wpAny_bind (wpAny_load e1 ?_)
    exact wpAny_pure (hQ s' ys acc.toList H' e2 e3 e5 e6)
  · refine wake A.in1.in1 (lstCon s.heap.objs.size done) [(a, go)] _ ⟨hr.hd, ?_, ?_⟩ hfr (.inr ⟨Nat.le_refl _, rfl⟩) (fun ys o ⟨acc, cc, e, _⟩ v z => by rw [e] at z; cases z) (fun b o _ e => k4 b o e) ⟨_, hS3, _, _, rfl, .nil⟩ rfl (allBare_setGen (s := { s with heap := _ }) I.bare rfl) (hR H1 _ (I.hok.fresh (Nat.le_refl _)))
    · have := hr.dp
      show A.depth + 3 * k + 5 < _
      omega
    · have := hr.un
      show A.units + 1 + 1 + 16 * k + 200 < _
      omega
/-- tuple(g) -/
theorem call_tuple_gx {R : Hp → Con → Prop} {u : Value} {Q : VK} {E : Value → Shared → Prop} (h : GxMade X pins σ k R u s) (hr : Room (k + 2) A) (hfr : A.frames = some X.stack)
    (hR : ∀ H1 S, H1 S = none → R H1 (lstCon S fun ys H => ∀ t, H t = none → Q (.ref t) (upd H t (.tup ys)))) :
    wpAny (model X.prog X.w) A (call (.type "tuple") [u]) (EP X pins σ Q) E s := by
  obtain ⟨a, g, go, c, H1, hu, hgo, hgen, h'⟩ := id h
  have hg := hgen _ hgo
  clear h'
  refine callType_codes (Q₁ := fun obj s₁ => s₁.TypeIs obj "tuple" ∧ EP X pins σ Q obj s₁) F.called_tuple (F.typeCall_tuple_1 _) F.entry_object_init ?_ fun obj s₁ h₁ =>
    ⟨h₁.1, F.args_object_init_2 obj _, object_init_meets F.called_tuple.init.lookup F.called_tuple.made (by decide) X.prog X.w A.in1 _ s₁ ⟨h₁.1, rfl, h₁.2⟩⟩
  refine codeAny_of_tree ?_
  show wpAny _ A.in1.in1 (do checkBuiltinCall "tuple.__new__" ⟨[.type "tuple", u], []⟩; again (.builtin "tuple.__new__" ⟨[.type "tuple", u], []⟩)) _ _ s
  refine wpAny_bind (wpAny_of_eq (F.newCall_tuple_1 _) (wpAny_pure ⟨plainId_quiet F.plain_tuple_new _, codeAny_builtin F.entry_tuple_new ?_⟩))
  rw [Around.under_plainId F.plain_tuple_new _]
  have hsub := sub_tuple_self
  have hinit := init_tuple_lookup
  have hmh := madeHere_tuple
  have hTI : s.TypeIs u "generator" := by rw [hu]; exact hg.typeIs
  have hrr : Room (k + 1) A.in1.in1 := ⟨hr.hd, by have := hr.dp; show A.depth + 3 * (k + 1) + 5 < _; omega, by have := hr.un; show A.units + 1 + 1 + 16 * (k + 1) + 200 < _; omega⟩
  subst hu
  wp_walk using wpAny_typeOf hTI, collect_gx (done := fun ys H => ∀ t, H t = none → Q (.ref t) (upd H t (.tup ys))) h hrr hfr hR
  intro s' ys vals H' r hl I' hd
  show wpAny _ _ (Builtin.Tuple.tupleExact vals.toArray >>= fun v => ret v) _ _ _
  unfold Builtin.Tuple.tupleExact
  have hlen : vals.toArray.size ≤ sizeLine := by rw [List.size_toArray, ← r.length, sizeLine_eq]; exact hl
  refine wpAny_bind (wpAny_newObj_type ?_ hlen)
  refine wpAny_pure ?_
  refine ⟨⟨_, Heap.get?_push_size _ rfl, rfl⟩, .ref s'.heap.objs.size, upd H' s'.heap.objs.size (.tup ys), I'.laid (t' := s'.toks) (fun b o e => Heap.get?_push_of_some _ e) (Nat.le_refl _) ?_, rfl, hd _ (I'.hok.fresh (Nat.le_refl _))⟩
  exact ⟨by rw [sizeLine_eq]; exact hl, vals, r, ⟨_, Heap.get?_push_size _ rfl, rfl, _, rfl⟩⟩
end
end Z

set_option Elab.async false
set_option linter.all false
set_option maxRecDepth 100000
set_option maxHeartbeats 2000000
/-! Z17: generator expressions by values. -/
namespace Z
open PySem PySem.Spec PyProof.Rows L2 GenW
/-- only these values come -/
def mChk (ok : D → Bool) (a : ME) : ME := fun e s => (a e s).bind fun d s1 => if ok d then .ok d s1 else .bad
def okAny : D → Bool := fun _ => true
def okInt : D → Bool
  | .int _ => true
  | _ => false
/-- all that comes, then fin -/
def mGx (ok : D → Bool) (fin : List D → Sto → R D) (vs : List Nat) (t : Tg) (w : MW) (c : MB) (el : ME) : ME := fun e s => (w e s).bind fun src s1 => (lcS t c (mChk ok el) src (wipeE e vs) s1).bind fin
/-- any (st = true), all (st = false) -/
def qnT (st : Bool) (t : Tg) (c : MB) (el : ME) (d : D) (e : Env) (s : Sto) (k : Sto → R Bool) : R Bool := match t d e s with
  | some (e1, s1) => (c e1 s1).nx.bind fun b s2 => if b then (mB el e1 s2).nx.bind fun z s3 => if z == st then .ok st s3 else k s3 else k s2
  | none => .bad
def qnF (st : Bool) (t : Tg) (c : MB) (el : ME) : List D → Env → Sto → R Bool
  | [], _, s => .ok (!st) s
  | d :: ds, e, s => qnT st t c el d e s (qnF st t c el ds e)
def qnI (st : Bool) (src : Src) (t : Tg) (c : MB) (el : ME) : Nat → Nat → Env → Sto → R Bool
  | 0, _, _, _ => .bad
  | n + 1, i, e, s => match src.at i s with
    | some none => .ok (!st) s
    | some (some d) => qnT st t c el d e s (qnI st src t c el n (i + 1) e)
    | none => .bad
def qnS (st : Bool) (t : Tg) (c : MB) (el : ME) (src : Src) (e : Env) (s : Sto) : R Bool := match src with
  | .fix xs => if xs.length ≤ line then qnF st t c el xs e s else .bad
  | src => qnI st src t c el line 0 e s
def mQn (st : Bool) (vs : List Nat) (t : Tg) (w : MW) (c : MB) (el : ME) : ME := fun e s => (w e s).bind fun src s1 => (qnS st t c el src (wipeE e vs) s1).bind fun b s2 => .ok (.bl b) s2
section
variable {X : Cx} {p : Pl} {WX : L2.WX} {W W' : Wd} {H H' : Hp} {s : Sto}
/-- what the draining consumer is told -/
structure Drn (p : Pl) (C : Con) (ok : Z.D → Bool) : Prop where
  take : ∀ (W : Wd) (d : Z.D) (v : V) (ys : List V) (H : Hp), ok d = true → RelD p.K W d v → C.take ys v H
theorem lcT_gx {vs : List Nat} {t : Tg} {c : MB} {el : ME} {ok : Z.D → Bool} {d : Z.D} {v : V} {e : Env} {σ : L2.St} {k : Sto → R (List Z.D)} {fin : List Z.D → Sto → R Z.D} {W0 : Wd} {H0 : Hp} {EX : Nat → Hp → Prop} {Q : VK} {C : Con} {ys : List V} {ds : List Z.D} {st : Sto} {Nx : List V → Hp → Prop}
    (hC : Drn p C ok) (l : W0.le W) (f : Fr W0 W H0 H) (re : RelE p W e (wipe σ vs)) (rp : Rep p W st H) (rds : RelDs p.K W ds ys) (rv : RelD p.K W d v) (hz : ys.length < line)
    (q : Post p (RelD p.K) W0 H0 EX Q ((lcT t c (mChk ok el) d e st k).bind fun r s2 => fin (ds ++ r) s2))
    (hNx : ∀ H' ys' ds', ds'.length ≤ ds.length + 1 → (∃ W s, W0.le W ∧ Fr W0 W H0 H' ∧ RelE p W e (wipe σ vs) ∧ Rep p W s H' ∧ RelDs p.K W ds' ys' ∧ Post p (RelD p.K) W0 H0 EX Q ((k s).bind fun r s2 => fin (ds' ++ r) s2)) → Nx ys' H') :
    gTw p vs t v (wipe σ vs) H fun σ2 H2 => wipe σ2 vs = wipe σ vs ∧ tB p W0x c σ2 H2 fun b H3 => if b = true then tE p W0x el σ2 H3 fun y H4 => ys.length < line ∧ C.take ys y H4 ∧ (C.go ys y H4 → Nx (ys ++ [y]) H4) else Nx ys H3 := by
  refine ⟨W, e, st, d, re, rp, rv, ?_⟩
  unfold lcT at q
  cases h : t d e st with
  | none => rw [h] at q; exact q.elim
  | some x =>
    obtain ⟨e1, s1⟩ := x
    rw [h] at q
    intro W1 H1 σ1 l1 f1 rp1 re1 hw
    refine ⟨hw.trans (wipe_wipe vs), W1, e1, s1, re1, rp1, ?_⟩
    have q1 : Post p (RelD p.K) W0 H0 EX Q (((c e1 s1).nx.bind fun b s2 => if b then (mChk ok el e1 s2).nx.bind fun v s3 => (k s3).bind fun r s4 => .ok (v :: r) s4 else k s2).bind fun r s2 => fin (ds ++ r) s2) := q
    cases hc : c e1 s1 with
    | bad => rw [hc] at q1; exact q1.elim
    | exc i s2 => rw [hc] at q1; exact q1.elim
    | ok b s2 =>
      rw [hc] at q1
      intro W2 H2 v2 l2 f2 rp2 rv2
      subst rv2
      cases v2 with
      | false =>
        rw [if_neg Bool.false_ne_true]
        exact hNx H2 ys ds (by omega) ⟨W2, s2, (l.trans l1).trans l2, (f.trans f1).trans f2, (re.mono l1).mono l2, rp2, (rds.mono l1).mono l2, q1⟩
      | true =>
        rw [if_pos rfl]
        refine ⟨W2, e1, s2, re1.mono l2, rp2, ?_⟩
        have q2 : Post p (RelD p.K) W0 H0 EX Q (((mChk ok el e1 s2).nx.bind fun v s3 => (k s3).bind fun r s4 => .ok (v :: r) s4).bind fun r s2 => fin (ds ++ r) s2) := q1
        unfold mChk at q2
        cases he : el e1 s2 with
        | bad => rw [he] at q2; exact q2.elim
        | exc i s3 => rw [he] at q2; exact q2.elim
        | ok y s3 =>
          rw [he] at q2
          have q3 : Post p (RelD p.K) W0 H0 EX Q ((((if ok y then .ok y s3 else .bad : R Z.D).nx).bind fun v s3 => (k s3).bind fun r s4 => .ok (v :: r) s4).bind fun r s2 => fin (ds ++ r) s2) := q2
          intro W3 H3 v3 l3 f3 rp3 rv3
          cases hok : ok y with
          | false => rw [hok] at q3; exact q3.elim
          | true =>
            rw [hok] at q3
            have ll := ((l.trans l1).trans l2).trans l3
            refine ⟨hz, hC.take W3 y v3 ys H3 hok rv3, fun _ => hNx H3 (ys ++ [v3]) (ds ++ [y]) (by rw [List.length_append]; simp) ⟨W3, s3, ll, (((f.trans f1).trans f2).trans f3), (((re.mono l1).mono l2).mono l3), rp3, (((rds.mono l1).mono l2).mono l3).append (relDs_cons rv3 relDs_nil), ?_⟩⟩
            have q4 : Post p (RelD p.K) W0 H0 EX Q (((k s3).bind fun r s4 => (.ok (y :: r) s4 : R (List Z.D))).bind fun r s2 => fin (ds ++ r) s2) := q3
            cases hk : k s3 with
            | bad => rw [hk] at q4; exact q4
            | exc i s4 => rw [hk] at q4; exact q4
            | ok r s4 =>
              rw [hk] at q4
              have q5 : Post p (RelD p.K) W0 H0 EX Q (fin (ds ++ (y :: r)) s4) := q4
              show Post p (RelD p.K) W0 H0 EX Q (fin ((ds ++ [y]) ++ r) s4)
              rw [List.append_assoc]
              exact q5
/-- the turns of one that is drained -/
theorem gx_turns {ok : Z.D → Bool} {fin : List Z.D → Sto → R Z.D} {vs : List Nat} {t : Tg} {c : MB} {el : ME} {tt : TT} {src : Src} {J : It} {e : Env} {σ : L2.St} {C : Con} {Q : VK} {EX : Nat → Hp → Prop} {s1 : Sto} (htt : ∀ σ H Q, tB p W0x c σ H Q → tt σ H Q) (hC : Drn p C ok)
    (hd : ∀ (W' : Wd) (s' : Sto) (H' : Hp) (ds : List Z.D) (ys : List V), Rep p W' s' H' → RelDs p.K W' ds ys → Post p (RelD p.K) W' H' EX Q (fin ds s') → C.done ys H')
    (so : SrcOk p W src J) (re : RelE p W e σ) (rp : Rep p W s1 H) (q : Post p (RelD p.K) W H EX Q ((lcS t c (mChk ok el) src (wipeE e vs) s1).bind fin)) :
    ∃ Wn m, GxTurns J (gTw p vs t) tt (tE p W0x el) vs σ C Wn ∧ Wn 0 m [] H := by
  have re1 := relE_wipe re vs
  have fixup : ∀ {v : V} {Ha : Hp} {ys : List V} {Nx : List V → Hp → Prop}, (gTw p vs t v (wipe σ vs) Ha fun σ2 H2 => wipe σ2 vs = wipe σ vs ∧ tB p W0x c σ2 H2 fun b H3 => if b = true then tE p W0x el σ2 H3 fun y H4 => ys.length < line ∧ C.take ys y H4 ∧ (C.go ys y H4 → Nx (ys ++ [y]) H4) else Nx ys H3) →
      gTw p vs t v (wipe σ vs) Ha fun σ2 H2 => wipe σ2 vs = wipe σ vs ∧ tt σ2 H2 fun b H3 => if b = true then tE p W0x el σ2 H3 fun y H4 => ys.length < line ∧ C.take ys y H4 ∧ (C.go ys y H4 → Nx (ys ++ [y]) H4) else Nx ys H3 := fun {v Ha ys Nx} ⟨Wa, ea, sa, da, g1, g2, g3, g4⟩ =>
    ⟨Wa, ea, sa, da, g1, g2, g3, PostT.impQ g4 fun σ2 H2 h hw => ⟨(h hw).1, htt _ _ _ (h hw).2⟩⟩
  have any : ∀ (n : Nat), n ≤ line → Post p (RelD p.K) W H EX Q ((lcI src t c (mChk ok el) n 0 (wipeE e vs) s1).bind fin) → ∃ Wn m, GxTurns J (gTw p vs t) tt (tE p W0x el) vs σ C Wn ∧ Wn 0 m [] H := fun n hn q2 => by
    refine ⟨fun i mm ys H' => mm + i ≤ line ∧ ∃ ds, ds.length ≤ i ∧ ∃ W' s', W.le W' ∧ Fr W W' H H' ∧ RelE p W' (wipeE e vs) (wipe σ vs) ∧ Rep p W' s' H' ∧ RelDs p.K W' ds ys ∧ Post p (RelD p.K) W H EX Q ((lcI src t c (mChk ok el) mm i (wipeE e vs) s').bind fun r s2 => fin (ds ++ r) s2), n, ?_,
      hn, [], Nat.le_refl _, W, s1, Wd.le.refl W, Fr.refl W H, re1, rp, relDs_nil, q2⟩
    rintro i mm ys H' ⟨hm, ds, hds, W', s', l', fr', re', rp', rds, q3⟩
    cases mm with
    | zero => exact q3.elim
    | succ mm =>
      unfold lcI at q3
      have so' := so i W' s' H' l' rp'
      cases ha : src.at i s' with
      | none => rw [ha] at q3; exact q3.elim
      | some o =>
        rw [ha] at q3 so'
        cases o with
        | none =>
          have q4 : Post p (RelD p.K) W H EX Q (fin (ds ++ []) s') := q3
          rw [List.append_nil] at q4
          exact .inl ⟨so', hd W' s' H' ds ys rp' rds (Post.re l' fr' q4)⟩
        | some d =>
          obtain ⟨go, yl⟩ := so'
          refine .inr ⟨go, fun ys' H'' => ∃ ds, ds.length ≤ i + 1 ∧ ∃ W' s', W.le W' ∧ Fr W W' H H'' ∧ RelE p W' (wipeE e vs) (wipe σ vs) ∧ Rep p W' s' H'' ∧ RelDs p.K W' ds ys' ∧ Post p (RelD p.K) W H EX Q ((lcI src t c (mChk ok el) mm (i + 1) (wipeE e vs) s').bind fun r s2 => fin (ds ++ r) s2),
            fun ys' H'' h' => ⟨mm, Nat.lt_succ_self mm, by omega, h'⟩, fun x H2 y => fixup (Nx := (fun ys' H'' => ∃ ds, ds.length ≤ i + 1 ∧ ∃ W' s', W.le W' ∧ Fr W W' H H'' ∧ RelE p W' (wipeE e vs) (wipe σ vs) ∧ Rep p W' s' H'' ∧ RelDs p.K W' ds ys' ∧ Post p (RelD p.K) W H EX Q ((lcI src t c (mChk ok el) mm (i + 1) (wipeE e vs) s').bind fun r s2 => fin (ds ++ r) s2))) ?_⟩
          obtain ⟨W2, l2, f2, rp2, rv2⟩ := yl x H2 y
          exact lcT_gx (Nx := (fun ys' H'' => ∃ ds, ds.length ≤ i + 1 ∧ ∃ W' s', W.le W' ∧ Fr W W' H H'' ∧ RelE p W' (wipeE e vs) (wipe σ vs) ∧ Rep p W' s' H'' ∧ RelDs p.K W' ds ys' ∧ Post p (RelD p.K) W H EX Q ((lcI src t c (mChk ok el) mm (i + 1) (wipeE e vs) s').bind fun r s2 => fin (ds ++ r) s2))) (σ := σ) hC (l'.trans l2) (fr'.trans f2) (re'.mono l2) rp2 (rds.mono l2) rv2 (by rw [← rds.length]; omega) q3 fun H3 ys' ds' hl h => ⟨ds', by omega, h⟩
  cases src with
  | liv n => exact any line (Nat.le_refl _) q
  | enu a => exact any line (Nat.le_refl _) q
  | zip a b => exact any line (Nat.le_refl _) q
  | fix xs =>
    unfold lcS at q
    have q3 : Post p (RelD p.K) W H EX Q ((if xs.length ≤ line then lcF t c (mChk ok el) xs (wipeE e vs) s1 else .bad).bind fin) := q
    by_cases hz : xs.length ≤ line
    · rw [if_pos hz] at q3
      refine ⟨fun i mm ys H' => mm = xs.length - i ∧ i ≤ xs.length ∧ ∃ ds, ds.length ≤ i ∧ ∃ W' s', W.le W' ∧ Fr W W' H H' ∧ RelE p W' (wipeE e vs) (wipe σ vs) ∧ Rep p W' s' H' ∧ RelDs p.K W' ds ys ∧ Post p (RelD p.K) W H EX Q ((lcF t c (mChk ok el) (xs.drop i) (wipeE e vs) s').bind fun r s2 => fin (ds ++ r) s2), _, ?_,
        rfl, Nat.zero_le _, [], Nat.le_refl _, W, s1, Wd.le.refl W, Fr.refl W H, re1, rp, relDs_nil, q3⟩
      rintro i mm ys H' ⟨hm, hi2, ds, hds, W', s', l', fr', re', rp', rds, q4⟩
      have so' := so i W' s' H' l' rp'
      by_cases hl : i < xs.length
      · have e1 : (Src.fix xs).at i s' = some (some xs[i]) := by
          show some xs[i]? = _
          rw [List.getElem?_eq_getElem hl]
        rw [e1] at so'
        obtain ⟨go, yl⟩ := so'
        rw [List.drop_eq_getElem_cons hl] at q4
        refine .inr ⟨go, fun ys' H'' => ∃ ds, ds.length ≤ i + 1 ∧ ∃ W' s', W.le W' ∧ Fr W W' H H'' ∧ RelE p W' (wipeE e vs) (wipe σ vs) ∧ Rep p W' s' H'' ∧ RelDs p.K W' ds ys' ∧ Post p (RelD p.K) W H EX Q ((lcF t c (mChk ok el) (xs.drop (i + 1)) (wipeE e vs) s').bind fun r s2 => fin (ds ++ r) s2),
          fun ys' H'' h' => ⟨xs.length - (i + 1), by omega, rfl, by omega, h'⟩, fun x H2 y => fixup (Nx := (fun ys' H'' => ∃ ds, ds.length ≤ i + 1 ∧ ∃ W' s', W.le W' ∧ Fr W W' H H'' ∧ RelE p W' (wipeE e vs) (wipe σ vs) ∧ Rep p W' s' H'' ∧ RelDs p.K W' ds ys' ∧ Post p (RelD p.K) W H EX Q ((lcF t c (mChk ok el) (xs.drop (i + 1)) (wipeE e vs) s').bind fun r s2 => fin (ds ++ r) s2))) ?_⟩
        obtain ⟨W2, l2, f2, rp2, rv2⟩ := yl x H2 y
        exact lcT_gx (Nx := (fun ys' H'' => ∃ ds, ds.length ≤ i + 1 ∧ ∃ W' s', W.le W' ∧ Fr W W' H H'' ∧ RelE p W' (wipeE e vs) (wipe σ vs) ∧ Rep p W' s' H'' ∧ RelDs p.K W' ds ys' ∧ Post p (RelD p.K) W H EX Q ((lcF t c (mChk ok el) (xs.drop (i + 1)) (wipeE e vs) s').bind fun r s2 => fin (ds ++ r) s2))) (σ := σ) hC (l'.trans l2) (fr'.trans f2) (re'.mono l2) rp2 (rds.mono l2) rv2 (by rw [← rds.length]; omega) q4 fun H3 ys' ds' hl h => ⟨ds', by omega, h⟩
      · have e1 : (Src.fix xs).at i s' = some none := by
          show some xs[i]? = _
          rw [List.getElem?_eq_none (by omega)]
        rw [e1] at so'
        rw [List.drop_eq_nil_of_le (by omega)] at q4
        have q5 : Post p (RelD p.K) W H EX Q (fin (ds ++ []) s') := q4
        rw [List.append_nil] at q5
        exact .inl ⟨so', hd W' s' H' ds ys rp' rds (Post.re l' fr' q5)⟩
    · rw [if_neg hz] at q3
      exact q3.elim
/-- what the making wants, by the meaning -/
theorem t_gx {ok : Z.D → Bool} {fin : List Z.D → Sto → R Z.D} {vs : List Nat} {t : Tg} {w : MW} {c : MB} {el : ME} {tt : TT} {σ : L2.St} {H : Hp} {Q : VK} {P : Addr} {mkC : Addr → (List V → Hp → Prop) → Con} (hP : P ∈ p.tg) (hPl : ∀ q ∈ p.tl, q.1 ≠ P) (htt : ∀ σ H Q, tB p W0x c σ H Q → tt σ H Q) (hC : ∀ S done, Drn p (mkC S done) ok) (hdn : ∀ S done, (mkC S done).done = done)
    (done : List V → Hp → Prop) (hd : ∀ (W' : Wd) (s' : Sto) (H' : Hp) (ds : List Z.D) (ys : List V), Rep p W' s' H' → RelDs p.K W' ds ys → Post p (RelD p.K) W' H' (exW p WX σ) Q (fin ds s') → done ys H')
    (h : tE p WX (mGx ok fin vs t w c el) σ H Q) : tI p WX w σ H fun J H1 => GxR.TabG H1 P ∧ ∀ H2 C, GxR.Tabbed P H1 H2 → (∃ S, C = mkC S done) → ∃ Wn m, GxTurns J (gTw p vs t) tt (tE p W0x el) vs σ C Wn ∧ Wn 0 m [] H2 := by
  obtain ⟨W, e, s, re, rp, q⟩ := h
  refine ⟨W, e, s, re, rp, q.bind fun W1 H1 src J s1 l fr rp1 so q1 => ⟨rp1.tab.tg P hP, fun H2 C ht ⟨S, hCe⟩ => ?_⟩⟩
  subst hCe
  obtain ⟨f2, rp2⟩ := rp1.tabbed hP hPl ht
  exact gx_turns htt (hC S done) (fun W' s' H' ds ys a b c => by rw [hdn]; exact hd W' s' H' ds ys a b c) so (re.mono l) rp2 (Post.re (Wd.le.refl W1) f2 q1)
end
end Z

set_option Elab.async false
set_option linter.all false
set_option maxRecDepth 100000
set_option maxHeartbeats 2000000
/-! Z18: sum, any, all of a generator expression. -/
namespace Z
open PySem PySem.Spec PyProof.Rows L2 GenW
/-- the running sum -/
def sumCon (S : Addr) (done : List V → Hp → Prop) : Con := ⟨S, fun ys o => ∃ (ns : List Int) (t : Tok) (c : Nat), o = lstObj #[.int ns.sum t] c ∧ ys = ns.map V.int, fun _ y _ => ∃ i, y = .int i, fun _ _ _ => True, done⟩
/-- a question: it ends at the first st -/
def qnCon (st : Bool) (a : Addr) (go : Obj) (fin : Bool → Hp → Prop) : Con := ⟨a, fun _ o => o = go, fun _ y H => ∃ b, y = .bl b ∧ (b = st → fin st H), fun _ y _ => y = .bl (!st), fun _ H => fin (!st) H⟩
section
variable {X : Cx} {pins : List (Addr × Obj)} {σ : L2.St} {A : Around} {E : Value → Shared → Prop} {s : Shared} {k : Nat}
theorem noLimit_but {h h' : Heap} {S : Addr} {o : Obj} {v : Array Value} {c : Nat} (hl : h.NoLimit) (hS : h.get? S = some o) (hd : o.data = .seq v c) (hk : ∀ b o, b ≠ S → h.get? b = some o → h'.get? b = some o) : h'.NoLimit := by
  obtain ⟨mc, hns, hnn⟩ := hl
  refine ⟨mc, hns.at' fun o' e => hk _ o' (fun z => ?_) e, hnn⟩
  obtain ⟨o2, es, ep, ho, hd2, _⟩ := hns
  rw [z, hS] at ho
  cases ho
  rw [hd] at hd2
  cases hd2
theorem gx_sum {R : Result → Shared → Prop} {S a : Addr} {g : Nat} {go : Obj} {done : List V → Hp → Prop} (hh : A.handled = none) (hd : A.depth < recursionLimit) (hSa : a ≠ S) (hgen : ∀ h : Heap, h.get? a = some go → h.IsGen a g)
    (hend : ∀ s' (ns : List Int) t H', Inv X pins σ H' s' → done (ns.map V.int) H' → R (.ok (.ret (.int ns.sum t))) s') :
    ∀ (m : Nat) (s : Shared) (stage : Int) (ns : List Int) (tA : Tok) (c : Nat), (stage = 0 ∨ stage = 2) → s.heap.get? S = some (lstObj #[.int ns.sum tA] c) → s.heap.get? a = some go → s.heap.NoLimit →
      (∃ gs, s.gens[g]? = some gs ∧ gs.Goes (model X.prog X.w) A.in1.in1 (xR X pins σ (sumCon S done) [(a, go)]) (xItem X pins σ (sumCon S done) [(a, go)]) m (.send .none) (s.setGen g .running)) →
      codeAny (model X.prog X.w) A (.builtin "sum.loop" ⟨[.ref a, .ref S, rawInt stage, rawInt 0], []⟩) R s := by
  intro m
  induction m with
  | zero =>
    intro s stage ns tA c hst hS hg hl ⟨gs, hgs, hgo⟩
    refine codeAny_builtin F.entry_sum_loop ?_
    rw [Around.under_plainId F.plain_sum_loop _]
    show wpAny _ A.in1 (seqItems? (.ref S) >>= _) _ _ s
    refine wpAny_bind (wpAny_seqItems hS rfl ?_)
    show wpAny _ A.in1 (tryCatch (pyNext (.ref a)) _ >>= _) _ _ s
    refine wpAny_bind (wpAny_tryCatch (gx_next (A := A.in1) hh hl hd (hgen _ hg) hgs hgo (fun v s₁ gs' ys o y H hb hn rv h0 hSR hS1 hSn I hgp ⟨i, hi⟩ hk => ?_) fun s₁ ys o H hn h0 hSR hS1 hSn I hgp hdn h' hk => ?_))
    · subst hi
      obtain ⟨ns1, t1, c1, rfl, rfl⟩ := hSR
      have hsl : Slp (sumCon S done) (ns1.map V.int ++ [.int i]) s₁ { s₁ with heap := s₁.heap.update S (Obj.mapSeq fun _ => #[Value.int (ns1 ++ [i]).sum 0]) } :=
        ⟨rfl, I.bare, fun b o hb e => (Heap.get?_update_other _ _ (Ne.symm hb)).trans e, _, Heap.get?_update_self _ hS1 rfl, ns1 ++ [i], 0, _, rfl, by simp⟩
      obtain ⟨m, hm, _⟩ := hk trivial _ hsl
      exact absurd hm (Nat.succ_ne_zero m).symm
    · obtain ⟨ns1, t1, c1, rfl, rfl⟩ := hSR
      have h0' : s.heap.get? S = some (lstObj #[.int ns1.sum t1] c1) := h0
      rw [hS] at h0'
      have e : ns.sum = ns1.sum := by
        have := Option.some.inj h0'
        injection this with _ _ e2 _
        injection e2 with e3 _
        have e4 : ns.sum = ns1.sum ∧ tA = t1 := by simpa using (congrArg Array.toList e3)
        exact e4.1
      have q := hend { s₁.setGen g .finished with heap := h' } ns1 tA H (I.call' (ch := []) rfl (Un.kept hk) (I.hok.kept hk) (allBare_setGen I.bare rfl) fun b z => by simp at z) hdn
      rw [← e] at q
      exact wpAny_pure q
  | succ m ih =>
    intro s stage ns tA c hst hS hg hl ⟨gs, hgs, hgo⟩
    have hgl : g < s.gens.size := (Array.getElem?_eq_some_iff.mp hgs).1
    refine codeAny_builtin F.entry_sum_loop ?_
    rw [Around.under_plainId F.plain_sum_loop _]
    show wpAny _ A.in1 (seqItems? (.ref S) >>= _) _ _ s
    refine wpAny_bind (wpAny_seqItems hS rfl ?_)
    show wpAny _ A.in1 (tryCatch (pyNext (.ref a)) _ >>= _) _ _ s
    refine wpAny_bind (wpAny_tryCatch (wpAny_gsz (n := g + 1) hgl (gx_next (A := A.in1) hh hl hd (hgen _ hg) hgs hgo (fun v s₁ gs' ys o y H hb hn rv h0 hSR hS1 hSn I hgp ⟨i, hi⟩ hk => ?_) fun s₁ ys o H hn h0 hSR hS1 hSn I hgp hdn h' hk => ?_)))
    · intro hsz
      subst hi
      obtain ⟨ns1, t1, c1, rfl, rfl⟩ := hSR
      obtain ⟨t, rfl⟩ := rv
      have h0' : s.heap.get? S = some (lstObj #[.int ns1.sum t1] c1) := h0
      rw [hS] at h0'
      have e : ns.sum = ns1.sum := by
        have := Option.some.inj h0'
        injection this with _ _ e2 _
        injection e2 with e3 _
        have e4 : ns.sum = ns1.sum ∧ tA = t1 := by simpa using (congrArg Array.toList e3)
        exact e4.1
      have hS1' : s₁.heap.get? S = some (lstObj #[.int ns1.sum t1] c1) := hS1
      have hsz1 : g < s₁.gens.size := by
        have q : (s₁.setGen g gs').gens.size = s₁.gens.size := setGen_size _ _ _
        have hsz' : g + 1 ≤ (s₁.setGen g gs').gens.size := hsz
        omega
      have esum : (ns1 ++ [i]).sum = ns.sum + i := by rw [List.sum_append, e]; simp
      have fin : ∀ (stage' : Int), (stage' = 0 ∨ stage' = 2) → ∀ (tk : Nat) (tA' : Tok) (c' : Nat) (h' : Heap), h'.get? S = some (lstObj #[.int (ns.sum + i) tA'] c') → (∀ b o, b ≠ S → s₁.heap.get? b = some o → h'.get? b = some o) →
          codeAny (model X.prog X.w) A (.builtin "sum.loop" ⟨[.ref a, .ref S, rawInt stage', rawInt 0], []⟩) R { s₁.setGen g gs' with heap := h', toks := tk } := fun stage' hst' tk tA' c' h' hS' hk' => by
        have hsl : Slp (sumCon S done) (ns1.map V.int ++ [.int i]) s₁ ({ s₁.setGen g gs' with heap := h', toks := tk }.setGen g .running) :=
          ⟨rfl, allBare_setGen (s := { s₁.setGen g gs' with heap := h', toks := tk }) (allBare_setGen I.bare hb) rfl, hk', _, hS', ns1 ++ [i], tA', c', by rw [esum], by simp⟩
        obtain ⟨m', hm, hgo'⟩ := hk trivial _ hsl
        cases hm
        refine ih { s₁.setGen g gs' with heap := h', toks := tk } stage' (ns1 ++ [i]) tA' c' hst' (by rw [esum]; exact hS') (hk' a go hSa (hgp (a, go) (List.mem_singleton.mpr rfl))) (noLimit_but I.nolimit hS1' rfl hk') ⟨gs', setGen_at (s := { s₁ with heap := h', toks := tk }) hsz1, hgo'⟩
      have up : ∀ {h : Heap} {x : Array Value}, ∀ b o, b ≠ S → h.get? b = some o → (h.update S (Obj.mapSeq fun _ => x)).get? b = some o := fun {h x} b o hb e => (Heap.get?_update_other _ _ (Ne.symm hb)).trans e
      rcases hst with rfl | rfl
      · show wpAny _ A.in1 (if (_ : Bool) = true then (mkInt (ns.sum + i) >>= _) else _) _ _ _
        split
        · refine wpAny_bind (wpAny_mkInt ?_)
          show wpAny _ A.in1 (updateSeq S (fun _ => #[.int (ns.sum + i) _]) >>= _) _ _ _
          refine wpAny_bind ?_
          refine wpAny_updateSeq hS1' rfl (wpAny_pure ⟨plainId_quiet F.plain_sum_loop _, ?_⟩)
          exact fin 0 (.inl rfl) _ _ _ _ (Heap.get?_update_self _ hS1' rfl) up
        · refine wpAny_bind (wpAny_rule ?_)
          refine wpAny_bind (wpAny_attempt (wpAny_holding (PySem.P.add_int ?_)))
          show wpAny _ A.in1 (updateSeq S (fun _ => #[.int (ns.sum + i) _]) >>= _) _ _ _
          refine wpAny_bind ?_
          refine wpAny_updateSeq hS1' rfl ?_
          have hS2 := Heap.get?_update_self (Obj.mapSeq fun _ => #[Value.int (ns.sum + i) (s₁.setGen g gs').toks]) hS1' rfl
          refine wpAny_bind (wpAny_letGo ?_)
          refine wpAny_bind ?_
          refine wpAny_updateSeq hS2 rfl (wpAny_pure ⟨plainId_quiet F.plain_sum_loop _, ?_⟩)
          exact fin 2 (.inr rfl) _ _ _ _ (Heap.get?_update_self _ hS2 rfl) fun b o hb e => up b o hb (up b o hb e)
      · show wpAny _ A.in1 ((holding [Value.int i t] (binaryOp .Add (.int ns.sum tA) (.int i t))).attempt >>= _) _ _ _
        refine wpAny_bind (wpAny_attempt (wpAny_holding (PySem.P.add_int ?_)))
        show wpAny _ A.in1 (updateSeq S (fun _ => #[.int (ns.sum + i) _]) >>= _) _ _ _
        refine wpAny_bind ?_
        refine wpAny_updateSeq hS1' rfl ?_
        have hS2 := Heap.get?_update_self (Obj.mapSeq fun _ => #[Value.int (ns.sum + i) (s₁.setGen g gs').toks]) hS1' rfl
        refine wpAny_bind (wpAny_letGo ?_)
        refine wpAny_bind ?_
        refine wpAny_updateSeq hS2 rfl (wpAny_pure ⟨plainId_quiet F.plain_sum_loop _, ?_⟩)
        exact fin 2 (.inr rfl) _ _ _ _ (Heap.get?_update_self _ hS2 rfl) fun b o hb e => up b o hb (up b o hb e)
    · intro hsz
      obtain ⟨ns1, t1, c1, rfl, rfl⟩ := hSR
      have h0' : s.heap.get? S = some (lstObj #[.int ns1.sum t1] c1) := h0
      rw [hS] at h0'
      have e : ns.sum = ns1.sum := by
        have := Option.some.inj h0'
        injection this with _ _ e2 _
        injection e2 with e3 _
        have e4 : ns.sum = ns1.sum ∧ tA = t1 := by simpa using (congrArg Array.toList e3)
        exact e4.1
      have q := hend { s₁.setGen g .finished with heap := h' } ns1 tA H (I.call' (ch := []) rfl (Un.kept hk) (I.hok.kept hk) (allBare_setGen I.bare rfl) fun b z => by simp at z) hdn
      rw [← e] at q
      exact wpAny_pure q
/-- sum(g) -/
theorem call_sum_gx {R : Hp → Con → Prop} {u : Value} {Q : VK} {E : Value → Shared → Prop} (h : GxMade X pins σ k R u s) (hr : Room (k + 1) A) (hfr : A.frames = some X.stack)
    (hR : ∀ H1 S, H1 S = none → R H1 (sumCon S fun ys H => ∀ ns : List Int, ys = ns.map V.int → Q (.int ns.sum) H)) :
    wpAny (model X.prog X.w) A (call (.builtin "sum") [u]) (EP X pins σ Q) E s := by
  obtain ⟨a, g, go, c, H1, rfl, hgo, hgen, hgc, hgs, I, hn, hlt, wake⟩ := h
  have hg := hgen _ hgo
  refine call_function_tree F.kind_sum F.plain_sum F.entry_sum (F.args_sum1 _) ?_
  unfold Builtin.«sum»
  simp only [List.length_cons, List.length_nil]
  rw [if_neg (by decide)]
  refine wpAny_bind (wpAny_of_eq (show Builtin.Builtins.bindParams "sum" ["start"] 0 { } = pure [none] from rfl) ?_)
  refine wpAny_bind (wpAny_pyIter_gen hg ?_)
  refine wpAny_bind (wpAny_mkInt ?_)
  refine wpAny_bind (wpAny_pure ?_)
  simp only [List.forIn_cons, List.forIn_nil]
  refine wpAny_bind (wpAny_bind (wpAny_bind (wpAny_isInstance (T := "int") (b := false) (typeIs_int _ _ _) PySem.sub_int_str ?_)))
  simp only [Bool.false_eq_true, if_false]
  refine wpAny_pure (wpAny_bind (wpAny_bind (wpAny_isInstance (T := "int") (b := false) (typeIs_int _ _ _) PySem.sub_int_bytes ?_)))
  simp only [Bool.false_eq_true, if_false]
  refine wpAny_pure (wpAny_bind (wpAny_bind (wpAny_isInstance (T := "int") (b := false) (typeIs_int _ _ _) PySem.sub_int_bytearray ?_)))
  simp only [Bool.false_eq_true, if_false]
  refine wpAny_pure (wpAny_pure ?_)
  refine wpAny_bind (wpAny_newObj_type ?_)
  have hSa : a ≠ s.heap.objs.size := Nat.ne_of_lt hlt
  have k1 : ∀ b o, s.heap.get? b = some o → (s.heap.push { cls := .type "list", data := .seq ([Value.int 0 s.toks]).toArray }).get? b = some o := fun b o e => Heap.get?_push_of_some _ e
  have hS1 : (s.heap.push { cls := .type "list", data := .seq ([Value.int 0 s.toks]).toArray }).get? s.heap.objs.size = some (lstObj #[.int ([] : List Int).sum s.toks] 0) := Heap.get?_push_size _ rfl
  refine wpAny_pure ⟨plainId_quiet F.plain_sum_loop _, ?_⟩
  refine gx_sum (A := A) (S := s.heap.objs.size) (g := g) (go := go) (done := fun ys H => ∀ ns : List Int, ys = ns.map V.int → Q (.int ns.sum) H) (X := X) (pins := pins) (σ := σ) hr.hd hr.depth hSa hgen (fun s' ns t H' I' hd => ?_) line ({ s with heap := s.heap.push { cls := .type "list", data := .seq ([Value.int 0 s.toks]).toArray }, toks := s.toks + 1 } : Shared) 0 [] s.toks 0 (.inl rfl) hS1 (by exact k1 _ _ hgo) (by exact I.nolimit.keeps k1) ⟨.fresh c, hgs, goes_fresh ?_⟩
  · exact ⟨.int ns.sum, H', I', ⟨t, rfl⟩, hd ns rfl⟩
  · refine wake A.in1.in1 (sumCon s.heap.objs.size _) [(a, go)] _ ⟨hr.hd, ?_, ?_⟩ hfr (.inr ⟨Nat.le_refl _, rfl⟩) (fun ys o ⟨ns, t, cc, e, _⟩ v z => by rw [e] at z; cases z) (fun b o _ e => k1 b o e) ⟨_, hS1, [], _, _, rfl, rfl⟩ rfl (allBare_setGen (s := { s with heap := _ }) I.bare rfl) (hR H1 _ (I.hok.fresh (Nat.le_refl _)))
    · have := hr.dp
      show A.depth + 3 * k + 5 < _
      omega
    · have := hr.un
      show A.units + 1 + 1 + 16 * k + 200 < _
      omega
/-- any(g) (st = true), all(g) (st = false): the loop -/
theorem gx_any {R : Result → Shared → Prop} {a : Addr} {g : Nat} {go : Obj} {st : Bool} {fin : Bool → Hp → Prop} (hh : A.handled = none) (hd : A.depth < recursionLimit) (hgen : ∀ h : Heap, h.get? a = some go → h.IsGen a g)
    (hend : ∀ s' b H', Inv X pins σ H' s' → fin b H' → R (.ok (.ret (.bool b))) s') :
    ∀ (m : Nat) (s : Shared), s.heap.get? a = some go → s.heap.NoLimit →
      (∃ gs, s.gens[g]? = some gs ∧ gs.Goes (model X.prog X.w) A.in1.in1 (xR X pins σ (qnCon st a go fin) []) (xItem X pins σ (qnCon st a go fin) []) m (.send .none) (s.setGen g .running)) →
      codeAny (model X.prog X.w) A (.builtin (if st then "any.loop" else "all.loop") ⟨[.ref a], []⟩) R s := by
  intro m
  induction m with
  | zero =>
    intro s hg hl ⟨gs, hgs, hgo⟩
    have next : ∀ {Q : Option Value → Shared → Prop} {E : Value → Shared → Prop}, (∀ s₁ b H, Inv X pins σ H s₁ → (b = st → fin st H) → ∀ gs', gs'.bare = true → b = st → Q (some (.bool b)) (s₁.setGen g gs')) → (∀ s₁ H, Inv X pins σ H s₁ → fin (!st) H → ∀ h', (∀ b o, s₁.heap.get? b = some o → h'.get? b = some o) → Q none { s₁.setGen g .finished with heap := h' }) → wpAny (model X.prog X.w) A.in1 (pyNext (.ref a)) Q E s := fun {Q E} h1 h2 => by
      refine gx_next (A := A.in1) hh hl hd (hgen _ hg) hgs hgo (fun v s₁ gs' ys o y H hb hn rv h0 hSR hS1 hSn I hgp ⟨b, hy, hf⟩ hk => ?_) fun s₁ ys o H hn h0 hSR hS1 hSn I hgp hdn h' hk => h2 s₁ H I hdn h' hk
      subst hy
      have rv : v = .bool b := rv
      subst rv
      by_cases e : b = st
      · exact h1 s₁ b H I hf gs' hb e
      · have e2 : b = !st := by cases b <;> cases st <;> simp_all
        obtain ⟨m, hm, _⟩ := hk (by rw [e2]; rfl) s₁ ⟨rfl, I.bare, fun _ _ _ e => e, o, hS1, hSR⟩
        exact absurd hm (Nat.succ_ne_zero m).symm
    cases st with
    | true =>
      show codeAny (model X.prog X.w) A (.builtin "any.loop" ⟨[.ref a], []⟩) R s
      refine codeAny_builtin F.entry_any_loop ?_
      rw [Around.under_plainId F.plain_any_loop _]
      show wpAny _ A.in1 (pyNext (.ref a) >>= _) _ _ s
      refine wpAny_bind (next (fun s₁ b H I hf gs' hb e => ?_) fun s₁ H I hdn h' hk => ?_)
      · subst e
        refine wpAny_bind (wpAny_holding (wpAny_truthy_bool ?_))
        refine wpAny_bind (wpAny_letGo ?_)
        simp only [if_true]
        refine wpAny_bind (wpAny_rule (wpAny_pure ?_))
        exact hend _ true H (I.call' (ch := []) rfl (Un.kept fun _ _ e => e) I.hok (allBare_setGen I.bare hb) fun b z => by simp at z) (hf rfl)
      · refine wpAny_bind (wpAny_rule (wpAny_pure ?_))
        exact hend _ false H (I.call' (ch := []) rfl (Un.kept hk) (I.hok.kept hk) (allBare_setGen I.bare rfl) fun b z => by simp at z) hdn
    | false =>
      show codeAny (model X.prog X.w) A (.builtin "all.loop" ⟨[.ref a], []⟩) R s
      refine codeAny_builtin F.entry_all_loop ?_
      rw [Around.under_plainId F.plain_all_loop _]
      show wpAny _ A.in1 (pyNext (.ref a) >>= _) _ _ s
      refine wpAny_bind (next (fun s₁ b H I hf gs' hb e => ?_) fun s₁ H I hdn h' hk => ?_)
      · subst e
        refine wpAny_bind (wpAny_holding (wpAny_truthy_bool ?_))
        refine wpAny_bind (wpAny_letGo ?_)
        simp only [Bool.false_eq_true, if_false]
        refine wpAny_bind (wpAny_rule (wpAny_pure ?_))
        exact hend _ false H (I.call' (ch := []) rfl (Un.kept fun _ _ e => e) I.hok (allBare_setGen I.bare hb) fun b z => by simp at z) (hf rfl)
      · refine wpAny_bind (wpAny_rule (wpAny_pure ?_))
        exact hend _ true H (I.call' (ch := []) rfl (Un.kept hk) (I.hok.kept hk) (allBare_setGen I.bare rfl) fun b z => by simp at z) hdn
  | succ m ih =>
    intro s hg hl ⟨gs, hgs, hgo⟩
    have hgl : g < s.gens.size := (Array.getElem?_eq_some_iff.mp hgs).1
    have next : ∀ {Q : Option Value → Shared → Prop} {E : Value → Shared → Prop}, (∀ s₁ b H gs', Inv X pins σ H s₁ → gs'.bare = true → (b = st → fin st H) → (b = !st → codeAny (model X.prog X.w) A (.builtin (if st then "any.loop" else "all.loop") ⟨[.ref a], []⟩) R (s₁.setGen g gs')) → Q (some (.bool b)) (s₁.setGen g gs')) →
        (∀ s₁ H, Inv X pins σ H s₁ → fin (!st) H → ∀ h', (∀ b o, s₁.heap.get? b = some o → h'.get? b = some o) → Q none { s₁.setGen g .finished with heap := h' }) → wpAny (model X.prog X.w) A.in1 (pyNext (.ref a)) Q E s := fun {Q E} h1 h2 => by
      refine wpAny_mono (wpAny_gsz (n := g + 1) hgl (gx_next (Q := fun r s' => g + 1 ≤ s'.gens.size → Q r s') (A := A.in1) hh hl hd (hgen _ hg) hgs hgo (fun v s₁ gs' ys o y H hb hn rv h0 hSR hS1 hSn I hgp ⟨b, hy, hf⟩ hk hsz => ?_) fun s₁ ys o H hn h0 hSR hS1 hSn I hgp hdn h' hk hsz => h2 s₁ H I hdn h' hk)) (fun _ _ q => q) fun _ _ q => q
      subst hy
      have rv : v = .bool b := rv
      subst rv
      have hSR : o = go := hSR
      subst hSR
      have hsz1 : g < s₁.gens.size := by
        have q : (s₁.setGen g gs').gens.size = s₁.gens.size := setGen_size _ _ _
        have hsz' : g + 1 ≤ (s₁.setGen g gs').gens.size := hsz
        omega
      refine h1 s₁ b H gs' I hb hf fun e => ?_
      obtain ⟨m', hm, hgo'⟩ := hk (by rw [e]; rfl) ((s₁.setGen g gs').setGen g .running) ⟨rfl, allBare_setGen (s := s₁.setGen g gs') (allBare_setGen I.bare hb) rfl, fun _ _ _ e => e, o, hS1, rfl⟩
      cases hm
      exact ih (s₁.setGen g gs') hS1 I.nolimit ⟨gs', setGen_at hsz1, hgo'⟩
    cases st with
    | true =>
      show codeAny (model X.prog X.w) A (.builtin "any.loop" ⟨[.ref a], []⟩) R s
      refine codeAny_builtin F.entry_any_loop ?_
      rw [Around.under_plainId F.plain_any_loop _]
      show wpAny _ A.in1 (pyNext (.ref a) >>= _) _ _ s
      refine wpAny_bind (next (fun s₁ b H gs' I hb hf hgo => ?_) fun s₁ H I hdn h' hk => ?_)
      · refine wpAny_bind (wpAny_holding (wpAny_truthy_bool ?_))
        refine wpAny_bind (wpAny_letGo ?_)
        cases b with
        | true =>
          simp only [if_true]
          refine wpAny_bind (wpAny_rule (wpAny_pure ?_))
          exact hend _ true H (I.call' (ch := []) rfl (Un.kept fun _ _ e => e) I.hok (allBare_setGen I.bare hb) fun b z => by simp at z) (hf rfl)
        | false =>
          simp only [Bool.false_eq_true, if_false]
          exact wpAny_pure ⟨plainId_quiet F.plain_any_loop _, hgo rfl⟩
      · refine wpAny_bind (wpAny_rule (wpAny_pure ?_))
        exact hend _ false H (I.call' (ch := []) rfl (Un.kept hk) (I.hok.kept hk) (allBare_setGen I.bare rfl) fun b z => by simp at z) hdn
    | false =>
      show codeAny (model X.prog X.w) A (.builtin "all.loop" ⟨[.ref a], []⟩) R s
      refine codeAny_builtin F.entry_all_loop ?_
      rw [Around.under_plainId F.plain_all_loop _]
      show wpAny _ A.in1 (pyNext (.ref a) >>= _) _ _ s
      refine wpAny_bind (next (fun s₁ b H gs' I hb hf hgo => ?_) fun s₁ H I hdn h' hk => ?_)
      · refine wpAny_bind (wpAny_holding (wpAny_truthy_bool ?_))
        refine wpAny_bind (wpAny_letGo ?_)
        cases b with
        | false =>
          simp only [Bool.false_eq_true, if_false]
          refine wpAny_bind (wpAny_rule (wpAny_pure ?_))
          exact hend _ false H (I.call' (ch := []) rfl (Un.kept fun _ _ e => e) I.hok (allBare_setGen I.bare hb) fun b z => by simp at z) (hf rfl)
        | true =>
          simp only [if_true]
          exact wpAny_pure ⟨plainId_quiet F.plain_all_loop _, hgo rfl⟩
      · refine wpAny_bind (wpAny_rule (wpAny_pure ?_))
        exact hend _ true H (I.call' (ch := []) rfl (Un.kept hk) (I.hok.kept hk) (allBare_setGen I.bare rfl) fun b z => by simp at z) hdn
theorem call_qn_gx {st : Bool} {R : Hp → Con → Prop} {u : Value} {Q : VK} {E : Value → Shared → Prop} (h : GxMade X pins σ k R u s) (hr : Room (k + 1) A) (hfr : A.frames = some X.stack)
    (hR : ∀ H1 a go, R H1 (qnCon st a go fun b H => Q (.bl b) H)) :
    wpAny (model X.prog X.w) A (call (.builtin (if st then "any" else "all")) [u]) (EP X pins σ Q) E s := by
  obtain ⟨a, g, go, c, H1, rfl, hgo, hgen, hgc, hgs, I, hn, hlt, wake⟩ := h
  have hg := hgen _ hgo
  have loop : codeAny (model X.prog X.w) A (.builtin (if st then "any.loop" else "all.loop") ⟨[.ref a], []⟩) (fun r s' => match r with | .ok (.ret v) => EP X pins σ Q v s' | .ok _ => False | .error e => E e s') s := by
    refine gx_any (A := A) (g := g) (go := go) (fin := fun b H => Q (.bl b) H) (X := X) (pins := pins) (σ := σ) hr.hd hr.depth hgen (fun s' b H' I' hf => ⟨.bl b, H', I', rfl, hf⟩) line s hgo I.nolimit ⟨.fresh c, hgs, goes_fresh ?_⟩
    refine wake A.in1.in1 (qnCon st a go _) [] _ ⟨hr.hd, ?_, ?_⟩ hfr (.inl ⟨rfl, rfl⟩) (fun ys o e v z => by
      have e : o = go := e
      rw [e] at z
      exact hgc v z) (fun b o _ e => e) ⟨go, hgo, rfl⟩ rfl (allBare_setGen I.bare rfl) (hR H1 a go)
    · have := hr.dp
      show A.depth + 3 * k + 5 < _
      omega
    · have := hr.un
      show A.units + 1 + 1 + 16 * k + 200 < _
      omega
  cases st with
  | true =>
    refine call_function_tree F.kind_any F.plain_any F.entry_any (F.args_any1 _) ?_
    unfold Builtin.«any»
    refine wpAny_bind (m := oneArg "any" _) (wpAny_pure ?_)
    refine wpAny_bind (wpAny_pyIter_gen hg ?_)
    exact wpAny_pure ⟨plainId_quiet F.plain_any_loop _, loop⟩
  | false =>
    refine call_function_tree F.kind_all F.plain_all F.entry_all (F.args_all1 _) ?_
    unfold Builtin.«all»
    refine wpAny_bind (m := oneArg "all" _) (wpAny_pure ?_)
    refine wpAny_bind (wpAny_pyIter_gen hg ?_)
    exact wpAny_pure ⟨plainId_quiet F.plain_all_loop _, loop⟩
end
end Z

set_option Elab.async false
set_option linter.all false
set_option maxRecDepth 100000
set_option maxHeartbeats 2000000
/-! Z19: questions of generator expressions, by values; the rules. -/
namespace Z
open PySem PySem.Spec PyProof.Rows L2 GenW
section
variable {X : Cx} {p : Pl} {WX : L2.WX} {W W' : Wd} {H H' : Hp} {s : Sto}
def bQ (b : Bool) (s : Sto) : R Z.D := .ok (.bl b) s
theorem qnT_ok {st : Bool} {vs : List Nat} {t : Tg} {c : MB} {el : ME} {d : Z.D} {v : V} {e : Env} {σ : L2.St} {k : Sto → R Bool} {W0 : Wd} {H0 : Hp} {EX : Nat → Hp → Prop} {Q : VK} {C : Con} {ys : List V} {s0 : Sto} {Nx : List V → Hp → Prop} {a : Addr} {go : Obj}
    (hC : C = qnCon st a go fun b H => Q (.bl b) H) (l : W0.le W) (f : Fr W0 W H0 H) (re : RelE p W e (wipe σ vs)) (rp : Rep p W s0 H) (rv : RelD p.K W d v) (hz : ys.length < line)
    (q : Post p (RelD p.K) W0 H0 EX Q ((qnT st t c el d e s0 k).bind bQ))
    (hNx : ∀ H' ys', ys'.length ≤ ys.length + 1 → (∃ W s, W0.le W ∧ Fr W0 W H0 H' ∧ RelE p W e (wipe σ vs) ∧ Rep p W s H' ∧ Post p (RelD p.K) W0 H0 EX Q ((k s).bind bQ)) → Nx ys' H') :
    gTw p vs t v (wipe σ vs) H fun σ2 H2 => wipe σ2 vs = wipe σ vs ∧ tB p W0x c σ2 H2 fun b H3 => if b = true then tE p W0x el σ2 H3 fun y H4 => ys.length < line ∧ C.take ys y H4 ∧ (C.go ys y H4 → Nx (ys ++ [y]) H4) else Nx ys H3 := by
  subst hC
  refine ⟨W, e, s0, d, re, rp, rv, ?_⟩
  unfold qnT at q
  cases h : t d e s0 with
  | none => rw [h] at q; exact q.elim
  | some x =>
    obtain ⟨e1, s1⟩ := x
    rw [h] at q
    intro W1 H1 σ1 l1 f1 rp1 re1 hw
    refine ⟨hw.trans (wipe_wipe vs), W1, e1, s1, re1, rp1, ?_⟩
    have q1 : Post p (RelD p.K) W0 H0 EX Q (((c e1 s1).nx.bind fun b s2 => if b then (mB el e1 s2).nx.bind fun z s3 => if z == st then .ok st s3 else k s3 else k s2).bind bQ) := q
    cases hc : c e1 s1 with
    | bad => rw [hc] at q1; exact q1.elim
    | exc i s2 => rw [hc] at q1; exact q1.elim
    | ok b s2 =>
      rw [hc] at q1
      intro W2 H2 v2 l2 f2 rp2 rv2
      subst rv2
      cases v2 with
      | false =>
        rw [if_neg Bool.false_ne_true]
        exact hNx H2 ys (by omega) ⟨W2, s2, (l.trans l1).trans l2, (f.trans f1).trans f2, (re.mono l1).mono l2, rp2, q1⟩
      | true =>
        rw [if_pos rfl]
        refine ⟨W2, e1, s2, re1.mono l2, rp2, ?_⟩
        have q2 : Post p (RelD p.K) W0 H0 EX Q (((mB el e1 s2).nx.bind fun z s3 => if z == st then .ok st s3 else k s3).bind bQ) := q1
        unfold mB at q2
        cases he : el e1 s2 with
        | bad => rw [he] at q2; exact q2.elim
        | exc i s3 => rw [he] at q2; exact q2.elim
        | ok y s3 =>
          rw [he] at q2
          intro W3 H3 v3 l3 f3 rp3 rv3
          cases y with
          | bl z =>
            have q3 : Post p (RelD p.K) W0 H0 EX Q ((if z == st then .ok st s3 else k s3).bind bQ) := q2
            cases relD_bl rv3
            have ll := ((l.trans l1).trans l2).trans l3
            have ff := ((f.trans f1).trans f2).trans f3
            refine ⟨hz, ⟨z, rfl, fun e => ?_⟩, fun e => ?_⟩
            · subst e
              rw [if_pos (by simp)] at q3
              exact q3 W3 H3 _ ll ff rp3 rel_bl
            · have e : V.bl z = .bl (!st) := e
              cases e
              rw [if_neg (by cases st <;> simp)] at q3
              exact hNx H3 _ (by rw [List.length_append]; simp) ⟨W3, s3, ll, ff, ((re.mono l1).mono l2).mono l3, rp3, q3⟩
          | _ => exact q2.elim
theorem qn_turns {st : Bool} {vs : List Nat} {t : Tg} {c : MB} {el : ME} {tt : TT} {src : Src} {J : It} {e : Env} {σ : L2.St} {C : Con} {Q : VK} {EX : Nat → Hp → Prop} {s1 : Sto} {a : Addr} {go : Obj} (htt : ∀ σ H Q, tB p W0x c σ H Q → tt σ H Q) (hC : C = qnCon st a go fun b H => Q (.bl b) H)
    (so : SrcOk p W src J) (re : RelE p W e σ) (rp : Rep p W s1 H) (q : Post p (RelD p.K) W H EX Q ((qnS st t c el src (wipeE e vs) s1).bind bQ)) :
    ∃ Wn m, GxTurns J (gTw p vs t) tt (tE p W0x el) vs σ C Wn ∧ Wn 0 m [] H := by
  have re1 := relE_wipe re vs
  have fixup : ∀ {v : V} {Ha : Hp} {ys : List V} {Nx : List V → Hp → Prop}, (gTw p vs t v (wipe σ vs) Ha fun σ2 H2 => wipe σ2 vs = wipe σ vs ∧ tB p W0x c σ2 H2 fun b H3 => if b = true then tE p W0x el σ2 H3 fun y H4 => ys.length < line ∧ C.take ys y H4 ∧ (C.go ys y H4 → Nx (ys ++ [y]) H4) else Nx ys H3) →
      gTw p vs t v (wipe σ vs) Ha fun σ2 H2 => wipe σ2 vs = wipe σ vs ∧ tt σ2 H2 fun b H3 => if b = true then tE p W0x el σ2 H3 fun y H4 => ys.length < line ∧ C.take ys y H4 ∧ (C.go ys y H4 → Nx (ys ++ [y]) H4) else Nx ys H3 := fun {v Ha ys Nx} ⟨Wa, ea, sa, da, g1, g2, g3, g4⟩ =>
    ⟨Wa, ea, sa, da, g1, g2, g3, PostT.impQ g4 fun σ2 H2 h hw => ⟨(h hw).1, htt _ _ _ (h hw).2⟩⟩
  have dn : ∀ {W' H' s'} {ys : List V}, W.le W' → Fr W W' H H' → Rep p W' s' H' → Post p (RelD p.K) W H EX Q ((.ok (!st) s' : R Bool).bind bQ) → C.done ys H' := fun {W' H' s' ys} l f r q => by
    subst hC
    exact q W' H' _ l f r rel_bl
  have any : ∀ (n : Nat), n ≤ line → Post p (RelD p.K) W H EX Q ((qnI st src t c el n 0 (wipeE e vs) s1).bind bQ) → ∃ Wn m, GxTurns J (gTw p vs t) tt (tE p W0x el) vs σ C Wn ∧ Wn 0 m [] H := fun n hn q2 => by
    refine ⟨fun i mm ys H' => mm + i ≤ line ∧ ys.length ≤ i ∧ ∃ W' s', W.le W' ∧ Fr W W' H H' ∧ RelE p W' (wipeE e vs) (wipe σ vs) ∧ Rep p W' s' H' ∧ Post p (RelD p.K) W H EX Q ((qnI st src t c el mm i (wipeE e vs) s').bind bQ), n, ?_,
      hn, Nat.le_refl _, W, s1, Wd.le.refl W, Fr.refl W H, re1, rp, q2⟩
    rintro i mm ys H' ⟨hm, hys, W', s', l', fr', re', rp', q3⟩
    cases mm with
    | zero => exact q3.elim
    | succ mm =>
      unfold qnI at q3
      have so' := so i W' s' H' l' rp'
      cases ha : src.at i s' with
      | none => rw [ha] at q3; exact q3.elim
      | some o =>
        rw [ha] at q3 so'
        cases o with
        | none => exact .inl ⟨so', dn l' fr' rp' q3⟩
        | some d =>
          obtain ⟨go', yl⟩ := so'
          refine .inr ⟨go', fun ys' H'' => ys'.length ≤ i + 1 ∧ ∃ W' s', W.le W' ∧ Fr W W' H H'' ∧ RelE p W' (wipeE e vs) (wipe σ vs) ∧ Rep p W' s' H'' ∧ Post p (RelD p.K) W H EX Q ((qnI st src t c el mm (i + 1) (wipeE e vs) s').bind bQ),
            fun ys' H'' h' => ⟨mm, Nat.lt_succ_self mm, by omega, h'⟩, fun x H2 y => fixup (Nx := fun ys' H'' => ys'.length ≤ i + 1 ∧ ∃ W' s', W.le W' ∧ Fr W W' H H'' ∧ RelE p W' (wipeE e vs) (wipe σ vs) ∧ Rep p W' s' H'' ∧ Post p (RelD p.K) W H EX Q ((qnI st src t c el mm (i + 1) (wipeE e vs) s').bind bQ)) ?_⟩
          obtain ⟨W2, l2, f2, rp2, rv2⟩ := yl x H2 y
          exact qnT_ok (Nx := fun ys' H'' => ys'.length ≤ i + 1 ∧ ∃ W' s', W.le W' ∧ Fr W W' H H'' ∧ RelE p W' (wipeE e vs) (wipe σ vs) ∧ Rep p W' s' H'' ∧ Post p (RelD p.K) W H EX Q ((qnI st src t c el mm (i + 1) (wipeE e vs) s').bind bQ)) (σ := σ) hC (l'.trans l2) (fr'.trans f2) (re'.mono l2) rp2 rv2 (by omega) q3 fun H3 ys' hl h => ⟨by omega, h⟩
  cases src with
  | liv n => exact any line (Nat.le_refl _) q
  | enu a => exact any line (Nat.le_refl _) q
  | zip a b => exact any line (Nat.le_refl _) q
  | fix xs =>
    unfold qnS at q
    have q3 : Post p (RelD p.K) W H EX Q ((if xs.length ≤ line then qnF st t c el xs (wipeE e vs) s1 else .bad).bind bQ) := q
    by_cases hz : xs.length ≤ line
    · rw [if_pos hz] at q3
      refine ⟨fun i mm ys H' => mm = xs.length - i ∧ i ≤ xs.length ∧ ys.length ≤ i ∧ ∃ W' s', W.le W' ∧ Fr W W' H H' ∧ RelE p W' (wipeE e vs) (wipe σ vs) ∧ Rep p W' s' H' ∧ Post p (RelD p.K) W H EX Q ((qnF st t c el (xs.drop i) (wipeE e vs) s').bind bQ), _, ?_,
        rfl, Nat.zero_le _, Nat.le_refl _, W, s1, Wd.le.refl W, Fr.refl W H, re1, rp, q3⟩
      rintro i mm ys H' ⟨hm, hi2, hys, W', s', l', fr', re', rp', q4⟩
      have so' := so i W' s' H' l' rp'
      by_cases hl : i < xs.length
      · have e1 : (Src.fix xs).at i s' = some (some xs[i]) := by
          show some xs[i]? = _
          rw [List.getElem?_eq_getElem hl]
        rw [e1] at so'
        obtain ⟨go', yl⟩ := so'
        rw [List.drop_eq_getElem_cons hl] at q4
        refine .inr ⟨go', fun ys' H'' => ys'.length ≤ i + 1 ∧ ∃ W' s', W.le W' ∧ Fr W W' H H'' ∧ RelE p W' (wipeE e vs) (wipe σ vs) ∧ Rep p W' s' H'' ∧ Post p (RelD p.K) W H EX Q ((qnF st t c el (xs.drop (i + 1)) (wipeE e vs) s').bind bQ),
          fun ys' H'' h' => ⟨xs.length - (i + 1), by omega, rfl, by omega, h'⟩, fun x H2 y => fixup (Nx := fun ys' H'' => ys'.length ≤ i + 1 ∧ ∃ W' s', W.le W' ∧ Fr W W' H H'' ∧ RelE p W' (wipeE e vs) (wipe σ vs) ∧ Rep p W' s' H'' ∧ Post p (RelD p.K) W H EX Q ((qnF st t c el (xs.drop (i + 1)) (wipeE e vs) s').bind bQ)) ?_⟩
        obtain ⟨W2, l2, f2, rp2, rv2⟩ := yl x H2 y
        exact qnT_ok (Nx := fun ys' H'' => ys'.length ≤ i + 1 ∧ ∃ W' s', W.le W' ∧ Fr W W' H H'' ∧ RelE p W' (wipeE e vs) (wipe σ vs) ∧ Rep p W' s' H'' ∧ Post p (RelD p.K) W H EX Q ((qnF st t c el (xs.drop (i + 1)) (wipeE e vs) s').bind bQ)) (σ := σ) hC (l'.trans l2) (fr'.trans f2) (re'.mono l2) rp2 rv2 (by omega) q4 fun H3 ys' hl h => ⟨by omega, h⟩
      · have e1 : (Src.fix xs).at i s' = some none := by
          show some xs[i]? = _
          rw [List.getElem?_eq_none (by omega)]
        rw [e1] at so'
        rw [List.drop_eq_nil_of_le (by omega)] at q4
        exact .inl ⟨so', dn l' fr' rp' q4⟩
    · rw [if_neg hz] at q3
      exact q3.elim
/-! ### the rules -/
/-- what stays the same for a def's generator expressions -/
structure GxH (X : Cx) (p : Pl) (c P : Addr) (scope : Scope) (own : List (Str × Nat)) : Prop where
  hd : X.A.depth < recursionLimit
  hc : X.calm = true
  nd : X.N.Nodup
  tb : GxR.TabB X.base X.mg c P
  code : X.env.code = .ref c
  ok : GxOk X.N X.env.scope scope own
  tg : P ∈ p.tg
  tl : ∀ q ∈ p.tl, q.1 ≠ P
/-- what the parts are -/
structure GxE (X : Cx) (p : Pl) (WX : L2.WX) (k : Nat) (scope : Scope) (own : List (Str × Nat)) (tg iter elt : Expr) (ifs : List Expr) (t : Tg) (w : MW) (c : MB) (tt : TT) (el : ME) : Prop where
  hi : PI X tg iter (tI p WX w)
  hg : ∀ (A : Around) (s : Shared) (H : Hp) (L : Addr) (cd : Value) (fp : List Addr), Room k (A.deeper (gxEnv X scope L cd)) → PG (gxCx X A s H (gxEnv X scope L cd) fp) tg (gTw p (own.map (·.2)) t)
  ht : ∀ (A : Around) (s : Shared) (H : Hp) (L : Addr) (cd : Value) (fp : List Addr), Room k (A.deeper (gxEnv X scope L cd)) → PTs (gxCx X A s H (gxEnv X scope L cd) fp) ifs tt
  htt : ∀ σ H Q, tB p W0x c σ H Q → tt σ H Q
  he : ∀ (A : Around) (s : Shared) (H : Hp) (L : Addr) (cd : Value) (fp : List Addr), Room k (A.deeper (gxEnv X scope L cd)) → PE (gxCx X A s H (gxEnv X scope L cd) fp) elt (tE p W0x el)
  hs : ∀ v, genFold iter X.env v = pure v
section
variable {k : Nat} {cc P : Addr} {scope : Scope} {own : List (Str × Nat)} {tg iter elt : Expr} {ifs : List Expr} {t : Tg} {w : MW} {c : MB} {tt : TT} {el : ME} {gpos pos pp : Pos}
theorem pe_qnG {st : Bool} {nm : Str} (G : GxH X p cc P scope own) (B : GxE X p WX k scope own tg iter elt ifs t w c tt el) (hr : Room (k + 3) X.A) (hg : Gl X nm) (hm : X.mg nm = none) (hv : bootBuiltins nm = some (.builtin (if st then "any" else "all"))) (hn : nm ≠ "__name__") (hdb : (nm == ("__debug__" : Str)) = false)
    (he : starEach [.GeneratorExp elt [⟨tg, iter, ifs, 0⟩] scope gpos] X.env = (false, eval (.GeneratorExp elt [⟨tg, iter, ifs, 0⟩] scope gpos) X.env) :: starEach [] X.env) (hpl : (backTo pos (starEach [] X.env)).any (·.1) = false) :
    PE X (.Call (.Name nm pp) [.GeneratorExp elt [⟨tg, iter, ifs, 0⟩] scope gpos] [] pos) (tE p WX (mQn st (own.map (·.2)) t w c el)) := by
  refine ⟨fun pins s σ H Q I h => ?_⟩
  refine wpAny_Call_Name_kw (ld_blt I hg hm hv ?_ hn hdb)
  refine PyProof.Rows.callWith_builtin1 ?_ he hpl
  rw [he]
  show wpAny _ _ (spliced ((false, eval (.GeneratorExp elt [⟨tg, iter, ifs, 0⟩] scope gpos) X.env) :: backTo pos (starEach [] X.env))) _ _ s
  refine Calls.spliced_cons (gx_make (R := fun H1 C => ∃ a go, C = qnCon st a go fun b H => Q (.bl b) H) G.hd G.hc G.nd G.tb G.code G.ok B.hi B.hg B.ht B.he B.hs I ?_ fun u s' hm => Calls.spliced_nil ?_)
  · obtain ⟨W, e, s1, re, rp, q⟩ := h
    refine ⟨W, e, s1, re, rp, q.bind fun W1 H1 src J s2 l fr rp1 so q1 => ⟨rp1.tab.tg P G.tg, fun H2 C ht ⟨a, go, hC⟩ => ?_⟩⟩
    obtain ⟨f2, rp2⟩ := rp1.tabbed G.tg G.tl ht
    exact qn_turns B.htt hC so (re.mono l) rp2 (Post.re (Wd.le.refl W1) f2 q1)
  · exact call_qn_gx hm (hr.mono (by omega)) I.ok.frames fun H1 a go => ⟨a, go, rfl⟩
def finT : List Z.D → Sto → R Z.D := fun ds s => R.of (mkT ds s)
def finSum : List Z.D → Sto → R Z.D := fun ds s => match intsOf ds with
  | some ns => .ok (.int ns.sum) s
  | none => .bad
theorem pe_tupleG {nm : Str} (G : GxH X p cc P scope own) (B : GxE X p WX k scope own tg iter elt ifs t w c tt el) (hr : Room (k + 3) X.A) (hg : Gl X nm) (hm : X.mg nm = none) (hv : bootBuiltins nm = some (.type "tuple")) (hn : nm ≠ "__name__") (hdb : (nm == ("__debug__" : Str)) = false)
    (he : starEach [.GeneratorExp elt [⟨tg, iter, ifs, 0⟩] scope gpos] X.env = (false, eval (.GeneratorExp elt [⟨tg, iter, ifs, 0⟩] scope gpos) X.env) :: starEach [] X.env) (hpl : (backTo pos (starEach [] X.env)).any (·.1) = false) :
    PE X (.Call (.Name nm pp) [.GeneratorExp elt [⟨tg, iter, ifs, 0⟩] scope gpos] [] pos) (tE p WX (mGx okAny finT (own.map (·.2)) t w c el)) := by
  refine ⟨fun pins s σ H Q I h => ?_⟩
  refine wpAny_Call_Name_kw (ld_blt I hg hm hv ?_ hn hdb)
  refine PyProof.Rows.callWith_type1 ?_ he hpl
  rw [he]
  show wpAny _ _ (spliced ((false, eval (.GeneratorExp elt [⟨tg, iter, ifs, 0⟩] scope gpos) X.env) :: backTo pos (starEach [] X.env))) _ _ s
  refine Calls.spliced_cons (gx_make (R := fun H1 C => ∃ S, C = lstCon S fun ys H => ∀ t, H t = none → Q (.ref t) (upd H t (.tup ys))) G.hd G.hc G.nd G.tb G.code G.ok B.hi B.hg B.ht B.he B.hs I ?_ fun u s' hm => Calls.spliced_nil ?_)
  · exact t_gx (mkC := lstCon) G.tg G.tl B.htt (fun S done => ⟨fun _ _ _ _ _ _ _ => trivial⟩) (fun _ _ => rfl) _ (fun W' s' H' ds ys rp rds q t hn => mkT_ok rp q.of rds hn) h
  · exact call_tuple_gx hm (hr.mono (by omega)) I.ok.frames fun H1 S _ => ⟨S, rfl⟩
theorem pe_sumG {nm : Str} (G : GxH X p cc P scope own) (B : GxE X p WX k scope own tg iter elt ifs t w c tt el) (hr : Room (k + 3) X.A) (hg : Gl X nm) (hm : X.mg nm = none) (hv : bootBuiltins nm = some (.builtin "sum")) (hn : nm ≠ "__name__") (hdb : (nm == ("__debug__" : Str)) = false)
    (he : starEach [.GeneratorExp elt [⟨tg, iter, ifs, 0⟩] scope gpos] X.env = (false, eval (.GeneratorExp elt [⟨tg, iter, ifs, 0⟩] scope gpos) X.env) :: starEach [] X.env) (hpl : (backTo pos (starEach [] X.env)).any (·.1) = false) :
    PE X (.Call (.Name nm pp) [.GeneratorExp elt [⟨tg, iter, ifs, 0⟩] scope gpos] [] pos) (tE p WX (mGx okInt finSum (own.map (·.2)) t w c el)) := by
  refine ⟨fun pins s σ H Q I h => ?_⟩
  refine wpAny_Call_Name_kw (ld_blt I hg hm hv ?_ hn hdb)
  refine PyProof.Rows.callWith_builtin1 ?_ he hpl
  rw [he]
  show wpAny _ _ (spliced ((false, eval (.GeneratorExp elt [⟨tg, iter, ifs, 0⟩] scope gpos) X.env) :: backTo pos (starEach [] X.env))) _ _ s
  refine Calls.spliced_cons (gx_make (R := fun H1 C => ∃ S, C = sumCon S fun ys H => ∀ ns : List Int, ys = ns.map V.int → Q (.int ns.sum) H) G.hd G.hc G.nd G.tb G.code G.ok B.hi B.hg B.ht B.he B.hs I ?_ fun u s' hm => Calls.spliced_nil ?_)
  · refine t_gx (mkC := sumCon) G.tg G.tl B.htt (fun S done => ⟨fun W d v ys H hok rv => ?_⟩) (fun _ _ => rfl) _ (fun W' s' H' ds ys rp rds q ns hys => ?_) h
    · cases d with
      | int i => exact ⟨i, relD_int rv⟩
      | _ => cases hok
    · unfold finSum at q
      split at q
      · rename_i ns' hn'
        have e := intsOf_rel hn' rds
        rw [hys] at e
        have e2 : ns = ns' := List.map_inj_right (fun a b h => by cases h; rfl) |>.mp e
        subst e2
        exact q.same rp rel_int
      · exact q.elim
  · exact call_sum_gx hm (hr.mono (by omega)) I.ok.frames fun H1 S _ => ⟨S, rfl⟩
end
end
end Z

set_option Elab.async false
set_option linter.all false
set_option maxRecDepth 100000
set_option maxHeartbeats 2000000
/-! Z20: lambdas that capture nothing. -/
namespace Z
open PySem PySem.Spec PyProof.Rows L2
/-- no parameter, no name but globals -/
structure LamG (li : LamI) : Prop where
  kind : li.scope.kind = .function
  co : li.scope.isCoroutine = false
  gen : li.scope.isGenerator = false
  own : ∀ y ∈ li.scope.names, y.2 ≠ .local ∧ y.2 ≠ .cell ∧ y.2 ≠ .free
  bind : li.params = ⟨[], [], none, [], [], none, []⟩
def noArgs : Arguments → Bool
  | ⟨[], [], none, [], [], none, []⟩ => true
  | _ => false
theorem noArgs_iff {a : Arguments} (h : noArgs a = true) : a = ⟨[], [], none, [], [], none, []⟩ := by
  unfold noArgs at h
  split at h
  · rfl
  · cases h
def lamGB (li : LamI) : Bool := decide (li.scope.kind = .function) && !li.scope.isCoroutine && !li.scope.isGenerator && (li.scope.names.all fun y => !decide (y.2 = .local) && !decide (y.2 = .cell) && !decide (y.2 = .free)) && noArgs li.params
theorem lamG_by {li : LamI} (h : lamGB li = true) : LamG li := by
  unfold lamGB at h
  simp only [Bool.and_eq_true, Bool.not_eq_true', decide_eq_true_eq, decide_eq_false_iff_not, List.all_eq_true] at h
  obtain ⟨⟨⟨⟨h1, h2⟩, h3⟩, h4⟩, h5⟩ := h
  exact ⟨h1, h2, h3, fun y hy => ⟨(h4 y hy).1.1, (h4 y hy).1.2, (h4 y hy).2⟩, noArgs_iff h5⟩
def mLam (li : LamI) : ME := fun _ s => .ok (.lam li) s
/-- the context of its body -/
abbrev lamE (li : LamI) (L f c' : Addr) : PySem.Env := PySem.W.envX li.qual li.scope L f (.ref c') []
def lamX (X : Cx) (A : Around) (outer : List PySem.Env) (s : Shared) (H : Hp) (E : XK) (li : LamI) (f c' : Addr) : Cx where
  prog := X.prog
  w := X.w
  K := X.K
  mg := X.mg
  base := X.base
  A := A.deeper (lamE li s.heap.objs.size f c')
  N := []
  s_0 := s
  H_0 := H
  env := lamE li s.heap.objs.size f c'
  outer := outer
  stack := lamE li s.heap.objs.size f c' :: outer
  ex := []
  fn := fun _ => false
  calm := true
  pn := []
  xe := fun e s' => wpAny (model X.prog X.w) (A.deeper (lamE li s.heap.objs.size f c')) (leaving (lamE li s.heap.objs.size f c') e) (fun _ s'' => L2.CX X.prog X.w outer H s E e s'') (fun e' s'' => L2.CX X.prog X.w outer H s E e' s'') s'
section
variable {X : Cx} {p : Pl} {WX : L2.WX} {pins : List (Addr × Obj)} {σ : L2.St} {H HZ : Hp} {s s1 : Shared}
theorem lamX_start {A : Around} {outer : List PySem.Env} {E : XK} {li : LamI} {f c' : Addr} {h₁ : Heap} {tk : Nat} {m : Str → Option Value} (L : LamG li) (e0 : Env0 X.prog X.w X.K X.mg X.base A outer s1 HZ) (hd : A.handled = none)
    (hns : h₁.Ns s1.heap.objs.size m) (kp : ∀ b o, s1.heap.get? b = some o → h₁.get? b = some o) : Inv (lamX X A outer s1 HZ E li f c') [] [] HZ { s1 with heap := h₁, toks := tk } := by
  have noC : ∀ {y : Str} {c : Addr}, (lamX X A outer s1 HZ E li f c').env.cells.lookup y = some c → False := fun {y c} h => by
    have h : ([] : List (Str × Addr)).lookup y = some c := h
    cases h
  have noA : ∀ b : Addr, b ∉ (lamX X A outer s1 HZ E li f c').ex := fun b z => absurd (show b ∈ ([] : List Addr) from z) (by simp)
  refine ⟨⟨e0.mod, L.kind, rfl, rfl, Nat.le_refl _, fun y z c e1 _ => (noC e1).elim, fun y hy => ?_, fun y c z _ => ?_, fun _ => hd, Around.frames_deeper e0.frames, .inr ⟨rfl, rfl⟩, fun b z => absurd z (noA b), e0.bs, e0.bsz, fun b _ _ => noA b, fun b z => absurd z (noA b), e0.funs, e0.frf⟩,
    rfl, e0.bare, Un.kept kp, ⟨m, hns, fun i y v e1 _ _ => ?_⟩, fun y c e => (noC e).elim, e0.hok.fresh (Nat.le_refl _), fun y c e => (noC e).elim, fun q hq => absurd (show q ∈ ([] : List (Addr × Obj)) ++ [] from hq) (by simp), e0.hok.kept kp, rfl⟩
  · have hy : li.scope.names.lookup y = some .cell ∨ li.scope.names.lookup y = some .free := hy
    rcases hy with hy | hy
    · exact absurd rfl (L.own _ (PySem.mem_of_lookup hy)).2.1
    · exact absurd rfl (L.own _ (PySem.mem_of_lookup hy)).2.2
  · have z : false = true := z
    cases z
  · have e1 : ([] : List Str)[i]? = some y := e1
    simp at e1
theorem takes_lamX {A : Around} {outer : List PySem.Env} {E : XK} {li : LamI} {f c' : Addr} : Takes (lamX X A outer s HZ E li f c') (fun cls d _ H => E cls d H) := takes_of rfl rfl rfl rfl
/-- what all lambdas of a level keep -/
def LamsOk (X : Cx) (p : Pl) (k : Nat) (F : LamI → Sto → R Z.D) : Prop := ∀ (li : LamI) (A : Around) (outer : List PySem.Env) (s : Shared) (H : Hp) (E : XK) (f c' : Addr), LamG li → Room k (A.deeper (lamE li s.heap.objs.size f c')) →
  PE (lamX X A outer s H E li f c') li.body (tE p (fun cls d _ H => E cls d H) fun _ st => F li st)
/-- x() of a lambda in the slot i -/
def mLamCall (i : Nat) (F : LamI → Sto → R Z.D) : ME := fun e s => (mVar i e s).bind fun d s1 => match d with
  | .lam li => if lamGB li then F li s1 else .bad
  | _ => .bad
theorem codeO_at {P : Program} {w : World} {h : Heap} {c : Addr} {q : Str} (hok : HOk P w H h) (hc : H c = some (LamX.CodeO c q)) : ∃ (oc : Obj) (vs : Array Value) (t : Tok), h.get? c = some oc ∧ oc.data = .fields vs ∧ vs[1]? = some (.str q t) := (hok c _ hc).1
theorem r_lamCall {F : LamI → Sto → R Z.D} {k i : Nat} {a : Str} {p1 p2 : Pos} (hK : p.K = X.K) (tk : Takes X WX) (hF : LamsOk X p k F) (hr : Room (k + 1) X.A) (hN : X.N[i]? = some a) (hv : Vis X.env.scope a) (hd : (a == ("__debug__" : Str)) = false) (hcd : (a == ("__classdict__" : Str)) = false) :
    PE X (.Call (.Name a p1) [] [] p2) (tE p WX (mLamCall i F)) := by
  refine ⟨fun pins s σ H Q I ⟨W, e, st, re, rp, q⟩ => ?_⟩
  have hvar : PE X (.Name a p1) (tE p WX (mVar i)) := r_var hN hv hd hcd
  refine wpAny_Call_Name_kw (thn (hvar.run pins s σ H (fun v H1 => ∃ li f c' pm ctv, lamGB li = true ∧ v = .ref f ∧ H1 f = some (LamO f li c' pm ctv) ∧ H1 c' = some (LamX.CodeO c' li.qual) ∧ ∃ W e st, RelE p W e σ ∧ Rep p W st H1 ∧ Post p (RelD p.K) W H1 (exW p WX σ) Q (F li st)) I ⟨W, e, st, re, rp, ?_⟩) fun u s1 h1 => ?_)
  · unfold mLamCall at q
    refine q.bind fun W1 H1 d v s1 l fr rp1 rv q1 => ?_
    cases d with
    | lam li =>
      have q2 : Post p (RelD p.K) W1 H1 (exW p WX σ) Q (if lamGB li then F li s1 else .bad) := q1
      split at q2
      · rename_i hg
        unfold RelD at rv
        obtain ⟨f, c', pm, ctv, rfl, h2, h3⟩ := rv
        exact ⟨li, f, c', pm, ctv, hg, rfl, rp1.fz _ _ h2, rp1.fz _ _ h3, W1, e, s1, re.mono l, rp1, q2⟩
      · exact q2.elim
    | _ => exact q1.elim
  · obtain ⟨v, H1, I1, r1, li, f, c', pm, ctv, hg, rfl, hf, hc, W1, e1, st1, re1, rp1, q1⟩ := h1
    obtain rfl : u = Value.ref f := r1
    have L := lamG_by hg
    have of1 : s1.heap.get? f = some (PySem.W.kla_obj "<lambda>" li.qual li.params li.body li.scope [] pm c' ctv) := (I1.hok f _ hf).1
    refine PySem.W.callWith_F0 ⟨_, _, _, _, of1⟩ ?_
    obtain ⟨oc, vs, t, hoc, hdc, hvc⟩ := codeO_at I1.hok hc
    have rc : codeAny (model X.prog X.w) X.A (.call (.ref f) ⟨[], []⟩) (CR (L2.CX X.prog X.w) X.stack X.prog X.w H1 s1 Q (WE WX σ)) s1 := by
      refine PySem.W.kla_callFunE hr.depth of1 rfl L.co L.gen rfl ⟨c', oc, vs, t, rfl, hoc, hdc, hvc⟩ ?_
      rw [show bindArgs (PySem.W.kla_fn "<lambda>" li.qual li.params li.body li.scope [] pm (.ref c') ctv) ⟨[], []⟩ = pure [] by rw [L.bind]; rfl]
      refine wpAny_pure (wpAny_newFunctionEnv (fun y hy => (L.own y hy).2.1) (fun y hy => absurd hy (by simp)) (fun h₁ hns hsb => ⟨I1.nolimit.fresh _ hsb, ?_⟩) L.kind)
      show codeAny _ _ (.expr li.body (lamE li s1.heap.objs.size f c')) _ _
      have kp : ∀ b o, s1.heap.get? b = some o → h₁.get? b = some o := fun b o e => hsb.extBut b o (Nat.ne_of_lt (Heap.lt_size e)) (Heap.get?_push_of_some _ e)
      have J : Inv (lamX X X.A X.stack s1 H1 (WE WX σ) li f c') [] [] H1 { s1 with heap := h₁, toks := s1.toks + ([] : List (Str × Value)).length } := lamX_start L I1.env0 hr.hd hns kp
      refine PySem.W.kla_codeExpr (wpAny_mono ((hF li X.A X.stack s1 H1 (WE WX σ) f c' L (hr.deeper _)).run [] _ _ H1 Q J ⟨W1, [], st1, ⟨rfl, fun i d h => by simp at h⟩, rp1, q1⟩) (fun v s' hq => ?_) fun e s' hq => hq)
      obtain ⟨w', H', J', rv, q⟩ := hq
      exact ⟨w', H', J'.os, J'.bare, J'.base, J'.hok, rv, q⟩
    refine wpAny_call (codeAny_mono rc fun r s' hq => ?_)
    cases r with
    | error e => exact passAt tk σ pins H1 s1 e s' I1 hq
    | ok fl =>
      cases fl with
      | ret u => exact I1.after hq
      | next => exact False.elim hq
      | brk => exact False.elim hq
      | cont => exact False.elim hq
end
end Z

set_option Elab.async false
set_option linter.all false
set_option maxRecDepth 100000
set_option maxHeartbeats 2000000
/-! Z21: lambdas are made. -/
namespace Z
open PySem PySem.Spec PyProof.Rows L2
section
variable {X : Cx} {p : Pl} {WX : L2.WX} {pins : List (Addr × Obj)} {σ : L2.St} {H HZ : Hp} {s s1 : Shared} {W : Wd}
theorem lamO_ok {P : Program} {w : World} {H : Hp} {h : Heap} {f c' : Addr} {li : LamI} {pm ctv : Value} (hf : h.get? f = some (PySem.W.kla_obj "<lambda>" li.qual li.params li.body li.scope [] pm c' ctv)) : ObjOk P w H h f (LamO f li c' pm ctv) :=
  ⟨hf, ⟨_, hf⟩, fun h1 h2 e k => k _ e⟩
/-- what is newly known for good: the code object, the lambda -/
theorem rep_lam {st : Sto} {f c' : Addr} {li : LamI} {pm ctv : Value} {H1 : Hp} (rp : Rep p W st H1) (hc : H1 c' = some (LamX.CodeO c' li.qual)) (hf : H1 f = none) :
    ∃ W', W.le W' ∧ Fr W W' H1 (upd H1 f (LamO f li c' pm ctv)) ∧ Rep p W' st (upd H1 f (LamO f li c' pm ctv)) ∧ RelD p.K W' (.lam li) (.ref f) := by
  obtain ⟨W1, l1, f1, r1, e1⟩ := rp.fresh (o := LamO f li c' pm ctv) hf (fun ps z => by cases z)
  have hcf : c' ≠ f := ne_of_none hc hf
  have hc1 : upd H1 f (LamO f li c' pm ctv) c' = some (LamX.CodeO c' li.qual) := by rw [upd_ne hcf]; exact hc
  have eqz : ∀ x, W1.fz c' = some x → x = LamX.CodeO c' li.qual := fun x e => by
    have q := r1.fz c' x e
    rw [hc1] at q
    exact (Option.some.inj q).symm
  have l2 : W1.le ⟨upd W1.fz c' (LamX.CodeO c' li.qual), W1.io⟩ := ⟨fun b x e => by
    show upd W1.fz c' _ b = some x
    by_cases z : b = c'
    · rw [z] at e ⊢; rw [upd_same, eqz x e]
    · rw [upd_ne z]; exact e, [], by simp⟩
  have notSt : ∀ b, W1.fz b = none → upd W1.fz c' (LamX.CodeO c' li.qual) b ≠ none → b = c' := fun b e1 e2 => by
    by_cases z : b = c'
    · exact z
    · rw [upd_ne z] at e2; exact absurd e1 e2
  refine ⟨⟨upd W1.fz c' (LamX.CodeO c' li.qual), W1.io⟩, l1.trans l2, ⟨f1.keep, f1.sm, fun a ha => ?_, f1.io⟩, ⟨r1.tab, fun b x e => ?_, fun b ps e => ?_, r1.len, r1.nd, r1.tr, fun k ob b q1 q2 => ?_⟩, ?_⟩
  · by_cases z : a = c'
    · rw [z]; exact .inr (.inr (.inr ⟨_, hc, rfl⟩))
    · have ha' : upd W1.fz c' (LamX.CodeO c' li.qual) a ≠ none := ha
      rw [upd_ne z] at ha'
      exact f1.new a ha'
  · have e' : upd W1.fz c' (LamX.CodeO c' li.qual) b = some x := e
    by_cases z : b = c'
    · rw [z, upd_same] at e'
      cases e'
      rw [z]; exact hc1
    · rw [upd_ne z] at e'; exact r1.fz b x e'
  · have e' : upd W1.fz c' (LamX.CodeO c' li.qual) b = some (.tbl ps) := e
    by_cases z : b = c'
    · rw [z, upd_same] at e'
      cases e'
    · rw [upd_ne z] at e'; exact r1.nt b ps e'
  · have q := r1.obs k ob b q1 q2
    have nz : ∀ o : HO, upd H1 f (LamO f li c' pm ctv) b = some o → isSt o = true → W1.fz b = none → upd W1.fz c' (LamX.CodeO c' li.qual) b = none := fun o ho hs hz => by
      by_cases z : b = c'
      · rw [z, hc1] at ho
        cases ho
        cases hs
      · rw [upd_ne z]; exact hz
    cases ob with
    | dead => trivial
    | lst ds =>
      obtain ⟨_, vs, h1, _⟩ := id q
      exact q.keep l2 rfl (nz _ h1 rfl)
    | dct kvs =>
      obtain ⟨_, vs, h1, _⟩ := id q
      exact q.keep l2 rfl (nz _ h1 rfl)
    | ins c fs =>
      obtain ⟨_, dx, vs, h1, _⟩ := id q
      exact q.keep l2 rfl (nz _ h1 rfl)
  · unfold RelD
    exact ⟨f, c', pm, ctv, rfl, l2.fz _ _ e1, upd_same⟩
/-- a table of code objects of lambdas has grown -/
theorem rep_table {st : Sto} {P c' : Addr} {ps more : Array Value} {q : Str} (rp : Rep p W st H) (hP : H P = some (.tbl ps)) (n : H c' = none) (ht : LamX.Tabs p.tl (upd (upd H P (.tbl (ps ++ more))) c' (LamX.CodeO c' q))) (hg : ∀ b ∈ p.tg, b ≠ P) :
    Fr W W H (upd (upd H P (.tbl (ps ++ more))) c' (LamX.CodeO c' q)) ∧ Rep p W st (upd (upd H P (.tbl (ps ++ more))) c' (LamX.CodeO c' q)) := by
  have ke : ∀ b o, H b = some o → (∀ ps, o ≠ .tbl ps) → upd (upd H P (.tbl (ps ++ more))) c' (LamX.CodeO c' q) b = some o := fun b o e nt => by
    rw [upd_ne (ne_of_none e n), upd_ne (fun z => by rw [z, hP] at e; exact nt ps (Option.some.inj e).symm)]
    exact e
  have sm : ∀ b, H b ≠ none → upd (upd H P (.tbl (ps ++ more))) c' (LamX.CodeO c' q) b ≠ none := fun b hb => by
    by_cases z : b = c'
    · rw [z] at hb; exact absurd n hb
    · rw [upd_ne z]
      by_cases z2 : b = P
      · rw [z2, upd_same]; simp
      · rw [upd_ne z2]; exact hb
  refine ⟨⟨fun b o e _ nt => ke b o e nt, sm, fun a h => .inl h, fun a h => .inl h⟩, ⟨⟨ht, fun b hb => ?_⟩, fun a o e => ke a o (rp.fz a o e) fun ps z => rp.nt a ps (by rw [e, z]), rp.nt, rp.len, rp.nd, fun b hb => sm b (rp.tr b hb), fun k ob b q1 q2 => ?_⟩⟩
  · obtain ⟨qs, a1, a2⟩ := rp.tab.tg b hb
    exact ⟨qs, by rw [upd_ne (ne_of_none a1 n), upd_ne (hg b hb)]; exact a1, a2⟩
  · have q := rp.obs k ob b q1 q2
    cases ob with
    | dead => trivial
    | lst ds =>
      obtain ⟨z, vs, b1, b2⟩ := q
      exact ⟨z, vs, ke _ _ b1 (fun ps z => by cases z), b2⟩
    | dct kvs =>
      obtain ⟨z, vs, b1, b2⟩ := q
      exact ⟨z, vs, ke _ _ b1 (fun ps z => by cases z), b2⟩
    | ins c fs =>
      obtain ⟨z, dx, vs, b1, b2⟩ := q
      exact ⟨z, dx, vs, ke _ _ b1 (fun ps z => by cases z), b2⟩
theorem r_lamMk {li : LamI} {c P : Addr} {pos : Pos} (TB : LamX.TabB X.base X.mg c P) (hcode : X.env.code = .ref c) (hm : (P, li.qual) ∈ p.tl) (hu : ∀ q ∈ p.tl, q.1 = P → q.2 = li.qual) (hg : ∀ b ∈ p.tg, b ≠ P) (hq : li.qual = X.env.qual ++ "<lambda>") (hdef : defaultsOf li.params X.env = ([], []))
    (hfree : ∀ y ∈ li.scope.names, y.2 ≠ .free) (hcl : ∀ cells : List (Str × Addr), cloFrom cells li.scope.names [] = []) : PE X (.Lambda li.params li.body li.scope pos) (tE p WX (mLam li)) := by
  refine ⟨fun pins s σ H Q I ⟨W, e, st, re, rp, q⟩ => ?_⟩
  obtain ⟨ps, hP, ht, ha⟩ := rp.tab.tl _ hm
  have hP : H P = some (.tbl ps) := hP
  refine PySem.W.kla_eval hdef ?_
  rw [← hq]
  have bP : s.heap.BuiltinsAt X.mg P := TB.bm.keeps I.bk
  have hP' : s.heap.get? P = some { cls := .none, data := .fields ps } := I.hok P _ hP
  have hclos : closureFor li.scope X.env = pure [] := by
    rw [closure_ok fun y hy z => absurd z (hfree y hy), hcl]
  cases hc : codeAmong pos ps.toList with
  | none =>
    refine PySem.W.kla_makeFunction (mg := X.mg) (c := c) (P := P) (ps := ps) hclos I.ok.glob (I.mod.glob.keeps I.bk) hcode (TB.code.keeps I.bk) hP' ht hc TB.gP bP fun c' ctv h' tk hx hge hlt hrec htb => ?_
    obtain ⟨c2, oc, vs, t, e2, hoc, hd, hv⟩ := hrec
    cases e2
    have hsz : s.heap.objs.size ≤ h'.objs.size := Nat.le_trans hge (Nat.le_of_lt hlt)
    have nC : H c' = none := I.hok.fresh hge
    have I1 := LamX.inv_table (q := li.qual) (t' := tk) (more := #[rawInt pos.line, rawInt pos.col, .ref c']) (h' := h') I hP (fun b o hb e => hx b o hb e) htb hge ⟨oc, vs, t, hoc, hd, hv⟩
    have eL : (ps ++ #[rawInt pos.line, rawInt pos.col, .ref c']).toList = ps.toList ++ [rawInt pos.line, rawInt pos.col, .ref c'] := by simp
    have ht1 : LamX.Tabs p.tl (upd (upd H P (.tbl (ps ++ #[rawInt pos.line, rawInt pos.col, .ref c']))) c' (LamX.CodeO c' li.qual)) := fun q hq => by
      by_cases hb : q.1 = P
      · rw [hu q hq hb, hb]
        refine ⟨_, by rw [upd_ne (ne_of_none hP nC), upd_same], by rw [eL]; exact PySem.TriplesOk_snoc _ _ _ _ ht, fun p' cv hcv => ?_⟩
        rw [eL] at hcv
        rcases LamX.among_app _ ht hcv with z | z
        · obtain ⟨c0, e1, e2⟩ := ha p' cv z
          exact ⟨c0, e1, by rw [upd_ne (ne_of_none e2 nC), upd_ne (fun z => by rw [z, hP] at e2; exact LamX.codeO_ne ps (Option.some.inj e2).symm)]; exact e2⟩
        · exact ⟨c', z, upd_same⟩
      · obtain ⟨ps', a1, a2, a3⟩ := rp.tab.tl q hq
        refine ⟨ps', by rw [upd_ne (ne_of_none a1 nC), upd_ne hb]; exact a1, a2, fun p' cv hcv => ?_⟩
        obtain ⟨c0, e1, e2⟩ := a3 p' cv hcv
        exact ⟨c0, e1, by rw [upd_ne (ne_of_none e2 nC), upd_ne (fun z => by rw [z, hP] at e2; exact LamX.codeO_ne ps (Option.some.inj e2).symm)]; exact e2⟩
    obtain ⟨f1, rp1⟩ := rep_table (more := #[rawInt pos.line, rawInt pos.col, .ref c']) (q := li.qual) rp hP nC ht1 hg
    have nf : upd (upd H P (.tbl (ps ++ #[rawInt pos.line, rawInt pos.col, .ref c']))) c' (LamX.CodeO c' li.qual) h'.objs.size = none := I1.hok.fresh (Nat.le_refl _)
    have hf : (h'.push (PySem.W.kla_obj "<lambda>" li.qual li.params li.body li.scope [] ((X.mg "__name__").getD .none) c' ctv)).get? h'.objs.size = some (PySem.W.kla_obj "<lambda>" li.qual li.params li.body li.scope [] ((X.mg "__name__").getD .none) c' ctv) := Heap.get?_push_size _ rfl
    obtain ⟨W', l', f2, rp2, rv⟩ := rep_lam (li := li) (pm := (X.mg "__name__").getD .none) (ctv := ctv) rp1 upd_same nf
    exact ⟨.ref h'.objs.size, _, I1.laid (t' := tk) (fun b o e => Heap.get?_push_of_some _ e) (Nat.le_refl _) (lamO_ok hf), rfl, q W' _ _ l' (f1.trans f2) rp2 rv⟩
  | some cv =>
    obtain ⟨c', e1, hco⟩ := ha pos cv hc
    subst e1
    refine PySem.W.kla_makeFunctionHit (mg := X.mg) (c := c) (P := P) (ps := ps) hclos I.ok.glob (I.mod.glob.keeps I.bk) hcode (TB.code.keeps I.bk) hP' ht hc bP fun ctv h' tk hx hsz => ?_
    have I1 : Inv X pins σ H { s with heap := h', toks := tk } := I.kept hx
    have nf : H h'.objs.size = none := I.hok.fresh hsz
    have hf : (h'.push (PySem.W.kla_obj "<lambda>" li.qual li.params li.body li.scope [] ((X.mg "__name__").getD .none) c' ctv)).get? h'.objs.size = some (PySem.W.kla_obj "<lambda>" li.qual li.params li.body li.scope [] ((X.mg "__name__").getD .none) c' ctv) := Heap.get?_push_size _ rfl
    obtain ⟨W', l', f2, rp2, rv⟩ := rep_lam (li := li) (pm := (X.mg "__name__").getD .none) (ctv := ctv) rp hco nf
    exact ⟨.ref h'.objs.size, _, I1.laid (t' := tk) (fun b o e => Heap.get?_push_of_some _ e) (Nat.le_refl _) (lamO_ok hf), rfl, q W' _ _ l' f2 rp2 rv⟩
end
end Z

set_option Elab.async false
set_option linter.all false
set_option maxRecDepth 100000
set_option maxHeartbeats 1000000
/-! Z22: enumerate. -/
namespace Z
open PySem PySem.Spec PyProof.Rows L2
section
variable {prog : Program} {w : World} {A : Around} {E : Value → Shared → Prop} {s : Shared}
theorem nextOf_endS {it : Addr} {x : Str} {t : Tok} {i : Nat} {Q : Value → Shared → Prop} (hh : A.handled = none) (hit : s.heap.IsStrIter it (strIterType x) x t i) (hx : x.cps[i]? = none)
    (hE : ∀ h' e, Heap.ExtBut it s.heap h' → (∃ o, h'.get? e = some o ∧ o.cls = .type "StopIteration") → E (.ref e) { s with heap := h' }) : wpAny (model prog w) A (Builtin.SmallTypes.nextOf (.ref it)) Q E s := by
  unfold strIterType at hit
  split at hit
  · exact wpAny_nextOf_ascii_end hh hit hx hE
  · exact wpAny_nextOf_wide_end hh hit hx hE
theorem enum_endS {e it : Addr} {x : Str} {t : Tok} {i : Nat} {c : Int} {old : Value} {Q : Option Value → Shared → Prop} (hh : A.handled = none) (he : IsEnum s.heap e it c old) (hit : s.heap.IsStrIter it (strIterType x) x t i) (hx : x.cps[i]? = none)
    (hQ : ∀ h', Heap.ExtBut it s.heap h' → Q none { s with heap := h' }) : wpAny (model prog w) A (pyNext (.ref e)) Q E s := by
  have hT : s.TypeIs (.ref e) "enumerate" := ⟨_, he, rfl⟩
  unfold pyNext
  refine wpAny_bind (wpAny_attempt (wpAny_callSpecial?_slot (name := Str.ofString "__next__") hT F.slot_enumerate_next
    (wpAny_call_entry F.slot_enumerate_next hT F.entry_enumerate_next ?_ (F.args_enumerate_next_1 _))))
  show wpAny _ _ (field (.ref e) 2 >>= _) _ _ _
  refine wpAny_bind (wpAny_field he rfl (x := .ref it) rfl ?_)
  refine wpAny_bind (nextOf_endS (A := A.in1) hh hit hx fun h' x he' hx' => ?_)
  obtain ⟨o, ho, hc⟩ := hx'
  refine wpAny_bind (wpAny_isInstance (T := "StopIteration") (b := true) ⟨o, ho, hc⟩ isSubtype_stop ?_)
  exact wpAny_pure (hQ _ he')
end
/-- the signs of a text, counted, in new pairs -/
def ItE (x : Str) : It := ⟨fun i _ => i < x.cps.size, fun i H v H' => ∃ T c, v = .ref T ∧ H T = none ∧ H' = upd H T (.tup [.int (i : Nat), .str ⟨#[c]⟩]) ∧ x.cps[i]? = some c, fun i _ => x.cps.size ≤ i⟩
theorem turn_enumS {P : Program} {w : World} {K : PySem.W.Frag} {elts : List Expr} {kk : Nat} {tpos : Pos} (x : Str) (t : Tok) (e it : Addr) :
    Turn P w K (.Tuple elts kk tpos) (ItE x) [e, it] e (fun i h => (∃ old, IsEnum h e it ((i : Nat) : Int) old) ∧ h.IsStrIter it (strIterType x) x t i ∧ e ≠ it) where
  mem := by simp
  obj := fun i h st b hb => by
    obtain ⟨⟨old, he⟩, ⟨o, ho, hc, hd⟩, _⟩ := st
    have e' : b = e ∨ b = it := by simpa using hb
    rcases e' with z | z
    · rw [z]; exact ⟨_, he, fun v q => nomatch q⟩
    · rw [z]; exact ⟨o, ho, fun v q => by rw [hd] at q; cases q⟩
  keep := fun i h h' st k => let ⟨⟨old, he⟩, ⟨o, ho, r⟩, hne⟩ := st; ⟨⟨old, k e (by simp) _ he⟩, ⟨o, k it (by simp) o ho, r⟩, hne⟩
  item := by
    intro X hP hw hK hc i pins s σ H E I hf st hg
    subst hP hw hK
    obtain ⟨⟨old, he⟩, hit, hne⟩ := st
    have hel : e < s.heap.objs.size := Heap.lt_size he
    have hil : it < s.heap.objs.size := by obtain ⟨_, q, _⟩ := hit; exact Heap.lt_size q
    refine wpAny_pyNext_enum_itemD (Draws.text (prog := X.prog) (w := X.w) (A := X.A.in1) (I.ok.hd hc) it x t) he hit hg hne (by simpa using hne) fun u h' tk hu ho hit' hT hsz hk => ?_
    obtain ⟨c, tu, hx, rfl⟩ := hu
    refine ⟨_, rfl, wpAny_letOwnedTupleGo_enum (s := { s with heap := h', toks := tk + 1 }) ho fun h'' he' sb => ?_⟩
    have hT2 : h''.get? s.heap.objs.size = some { cls := .type "tuple", data := .seq #[.int i tk, .str ⟨#[c]⟩ tu] } := (sb.2 _ (Nat.ne_of_gt hel)).trans hT
    have new : ObjOk X.prog X.w (upd H s.heap.objs.size (.tup [.int (i : Nat), .str ⟨#[c]⟩])) h'' s.heap.objs.size (.tup [.int (i : Nat), .str ⟨#[c]⟩]) :=
      ⟨by show 2 ≤ sizeLine; decide, [.int i tk, .str ⟨#[c]⟩ tu], .cons ⟨_, rfl⟩ (.cons ⟨_, rfl⟩ .nil), ⟨_, hT2, rfl, _, rfl⟩⟩
    have I1 : Inv X pins σ (upd H s.heap.objs.size (.tup [.int (i : Nat), .str ⟨#[c]⟩])) { s with heap := h'', toks := tk + 1 } :=
      I.turnedNew (ch := [e, it]) (fun b ob hb q => (sb.2 b (fun z => hb (by simp [z]))).trans (hk b ob (fun z => hb (by simp [z])) (fun z => hb (by simp [z])) q)) hf (Nat.le_refl _) new
    refine ⟨.ref s.heap.objs.size, _, I1, rfl, ⟨_, c, rfl, I.hok.fresh (Nat.le_refl _), rfl, hx⟩, ⟨⟨.str ⟨#[c]⟩ tu, ?_⟩, (let ⟨o, ho, r⟩ := hit'; ⟨o, (sb.2 it (Ne.symm hne)).trans ho, r⟩), hne⟩, fun b hb => ?_⟩
    · have e1 : ((i + 1 : Nat) : Int) = (i : Int) + 1 := by omega
      rw [e1]; exact he'
    · have hb' : b < s.heap.objs.size := by
        have e' : b = e ∨ b = it := by simpa using hb
        rcases e' with z | z
        · rw [z]; exact hel
        · rw [z]; exact hil
      rw [upd_ne (Nat.ne_of_lt hb')]
      exact (hf b hb).1
  done := by
    intro X hP hw hK hc i pins s σ H E I hf st hg
    subst hP hw hK
    obtain ⟨⟨old, he⟩, hit, hne⟩ := st
    have hx : x.cps[i]? = none := Array.getElem?_eq_none hg
    refine enum_endS (I.ok.hd hc) he hit hx fun h' eb => ⟨rfl, I.turnedL (t' := s.toks) (ch := [e, it]) (fun b o hb q => eb b o (fun z => hb (by simp [z])) q) hf⟩
  self := fun A i s Q E st h => let ⟨⟨_, he⟩, _⟩ := st; wpAny_pyIter_enum he h
section
variable {X : Cx} {p : Pl} {WX : L2.WX} {W W' : Wd} {H H' : Hp} {s : Sto}
theorem iteS_ok {x : Str} : SrcOk p W (.fix (enumD 0 (x.cps.toList.map fun c => .str ⟨#[c]⟩))) (ItE x) := by
  intro i W' s H l rp
  show match (some ((enumD 0 (x.cps.toList.map fun c => (Z.D.str ⟨#[c]⟩)))[i]?) : Option (Option Z.D)) with | some none => _ | some (some d) => _ | none => True
  rw [enumD_get, List.getElem?_map, Array.getElem?_toList]
  cases e : x.cps[i]? with
  | none => exact Array.getElem?_eq_none_iff.mp e
  | some c =>
    refine ⟨(Array.getElem?_eq_some_iff.mp e).1, fun v H' ⟨T, c', ev, hn, eH, e'⟩ => ?_⟩
    rw [e] at e'
    cases e'
    subst eH
    subst ev
    obtain ⟨W2, l2, f2, r2, e2⟩ := rp.fresh (o := .tup [.int ((i : Nat) : Int), .str ⟨#[c]⟩]) hn (fun ps z => by cases z)
    refine ⟨W2, l2, f2, r2, ?_⟩
    rw [Nat.zero_add]
    exact rel_tup (SqT.of e2) (relDs_cons rel_int (relDs_cons rel_str relDs_nil))
theorem ite_fix {xs : List Z.D} {vs : List V} {a : Addr} (hl : ∀ W' s H, W.le W' → Rep p W' s H → SqL p.K H a vs) (rv : RelDs p.K W xs vs) : SrcOk p W (.fix (enumD 0 xs)) (Ite p.K a) := by
  intro i W' s H l rp
  have h1 := hl W' s H l rp
  show match (some ((enumD 0 xs)[i]?) : Option (Option Z.D)) with | some none => _ | some (some d) => _ | none => True
  rw [enumD_get]
  cases e : xs[i]? with
  | none => exact ⟨vs, h1, by rw [← rv.length]; exact List.getElem?_eq_none_iff.mp e⟩
  | some d =>
    obtain ⟨v, e2, r2⟩ := rv.get e
    refine ⟨⟨vs, v, h1, e2⟩, fun y H' ⟨T, x, ey, hn, eH, hx⟩ => ?_⟩
    subst eH
    subst ey
    have e3 := hx vs h1
    rw [e2] at e3
    cases e3
    obtain ⟨W2, l2, f2, r3, e4⟩ := rp.fresh (o := .tup [.int ((i : Nat) : Int), v]) hn (fun ps z => by cases z)
    refine ⟨W2, l2, f2, r3, ?_⟩
    rw [Nat.zero_add]
    exact rel_tup (SqT.of e4) (relDs_cons rel_int (relDs_cons ((r2.mono l).mono l2) relDs_nil))
theorem ite_liv {n : Nat} {a : Addr} (hn : W.io[n]? = some a) : SrcOk p W (.enu (.liv n)) (Ite p.K a) := by
  intro i W' s H l rp
  show match (((atS n s).map fun xs => xs[i]?).map fun o => o.map fun d => (Z.D.tup [.int ((i : Nat) : Int), d]) : Option (Option Z.D)) with | some none => _ | some (some d) => _ | none => True
  cases e : atS n s with
  | none => trivial
  | some xs =>
    have hs : s[n]? = some (.lst xs) := by
      unfold atS at e
      split at e
      · rename_i ys e2; cases e; exact e2
      · cases e
    obtain ⟨z, vs, h1, rv⟩ := rp.obs n _ a hs (l.at hn)
    show match (some ((xs[i]?).map fun d => (Z.D.tup [.int ((i : Nat) : Int), d])) : Option (Option Z.D)) with | some none => _ | some (some d) => _ | none => True
    cases e2 : xs[i]? with
    | none => exact ⟨vs, SqL.of h1, by rw [← rv.length]; exact List.getElem?_eq_none_iff.mp e2⟩
    | some d =>
      obtain ⟨v, e3, r2⟩ := rv.get e2
      refine ⟨⟨vs, v, SqL.of h1, e3⟩, fun y H' ⟨T, x, ey, hT, eH, hx⟩ => ?_⟩
      subst eH
      subst ey
      have e4 := hx vs (SqL.of h1)
      rw [e3] at e4
      cases e4
      obtain ⟨W2, l2, f2, r3, e5⟩ := rp.fresh (o := .tup [.int ((i : Nat) : Int), v]) hT (fun ps z => by cases z)
      exact ⟨W2, l2, f2, r3, rel_tup (SqT.of e5) (relDs_cons rel_int (relDs_cons (r2.mono l2) relDs_nil))⟩
/-- enumerate of a text -/
theorem pi_enumS {e : Expr} {ta : TA} {pp pos tpos : Pos} {elts : List Expr} {kk : Nat} (hg : Gl X "enumerate") (hm : X.mg "enumerate" = none) (ha : PA X [e] ta) (hs : starEach [e] X.env = [(false, eval e X.env)]) :
    PI X (.Tuple elts kk tpos) (.Call (.Name "enumerate" pp) [e] [] pos) (fun σ H R => ta σ H fun vs H1 => ∃ x, vs = [.str x] ∧ R (ItE x) H1) := by
  refine ⟨fun pins s σ H R I h => ?_⟩
  refine Call_ (ld_blt I hg hm boot_enumerate (PyProof.Rows.callWith_type1 (thn (ha.run pos pins s σ H _ I h) fun us s1 ⟨vs, H1, I1, r1, q1⟩ => ?_) hs rfl))
  obtain ⟨x, ex, q⟩ := q1
  subst ex
  cases r1 with
  | cons r rr =>
    cases rr
    obtain ⟨t, rfl⟩ := r
    refine call_enumerate_str fun h' he hit hsz hk => wpAny_pyIter_enum he ?_
    have I2 : Inv X pins σ H1 { s1 with heap := h' } := I1.kept (t' := s1.toks) hk
    refine ⟨s1.heap.objs.size + 1, [s1.heap.objs.size + 1, s1.heap.objs.size], _, _, H1, rfl, I2, turn_enumS x t (s1.heap.objs.size + 1) s1.heap.objs.size, ⟨⟨.none, he⟩, hit, Nat.succ_ne_self _⟩, fun b hb => ?_, q⟩
    have e' : b = s1.heap.objs.size + 1 ∨ b = s1.heap.objs.size := by simpa using hb
    have hle : s1.heap.objs.size ≤ b := by
      rcases e' with z | z
      · rw [z]; exact Nat.le_add_right _ _
      · rw [z]; exact Nat.le_refl _
    exact I1.fpOk hle (I1.hok.fresh hle)
/-- what may be counted -/
def okEnu : Z.D → Bool
  | .tup _ => false
  | _ => true
def wEnuC (a : ME) : MW := fun e s => (a e s).bind fun d s1 => wR (if okEnu d then (wOf d s1).map enuOf else none) s1
theorem r_enu {a : ME} {ex : Expr} {pp pos tpos : Pos} {elts : List Expr} {kk : Nat} (hK : p.K = X.K) (hg : Gl X "enumerate") (hm : X.mg "enumerate" = none) (he : PE X ex (tE p WX a)) (hs : starEach [ex] X.env = (false, eval ex X.env) :: starEach [] X.env) (hs0 : starEach [] X.env = []) :
    PI X (.Tuple elts kk tpos) (.Call (.Name "enumerate" pp) [ex] [] pos) (tI p WX (wEnuC a)) := by
  refine ⟨fun pins s σ H R I ⟨W, e, st, re, rp, q⟩ => ?_⟩
  have ha : PA X [ex] (tA p WX (aCons a aNil)) := r_cons he r_nil hs
  have hs' : starEach [ex] X.env = [(false, eval ex X.env)] := by rw [hs, hs0]
  unfold wEnuC at q
  have key : ∀ (f : List V → Hp → Prop), (∀ W' H' d v s, W.le W' → Fr W W' H H' → Rep p W' s H' → RelD p.K W' d v → a e st = .ok d s → Post p (SrcOk p) W' H' (exW p WX σ) R (wR (if okEnu d then (wOf d s).map enuOf else none) s) → f [v] H') → tA p WX (aCons a aNil) σ H f := fun f hf => by
    refine ⟨W, e, st, re, rp, ?_⟩
    show Post p (RelDs p.K) W H (exW p WX σ) f ((a e st).bind fun x s1 => (Z.R.ok [] s1 : Z.R (List Z.D)).bind fun xs s2 => .ok (x :: xs) s2)
    cases h : a e st with
    | ok d s2 =>
      rw [h] at q
      intro W' H' v l fr rp' rv
      obtain ⟨v1, rfl, rv1⟩ := relDs_1 rv
      refine hf W' H' d v1 s2 l fr rp' rv1 h ?_
      have q' : Post p (SrcOk p) W H (exW p WX σ) R (wR (if okEnu d then (wOf d s2).map enuOf else none) s2) := q
      cases hw : (if okEnu d then (wOf d s2).map enuOf else none) with
      | none => rw [hw] at q'; exact q'
      | some src =>
        rw [hw] at q'
        exact fun W2 H2 J l2 f2 rp2 so => q' W2 H2 J (l.trans l2) (fr.trans f2) rp2 so
    | exc c s2 => rw [h] at q; exact q
    | bad => rw [h] at q; exact q.elim
  cases h : a e st with
  | bad => rw [h] at q; exact q.elim
  | exc c s2 => exact (pi_enum hg hm ha hs').run pins s σ H R I (key _ fun W' H' d v s l fr rp' rv h2 => by rw [h] at h2; cases h2)
  | ok d s2 =>
    cases d with
    | tup xs => rw [h] at q; exact q.elim
    | non => rw [h] at q; exact q.elim
    | bl b => rw [h] at q; exact q.elim
    | int i => rw [h] at q; exact q.elim
    | lam i => rw [h] at q; exact q.elim
    | str x =>
      refine (pi_enumS hg hm ha hs').run pins s σ H R I (key _ fun W' H' d' v s' l fr rp' rv h2 q2 => ?_)
      rw [h] at h2
      cases h2
      exact ⟨x, by rw [relD_str rv], Post.same rp' q2 iteS_ok⟩
    | lst xs =>
      refine (pi_enum hg hm ha hs').run pins s σ H R I (key _ fun W' H' d' v s' l fr rp' rv h2 q2 => ?_)
      rw [h] at h2
      cases h2
      unfold RelD at rv
      obtain ⟨ad, vs, rfl, h1, r1⟩ := rv
      exact ⟨ad, vs, rfl, SqL.of (rp'.fz _ _ h1), Post.same rp' q2 (hK ▸ ite_fix (fun W2 s H l2 rp2 => SqL.of (rp2.fz _ _ (l2.fz _ _ h1))) r1)⟩
    | scr xs =>
      refine (pi_enum hg hm ha hs').run pins s σ H R I (key _ fun W' H' d' v s' l fr rp' rv h2 q2 => ?_)
      rw [h] at h2
      cases h2
      obtain ⟨ad, vs, rfl, h1, r1⟩ := relD_scr rv
      exact ⟨ad, vs, rfl, hK ▸ seqL_mono rp'.fz h1, Post.same rp' q2 (hK ▸ ite_fix (fun W2 s H l2 rp2 => seqL_mono rp2.fz (seqL_mono l2.fz h1)) r1)⟩
    | ref n =>
      refine (pi_enum hg hm ha hs').run pins s σ H R I (key _ fun W' H' d' v s' l fr rp' rv h2 q2 => ?_)
      rw [h] at h2
      cases h2
      obtain ⟨ad, rfl, hio⟩ := relD_ref rv
      have q3 : Post p (SrcOk p) W' H' (exW p WX σ) R (wR ((match atS n s2 with | some _ => some (Src.liv n) | none => none).map enuOf) s2) := q2
      cases e4 : atS n s2 with
      | none => rw [e4] at q3; exact q3.elim
      | some xs =>
        rw [e4] at q3
        obtain ⟨ad', vs, ea, h1, _⟩ := lst_rd (d := .ref n) rp' e4 rv
        cases ea
        exact ⟨ad, vs, rfl, SqL.of h1, Post.same rp' q3 (hK ▸ ite_liv hio)⟩
end
end Z

set_option Elab.async false
set_option linter.all false
set_option maxRecDepth 100000
/-! Z23: what a program's text means. -/
namespace Z
open PySem PySem.Spec PyProof.Rows L2
/-- a def of the program -/
structure DefI where
  name : Str
  ps : List Str
  N : List Str
  scope : Scope
  params : Arguments
  body : List Stmt
  /-- it is run without the store -/
  lone : Bool
  /-- it makes generator expressions; lambdas -/
  gx : Bool
  lm : Bool
/-- a program -/
structure Prg where
  defs : List DefI
  consts : List (Str × D)
  excs : List Str
  sub : Nat → Nat → Option Bool
  /-- is the list that is made at this place the store's -/
  fresh : Pos → Bool
/-- a context -/
structure Gam where
  N : List Str
  sc : Scope
  calm : Bool
  /-- a def's own frame (with statements) -/
  own : Bool
  /-- its own cells -/
  oc : List Str
  qual : Str
  gx : Bool
  lm : Bool
  /-- room left -/
  x : Nat
def ixOf (x : Str) : List Str → Option Nat
  | [] => none
  | y :: r => if seq x y then some 0 else (ixOf x r).map (· + 1)
theorem ixOf_get {x : Str} : ∀ {l : List Str} {i : Nat}, ixOf x l = some i → l[i]? = some x
  | [], i, h => by cases h
  | y :: r, i, h => by
    unfold ixOf at h
    split at h
    · rename_i e
      cases h
      rw [seq_iff.mp e]; rfl
    · cases h2 : ixOf x r with
      | none => rw [h2] at h; cases h
      | some j =>
        rw [h2] at h
        cases h
        rw [List.getElem?_cons_succ]
        exact ixOf_get h2
def look {α : Type} (x : Str) : List (Str × α) → Option α
  | [] => none
  | (y, a) :: r => if seq x y then some a else look x r
theorem look_lookup {α : Type} {x : Str} : ∀ {l : List (Str × α)}, look x l = l.lookup x
  | [] => rfl
  | (y, a) :: r => by
    unfold look
    rw [List.lookup_cons]
    cases h : seq x y with
    | true =>
      rw [seq_iff.mp h]
      simp
    | false =>
      have hne : (x == y) = false := by
        rw [beq_eq_false_iff_ne]
        intro e
        rw [seq_iff.mpr e] at h
        cases h
      rw [hne]
      simp [look_lookup]
def defIx (x : Str) : List DefI → Option (Nat × DefI)
  | [] => none
  | d :: r => if seq x d.name then some (0, d) else (defIx x r).map fun p => (p.1 + 1, p.2)
def kind (Γ : Gam) (x : Str) : Option NameKind := look x Γ.sc.names
def glob (Γ : Gam) (x : Str) : Bool := match kind Γ x with
  | some .globalImplicit => true
  | _ => false
def slot (Γ : Gam) (x : Str) : Option Nat := match kind Γ x with
  | some .local => ixOf x Γ.N
  | some .cell => ixOf x Γ.N
  | some .free => ixOf x Γ.N
  | _ => none
/-- a name that may be stored to -/
def slotW (Γ : Gam) (x : Str) : Option Nat := match kind Γ x with
  | some .local => ixOf x Γ.N
  | some .cell => if Γ.own || Γ.oc.any (seq x) then ixOf x Γ.N else none
  | _ => none
def sDebug : Str := "__debug__"
def sClsD : Str := "__classdict__"
def plainName (x : Str) : Bool := !seq x sDebug && !seq x sClsD
def notStar : Expr → Bool
  | .Starred .. => false
  | _ => true
def notComp : Expr → Bool
  | .ListComp .. => false
  | .SetComp .. => false
  | .DictComp .. => false
  | _ => true
def notSet : Expr → Bool
  | .Set .. => false
  | _ => true
def notListSet : Expr → Bool
  | .Set .. => false
  | .List .. => false
  | _ => true
def notSlice : Expr → Bool
  | .Slice .. => false
  | _ => true
/-- its truth is asked of its value -/
def valTest : Expr → Bool
  | .UnaryOp .Not _ _ => false
  | .BoolOp .. => false
  | .IfExp .. => false
  | .Compare .. => false
  | _ => true
def bBad : MB := fun _ _ => .bad
abbrev Rec := Gam → Expr → ME × MB
def aList (Γ : Gam) (rec_ : Rec) : List Expr → MA
  | [] => aNil
  | e :: es => if notStar e then aCons (rec_ Γ e).1 (aList Γ rec_ es) else fun _ _ => .bad
/-- a target by names -/
def tgOf (Γ : Gam) : Nat → Expr → Option Tg
  | 0, _ => none
  | n + 1, e => match e with
    | .Name x _ => if plainName x then (slotW Γ x).map tName else none
    | .Tuple es _ _ => if es.all notStar then (optAll (tgOf Γ n) es).map tTup else none
    | _ => none
/-- the slots that a target fills -/
def tgIx (Γ : Gam) : Nat → Expr → List Nat
  | 0, _ => []
  | n + 1, e => match e with
    | .Name x _ => (match slotW Γ x with | some i => [i] | none => [])
    | .Tuple es _ _ => (es.map (tgIx Γ n)).flatten
    | _ => []
def ownOf (N : List Str) (scope : Scope) : List (Str × Nat) := scope.names.filterMap fun y => match y.2 with
  | .local => (ixOf y.1 N).map fun i => (y.1, i)
  | .cell => (ixOf y.1 N).map fun i => (y.1, i)
  | _ => none
def isName (x : String) (y : Str) : Bool := seq y (Str.ofString x)
/-- what is walked -/
def stepW (G : Prg) (rec_ : Rec) (Γ : Gam) (tg e : Expr) : MW := match e with
  | .Call (.Name f _) args [] _ => if glob Γ f && isName "range" f then (match args with
      | [a] => if notStar a then wRng (aList Γ rec_ [a]) else fun _ _ => .bad
      | [a, b] => if notStar a && notStar b then wRng (aList Γ rec_ [a, b]) else fun _ _ => .bad
      | [a, b, c] => if notStar a && notStar b && notStar c then wRng (aList Γ rec_ [a, b, c]) else fun _ _ => .bad
      | _ => fun _ _ => .bad)
    else if glob Γ f && isName "enumerate" f then (match args, tg with
      | [a], .Tuple _ _ _ => if notStar a then wEnuC (rec_ Γ a).1 else fun _ _ => .bad
      | _, _ => fun _ _ => .bad)
    else wVal (rec_ Γ e).1
  | e => wVal (rec_ Γ e).1
/-- the tests of a comprehension -/
def ifsOf (Γ : Gam) (rec_ : Rec) : List Expr → MB
  | [] => bYes
  | [c] => (rec_ Γ c).2
  | _ => bBad
def cellsOf (scope : Scope) : List Str := scope.names.filterMap fun y => match y.2 with
  | .cell => some y.1
  | _ => none
def blkG (Γ : Gam) (scope : Scope) : Gam := { Γ with sc := relS scope Γ.sc, own := false, oc := cellsOf scope }
def gxG (Γ : Gam) (scope : Scope) : Gam := { Γ with sc := scope, own := false, oc := cellsOf scope, qual := Γ.qual ++ "<genexpr>.", gx := false, lm := false, x := Γ.x - 3 }
def emptyScope : Scope := { kind := .function, names := [], isGenerator := false, isCoroutine := false, more := [] }
def lamGm (li : LamI) : Gam := { N := [], sc := li.scope, calm := true, own := false, oc := [], qual := li.qual ++ ".<locals>.", gx := false, lm := false, x := 3 }
/-- the parts of a comprehension: the walked, the target, the test -/
structure CompM where
  vs : List Nat
  t : Tg
  w : MW
  c : MB
  el : ME
def compOf (G : Prg) (rec_ : Rec) (Γ Γ' : Gam) (scope : Scope) (ok : Bool) (elt tg iter : Expr) (ifs : List Expr) : Option CompM :=
  match tgOf Γ' 4 tg with
  | some t => if ok && Γ.calm && (tgIx Γ' 4 tg).all (fun i => ((ownOf Γ.N scope).map (·.2)).contains i) then some ⟨(ownOf Γ.N scope).map (·.2), t, stepW G rec_ Γ tg iter, ifsOf Γ' rec_ ifs, (rec_ Γ' elt).1⟩ else none
  | none => none
def genOf (G : Prg) (rec_ : Rec) (Γ : Gam) : Expr → Option CompM
  | .GeneratorExp elt [⟨tg, iter, ifs, 0⟩] scope _ => compOf G rec_ Γ (gxG Γ scope) scope (gxOkB Γ.N Γ.sc scope (ownOf Γ.N scope) && Γ.gx && decide (3 ≤ Γ.x) && notListSet iter) elt tg iter ifs
  | _ => none
def slOpt (Γ : Gam) (rec_ : Rec) : Option Expr → MO
  | none => oNone
  | some e => oSome (rec_ Γ e).1
/-- calls by name -/
def stepCall (G : Prg) (F : Nat → FM) (LF : LamI → Sto → R D) (rec_ : Rec) (Γ : Gam) (f : Str) (args : List Expr) (pos : Pos) : ME :=
  if !plainName f then mBad else
  match slot Γ f with
  | some i => (match args with | [] => if decide (4 ≤ Γ.x) && Γ.calm then mLamCall i LF else mBad | _ => mBad)
  | none => if !glob Γ f then mBad else
    match defIx f G.defs with
    | some (i, d) => if Γ.calm && args.all notStar then mCall d.ps.length (F i) (aList Γ rec_ args) else mBad
    | none => match args with
      | [] => mBad
      | [a] => (match genOf G rec_ Γ a with
        | some m => if !Γ.calm then mBad
          else if isName "any" f then mQn true m.vs m.t m.w m.c m.el
          else if isName "all" f then mQn false m.vs m.t m.w m.c m.el
          else if isName "tuple" f then mGx okAny finT m.vs m.t m.w m.c m.el
          else if isName "sum" f then mGx okInt finSum m.vs m.t m.w m.c m.el
          else mBad
        | none => if !notStar a then mBad
          else if isName "len" f then mB1 bLen (aList Γ rec_ [a])
          else if isName "int" f then mB1 bInt (aList Γ rec_ [a])
          else if isName "abs" f then mB1 bAbs (aList Γ rec_ [a])
          else if isName "list" f then mB1 (bList (G.fresh pos)) (aList Γ rec_ [a])
          else if isName "tuple" f then mB1 bTup (aList Γ rec_ [a])
          else if isName "str" f then mB1 bStr (aList Γ rec_ [a])
          else if isName "sum" f then (if Γ.calm then mB1 bSum (aList Γ rec_ [a]) else mBad)
          else mBad)
      | [a, b] => if !(notStar a && notStar b) then mBad
          else if isName "max" f then (if Γ.calm then mB1 bMax (aList Γ rec_ [a, b]) else mBad)
          else if isName "min" f then (if Γ.calm then mB1 bMin (aList Γ rec_ [a, b]) else mBad)
          else mBad
      | _ => mBad
/-- methods -/
def stepMeth (G : Prg) (rec_ : Rec) (Γ : Gam) (o : Expr) (nm : Str) (apos : Pos) (args : List Expr) (pos : Pos) : ME :=
  if !(apos.endLine == pos.line) || !notSuper o then mBad else
  match args with
  | [a] => if isName "index" nm && notStar a then (if Γ.calm then mMt .str mtIndex (rec_ Γ o).1 (aList Γ rec_ [a]) else mBad) else mBad
  | _ => mBad
where notSuper : Expr → Bool
  | .Call (.Name id _) [] [] _ => false
  | _ => true
def chainE (G : Prg) (rec_ : Rec) (Γ : Gam) (l : Expr) (ops : List CmpOp) (es : List Expr) : ME := match ops, es with
  | [op], [b] => if behindInMarks op b then mBad else m2 (opC op) (rec_ Γ l).1 (rec_ Γ b).1
  | [op, op'], [b, c] => if lastMarks [op, op'] [b, c] then mBad else mChain (opC op) (opC op') (rec_ Γ l).1 (rec_ Γ b).1 (rec_ Γ c).1
  | _, _ => mBad
def boolsE (op : BoolOp) (Γ : Gam) (rec_ : Rec) : List Expr → ME
  | [] => mBad
  | [a] => (rec_ Γ a).1
  | a :: r => match op with
    | .And => mAnd (rec_ Γ a).1 (boolsE op Γ rec_ r)
    | .Or => mOr (rec_ Γ a).1 (boolsE op Γ rec_ r)
def boolsT (op : BoolOp) (Γ : Gam) (rec_ : Rec) : List Expr → MB
  | [] => bBad
  | [a] => (rec_ Γ a).2
  | a :: r => match op with
    | .And => bAnd (rec_ Γ a).2 (boolsT op Γ rec_ r)
    | .Or => bOr (rec_ Γ a).2 (boolsT op Γ rec_ r)
def isOne : Expr → Bool
  | .UnaryOp .USub (.Constant (.int 1) _ _) _ => true
  | _ => false
def stepE (G : Prg) (F : Nat → FM) (LF : LamI → Sto → R D) (rec_ : Rec) (Γ : Gam) (e : Expr) : ME := match e with
  | .Constant c _ _ => (match c with
    | .int i => mC (.int i)
    | .bool b => mC (.bl b)
    | .none => mC .non
    | .str x => mC (.str x)
    | _ => mBad)
  | .Name x _ => if !plainName x then mBad else (match slot Γ x with
    | some i => mVar i
    | none => if glob Γ x then (match look x G.consts with | some d => mC d | none => mBad) else mBad)
  | .BinOp a op b pos => m2 (opBin (G.fresh pos) op) (rec_ Γ a).1 (rec_ Γ b).1
  | .UnaryOp .USub a _ => m1 unNeg (rec_ Γ a).1
  | .UnaryOp .Not a _ => mNot (rec_ Γ a).1
  | .Compare l ops es _ => chainE G rec_ Γ l ops es
  | .BoolOp op es _ => boolsE op Γ rec_ es
  | .IfExp c a b _ => mIf (rec_ Γ c).2 (rec_ Γ a).1 (rec_ Γ b).1
  | .Tuple es _ _ => mTup (aList Γ rec_ es)
  | .List es pos => mLst (G.fresh pos) (aList Γ rec_ es)
  | .Subscript a i pos => (match i with
    | .Slice none none (some st) _ => if isOne st then m1 (opRev (G.fresh pos)) (rec_ Γ a).1 else mBad
    | .Slice lo hi none _ => mSl (G.fresh pos) (rec_ Γ a).1 (slOpt Γ rec_ lo) (slOpt Γ rec_ hi)
    | .Slice _ _ _ _ => mBad
    | i => m2 opIx (rec_ Γ a).1 (rec_ Γ i).1)
  | .ListComp elt [⟨tg, iter, ifs, 0⟩] scope pos => (match compOf G rec_ Γ (blkG Γ scope) scope (blkC Γ.N Γ.sc scope (ownOf Γ.N scope) && notSet iter) elt tg iter ifs with
    | some m => mLc (G.fresh pos) m.vs m.t m.w m.c m.el
    | none => mBad)
  | .Lambda params body scope _ => if lamGB ⟨Γ.qual ++ "<lambda>", params, body, scope⟩ && Γ.lm then mLam ⟨Γ.qual ++ "<lambda>", params, body, scope⟩ else mBad
  | .Call (.Name f _) args [] pos => stepCall G F LF rec_ Γ f args pos
  | .Call (.Attribute o nm apos) args [] pos => stepMeth G rec_ Γ o nm apos args pos
  | _ => mBad
def stepT (G : Prg) (F : Nat → FM) (LF : LamI → Sto → R D) (rec_ : Rec) (Γ : Gam) (e : Expr) : MB := match e with
  | .UnaryOp .Not a _ => bNot (rec_ Γ a).2
  | .BoolOp op es _ => boolsT op Γ rec_ es
  | .IfExp c a b _ => bIf (rec_ Γ c).2 (rec_ Γ a).2 (rec_ Γ b).2
  | .Compare l ops es _ => mB (chainE G rec_ Γ l ops es)
  | e => mT (stepE G F LF rec_ Γ e)
def semE (G : Prg) (F : Nat → FM) (LF : LamI → Sto → R D) : Nat → Rec
  | 0, _, _ => (mBad, bBad)
  | n + 1, Γ, e => (stepE G F LF (semE G F LF n) Γ e, stepT G F LF (semE G F LF n) Γ e)
/-! ### statements -/
def swN (Γ : Gam) (ts : List Expr) : List Str := ts.filterMap fun
  | .Name id pos => if Γ.sc.names.lookup id == some .local && pos.line == (ts.head?.map (·.pos.line)).getD 0 then some id else none
  | _ => none
/-- the stores of a parallel assignment from the right: none: they are not swapped -/
def swaps (Γ : Gam) (ts vs : List Expr) : Option (Option (List Str)) :=
  if !(ts.length == 2 || ts.length == 3) || vs.length != ts.length then some none
  else if !vs.all notStar then none
  else if (swN Γ ts).length != ts.length || (swN Γ ts).eraseDups.length != (swN Γ ts).length then some none
  else if vs.all (foldedForSure 8) then some none
  else if vs.all (constantsAlone 8) then none
  else some (some (swN Γ ts))
def targ (G : Prg) (rec_ : Rec) (Γ : Gam) (e : Expr) : Option Tg := match e with
  | .Subscript o i _ => if notSlice i then some (tSub (rec_ Γ o).1 (rec_ Γ i).1) else none
  | e => tgOf Γ 4 e
def sAsgO (o : Option Tg) (m : ME) : MS := match o with
  | some t => sAsg t m
  | none => sBad
def raiseX (G : Prg) (Γ : Gam) : Option Expr → Option Nat
  | some (.Call (.Name x _) [.Constant (.str _) _ _] [] _) => if glob Γ x && plainName x then ixOf x G.excs else none
  | _ => none
def coldS : Gam → Gam := fun Γ => { Γ with calm := false }
/-- a suite of a clause that raises nothing -/
def quietS : Stmt → Bool
  | .Return (some (.Constant _ _ _)) _ => true
  | .Return none _ => true
  | .Pass _ => true
  | .Break _ => true
  | .Continue _ => true
  | .Assign [.Name _ _] (.Constant _ _ _) _ => true
  | _ => false
def stepS (G : Prg) (E : Rec) (recS : Gam → Stmt → MS) (recSs : Gam → List Stmt → MS) (Γ : Gam) (st : Stmt) : MS := match st with
  | .Pass _ => sPass
  | .Break _ => sBreak
  | .Continue _ => sCont
  | .Return none _ => sRetN
  | .Return (some e) _ => sRet (E Γ e).1
  | .Expr e _ => if notComp e then sExpr (E Γ e).1 else sBad
  | .If c a b _ => sIf (E Γ c).2 (recSs Γ a) (recSs Γ b)
  | .Assign [tg] e pos => (match tg, e with
    | .Name x px, .ListComp _ [⟨_, _, _, 0⟩] scope lpos => (match slotW Γ x with
      | some i => if plainName x && Γ.calm && (Γ.sc.names.lookup x == some .local) && px.line == lpos.line && Γ.own && decide (Γ.sc.kind = .function) && !(scope.names.any fun y => y.1 == x && (y.2 == .local || y.2 == .cell)) then sAsg (tName i) (E Γ e).1 else sBad
      | none => sBad)
    | .Tuple ts _ _, .Tuple vs _ _ => if !(notStarAll ts) then sBad else (match swaps Γ ts vs with
      | some none => if Γ.calm then sAsgO (targ G E Γ tg) (E Γ e).1 else sBad
      | some (some names) => (match ts, vs, optAll (fun x => ixOf x Γ.N) names with
        | [.Name _ _, .Name _ _], [_, _], some [i, j] => if Γ.calm && Γ.own && i != j then sPar [i, j] (aList Γ E vs) else sBad
        | [.Name _ _, .Name _ _, .Name _ _], [_, _, _], some [i, j, k] => if Γ.calm && Γ.own && i != j && i != k && j != k then sPar [i, j, k] (aList Γ E vs) else sBad
        | _, _, _ => sBad)
      | none => sBad)
    | tg, e => if notComp e && Γ.calm && notStar tg && notTupV tg e then sAsgO (targ G E Γ tg) (E Γ e).1 else sBad)
  | .AugAssign (.Name x _) op e _ => (match slotW Γ x with
    | some i => if Γ.own && plainName x then sAug i (ipOp op) (E Γ e).1 else sBad
    | none => sBad)
  | .For tg it body [] _ => (match tgOf Γ 4 tg with
    | some t => if Γ.calm && Γ.own && notSet it then sForW t (stepW G E Γ tg it) (recSs Γ body) else sBad
    | none => sBad)
  | .While c body [] _ => if Γ.own && Γ.calm then sWhile (E Γ c).2 (recSs Γ body) else sBad
  | .Raise ex none _ => (match raiseX G Γ ex with
    | some c => if Γ.calm then sRaise c else sBad
    | none => sBad)
  | .Try body [.ExceptHandler (some (.Name x _)) none (b₀ :: suite) _] [] [] _ => (match ixOf x G.excs with
    | some j => if glob Γ x && plainName x && Γ.own && Γ.calm && (b₀ :: suite).all quietS then sTry (fun i => if decide (i < G.excs.length) then G.sub i j else none) (recSs Γ body) (recSs (coldS Γ) (b₀ :: suite)) else sBad
    | none => sBad)
  | _ => sBad
where
  notStarAll (ts : List Expr) : Bool := ts.all notStar
  /-- not both displays (these are told apart) -/
  notTupV : Expr → Expr → Bool
    | .Tuple _ _ _, .Tuple _ _ _ => false
    | .List _ _, _ => false
    | _, _ => true
def stepSs (recS : Gam → Stmt → MS) (Γ : Gam) : List Stmt → MS
  | [] => sPass
  | st :: r => sSeq (recS Γ st) (stepSs recS Γ r)
def semS (G : Prg) (E : Rec) : Nat → Gam → Stmt → MS
  | 0, _, _ => sBad
  | n + 1, Γ, st => stepS G E (semS G E n) (stepSs (semS G E n)) Γ st
/-! ### the program -/
def fuel : Nat := 60
def defGm (d : DefI) : Gam := { N := d.N, sc := d.scope, calm := true, own := true, oc := [], qual := d.name ++ ".<locals>.", gx := d.gx, lm := d.lm, x := 7 }
/-- a def by the defs of the level below -/
def defF (G : Prg) (F : Nat → FM) (LF : LamI → Sto → R D) (d : DefI) : FM :=
  let f := runBody d.N (stepSs (semS G (semE G F LF fuel) fuel) (defGm d) d.body)
  if d.lone then alone f else f
def lamF (G : Prg) (F : Nat → FM) (LF : LamI → Sto → R D) : LamI → Sto → R D := fun li s => (semE G F LF fuel (lamGm li) li.body).1 [] s
def badF : Nat → FM := fun _ _ _ => .bad
def badL : LamI → Sto → R D := fun _ _ => .bad
/-- the program at the level k -/
def prog (G : Prg) : Nat → (Nat → FM) × (LamI → Sto → R D)
  | 0 => (badF, badL)
  | k + 1 => (fun i => match G.defs[i]? with | some d => defF G (prog G k).1 (prog G k).2 d | none => fun _ _ => .bad, lamF G (prog G k).1 (prog G k).2)
end Z

set_option Elab.async false
set_option linter.all false
set_option maxRecDepth 100000
/-! Z24: what the text's form gives. -/
namespace Z
open PySem PySem.Spec PyProof.Rows L2
theorem star_cons {e : Expr} {es : List Expr} {env : PySem.Env} (h : notStar e = true) : starEach (e :: es) env = (false, eval e env) :: starEach es env := by
  cases e <;> first | rfl | (cases h)
theorem star_plain : ∀ {es : List Expr} {env : PySem.Env} {pos : Pos}, es.all notStar = true → (backTo pos (starEach es env)).any (·.1) = false
  | [], _, _, _ => rfl
  | e :: es, env, pos, h => by
    rw [List.all_cons, Bool.and_eq_true] at h
    rw [star_cons h.1]
    show (false || (backTo pos (starEach es env)).any (·.1)) = false
    rw [star_plain h.2]; rfl
theorem star_not : ∀ {es : List Expr} {env : PySem.Env} {pos : Pos}, es.all notStar = true → (backTo pos (starEach es env)).all (fun x => !x.1) = true
  | [], _, _, _ => rfl
  | e :: es, env, pos, h => by
    rw [List.all_cons, Bool.and_eq_true] at h
    rw [star_cons h.1]
    show (true && (backTo pos (starEach es env)).all (fun x => !x.1)) = true
    rw [star_not h.2]; rfl
theorem asg_cons {e : Expr} {es : List Expr} {env : PySem.Env} (h : notStar e = true) : assignEach (e :: es) env = (false, assign e env) :: assignEach es env := by
  cases e <;> first | rfl | (cases h)
theorem asg_map {e : Expr} {es : List Expr} {env : PySem.Env} (h : notStar e = true) : (assignEach (e :: es) env).map (·.2) = assign e env :: (assignEach es env).map (·.2) := by rw [asg_cons h]; rfl
theorem asg_len : ∀ {es : List Expr} {env : PySem.Env}, es.all notStar = true → (assignEach es env).length = es.length
  | [], _, _ => rfl
  | e :: es, env, h => by
    rw [List.all_cons, Bool.and_eq_true] at h
    rw [asg_cons h.1, List.length_cons, List.length_cons, asg_len h.2]
theorem asg_star : ∀ {es : List Expr} {env : PySem.Env}, es.all notStar = true → (assignEach es env).findIdx? (·.1) = none
  | [], _, _ => rfl
  | e :: es, env, h => by
    rw [List.all_cons, Bool.and_eq_true] at h
    rw [asg_cons h.1, List.findIdx?_cons]
    rw [asg_star h.2]
    rfl
theorem swap_not {e : Expr} {t : Option Expr} {l : Nat} {env : PySem.Env} (h : notComp e = true) : swapsWith e t l env = pure false := by
  cases e <;> first | rfl | (cases h)
theorem swapSole_not {tg e : Expr} {l : Nat} {env : PySem.Env} (h : notComp e = true) : swapsWithSole [tg] e l env = pure false := swap_not h
theorem fold_set {e : Expr} {env : PySem.Env} (h : notSet e = true) (x : Value) : foldedSetIterable e env x = pure x := by
  cases e <;> first | rfl | (cases h)
theorem fold_gen {e : Expr} {env : PySem.Env} (h : notListSet e = true) (x : Value) : genFold e env x = pure x := by
  cases e <;> first | rfl | (cases h)
theorem ix_plain {e : Expr} (h : notSlice e = true) : PlainIx e := by
  cases e <;> first | (exact fun _ _ => rfl) | (cases h)
theorem test_plain {e : Expr} {env : PySem.Env} (h : valTest e = true) (whole : Sem Value) : isTrue e env whole = (do let v ← whole; standAt e.pos; holding [v] (truthy v)) := by
  cases e with
  | UnaryOp op a pos =>
    cases op <;> first | rfl | (cases h)
  | BoolOp => cases h
  | IfExp => cases h
  | Compare => cases h
  | _ => rfl
theorem attr_base {o : Expr} {nm : Str} {env : PySem.Env} (h : stepMeth.notSuper o = true) : attributeBase o nm env (eval o env) = eval o env := by
  unfold attributeBase
  split
  · cases h
  · rfl
theorem name_of {x : String} {y : Str} (h : isName x y = true) : y = (x : Str) := seq_iff.mp h
theorem plain_debug {x : Str} (h : plainName x = true) : (x == ("__debug__" : Str)) = false ∧ (x == ("__classdict__" : Str)) = false := by
  unfold plainName at h
  rw [Bool.and_eq_true, Bool.not_eq_true', Bool.not_eq_true'] at h
  refine ⟨?_, ?_⟩
  · rw [beq_eq_false_iff_ne]
    intro e
    have := h.1
    rw [seq_iff.mpr (show x = sDebug from e)] at this
    cases this
  · rw [beq_eq_false_iff_ne]
    intro e
    have := h.2
    rw [seq_iff.mpr (show x = sClsD from e)] at this
    cases this
theorem cloFrom_nil {cells : List (Str × Addr)} : ∀ {names : List (Str × NameKind)}, (∀ y ∈ names, y.2 ≠ .free) → cloFrom cells names [] = []
  | [], _ => rfl
  | (n, k) :: r, h => by
    unfold cloFrom
    have hk : (k == NameKind.free) = false := by
      rw [beq_eq_false_iff_ne]
      exact h (n, k) (List.mem_cons_self ..)
    rw [hk]
    exact cloFrom_nil fun y hy => h y (List.mem_cons_of_mem _ hy)
theorem own_ix {N : List Str} {scope : Scope} : ∀ q ∈ ownOf N scope, N[q.2]? = some q.1 := by
  intro q hq
  unfold ownOf at hq
  obtain ⟨y, hy, e⟩ := List.mem_filterMap.mp hq
  split at e
  · cases h : ixOf y.1 N with
    | none => rw [h] at e; cases e
    | some i => rw [h] at e; cases e; exact ixOf_get h
  · cases h : ixOf y.1 N with
    | none => rw [h] at e; cases e
    | some i => rw [h] at e; cases e; exact ixOf_get h
  · cases e
end Z

set_option Elab.async false
set_option linter.all false
set_option maxRecDepth 100000
set_option maxHeartbeats 1000000
/-! Z25: expressions keep what they mean. -/
namespace Z
open PySem PySem.Spec PyProof.Rows L2
def bmV : List Value := [.type "ValueError", .type "Exception", .type "BaseException", .type "object"]
def bltNames : List Str := ["range", "enumerate", "any", "all", "tuple", "sum", "len", "int", "abs", "list", "str", "max", "min", "zip", "sorted", "dict"]
/-- what stands behind the top, for the level k -/
structure WF (G : Prg) (p : Pl) (P : Program) (w : World) (K : PySem.W.Frag) (mg : Str → Option Value) (base : Heap) (k : Nat) (F : Nat → FM) : Prop where
  hK : p.K = K
  consts : ∀ x d, look x G.consts = some d → ∃ v u, mg x = some u ∧ RelV v u ∧ ∀ W, RelD K W d v
  blt : ∀ x ∈ bltNames, mg x = none
  defs : ∀ x i d, defIx x G.defs = some (i, d) → ∃ fa fd, mg x = some (.ref fa) ∧ PySem.W.keepIn K (.ref fa) = true ∧ Binds K fd d.ps [] ∧ FnOk P w K mg base (L2.CX P w) (8 * k) fa fd d.ps (spOf p d.ps.length (F i))
  excs : ∀ x i, ixOf x G.excs = some i → mg x = some (.ref (p.xa i)) ∧ PySem.W.keepIn K (.ref (p.xa i)) = true ∧ PySem.W.excIn K (p.xa i) bmV "ValueError.__new__" = true ∧ PySem.W.subIn K (.ref (p.xa i)) (.type "BaseException") = some true ∧ PySem.W.typeIn K (.ref (p.xa i)) = some (.type "type")
  sub : ∀ i j b, i < G.excs.length → j < G.excs.length → G.sub i j = some b → PySem.W.exmOne K (.ref (p.xa i)) (.ref (p.xa j)) = some b
structure AgE (G : Prg) (p : Pl) (k : Nat) (F : Nat → FM) (LF : LamI → Sto → R D) (Γ : Gam) (X : Cx) (WX : L2.WX) : Prop where
  wf : WF G p X.prog X.w X.K X.mg X.base k F
  lam : LamsOk X p (8 * k + 3) LF
  room : Γ.calm = true → Room (8 * k + Γ.x) X.A
  un : X.A.units + 65 < cLine
  N : X.N = Γ.N
  nd : Γ.N.Nodup
  sc : X.env.scope = Γ.sc
  calm : X.calm = Γ.calm
  qual : X.env.qual = Γ.qual
  fn : ∀ x, Γ.own = true ∨ x ∈ Γ.oc → X.fn x = true
  tk : Takes X WX
  gx : Γ.gx = true → ∃ c P, GxR.TabB X.base X.mg c P ∧ X.env.code = .ref c ∧ P ∈ p.tg ∧ ∀ q ∈ p.tl, q.1 ≠ P
  lm : Γ.lm = true → ∃ c P, LamX.TabB X.base X.mg c P ∧ X.env.code = .ref c ∧ (P, Γ.qual ++ "<lambda>") ∈ p.tl ∧ (∀ q ∈ p.tl, q.1 = P → q.2 = Γ.qual ++ "<lambda>") ∧ ∀ b ∈ p.tg, b ≠ P
section
variable {G : Prg} {p : Pl} {k : Nat} {F : Nat → FM} {LF : LamI → Sto → R D} {Γ : Gam} {X : Cx} {WX : L2.WX}
theorem AgE.kindOf (a : AgE G p k F LF Γ X WX) (x : Str) : X.env.kindOf x = kind Γ x := by
  unfold kind
  rw [look_lookup, ← a.sc]; rfl
theorem AgE.gl (a : AgE G p k F LF Γ X WX) {x : Str} (h : glob Γ x = true) : Gl X x := by
  show X.env.kindOf x = some .globalImplicit
  rw [a.kindOf]
  unfold glob at h
  split at h
  · rename_i e; exact e
  · cases h
theorem AgE.slot (a : AgE G p k F LF Γ X WX) {x : Str} {i : Nat} (h : slot Γ x = some i) : X.N[i]? = some x ∧ Vis X.env.scope x := by
  have hk : X.env.scope.names.lookup x = kind Γ x := a.kindOf x
  unfold Z.slot at h
  rw [a.N]
  split at h
  · rename_i e; exact ⟨ixOf_get h, .inl (hk.trans e)⟩
  · rename_i e; exact ⟨ixOf_get h, .inr (.inl (hk.trans e))⟩
  · rename_i e; exact ⟨ixOf_get h, .inr (.inr (hk.trans e))⟩
  · cases h
theorem AgE.slotW (a : AgE G p k F LF Γ X WX) {x : Str} {i : Nat} (h : slotW Γ x = some i) : X.N[i]? = some x ∧ Loc X.env.scope x ∧ (X.fn x = true ∨ X.env.scope.names.lookup x = some .local) := by
  have hk : X.env.scope.names.lookup x = kind Γ x := a.kindOf x
  unfold Z.slotW at h
  rw [a.N]
  split at h
  · rename_i e; exact ⟨ixOf_get h, .inl (hk.trans e), .inr (hk.trans e)⟩
  · rename_i e
    split at h
    · rename_i e2
      refine ⟨ixOf_get h, .inr (hk.trans e), .inl (a.fn x ?_)⟩
      rcases Bool.or_eq_true_iff.mp e2 with z | z
      · exact .inl z
      · obtain ⟨y, hy, hs⟩ := List.any_eq_true.mp z
        rw [seq_iff.mp hs]
        exact .inr hy
    · cases h
  · cases h
theorem AgE.ndX (a : AgE G p k F LF Γ X WX) : X.N.Nodup := by rw [a.N]; exact a.nd
theorem AgE.hK (a : AgE G p k F LF Γ X WX) : p.K = X.K := a.wf.hK
theorem AgE.blt (a : AgE G p k F LF Γ X WX) {x : Str} (h : x ∈ bltNames) : X.mg x = none := a.wf.blt x h
/-! ### changes of the context -/
theorem cells_lookup {scope : Scope} {x : Str} (hu : ∀ y ∈ scope.names, scope.names.lookup y.1 = some y.2) (h : x ∈ cellsOf scope) : scope.names.lookup x = some .cell := by
  unfold cellsOf at h
  obtain ⟨y, hy, e⟩ := List.mem_filterMap.mp h
  split at e
  · rename_i ek
    cases e
    rw [hu y hy, ek]
  · cases e
theorem AgE.blk (a : AgE G p k F LF Γ X WX) {scope : Scope} {s : Shared} {H : Hp} {C : Addr} {cl : List (Str × Addr)} {fp : List Addr} (hu : ∀ y ∈ scope.names, scope.names.lookup y.1 = some y.2) : AgE G p k F LF (blkG Γ scope) (X.blk s H scope (compEnvC scope cl C X.env) fp) W0x where
  wf := a.wf
  lam := a.lam
  room := a.room
  un := a.un
  N := a.N
  nd := a.nd
  sc := by show relS scope X.env.scope = relS scope Γ.sc; rw [a.sc]
  calm := a.calm
  qual := a.qual
  fn := fun x h => by
    rcases h with h | h
    · cases h
    · show (scope.names.lookup x == some .cell) = true
      rw [cells_lookup hu h]
      rfl
  tk := LamX.takes0
  gx := a.gx
  lm := a.lm
theorem AgE.gxc (a : AgE G p k F LF Γ X WX) {scope : Scope} {A : Around} {s : Shared} {H : Hp} {L : Addr} {cd : Value} {fp : List Addr} (hu : ∀ y ∈ scope.names, scope.names.lookup y.1 = some y.2) (hx : 3 ≤ Γ.x) (hr : Room (8 * k + (Γ.x - 3)) (A.deeper (gxEnv X scope L cd))) :
    AgE G p k F LF (gxG Γ scope) (gxCx X A s H (gxEnv X scope L cd) fp) W0x where
  wf := a.wf
  lam := a.lam
  room := fun _ => hr
  un := by
    have := hr.un
    show (A.deeper (gxEnv X scope L cd)).units + 65 < cLine
    omega
  N := a.N
  nd := a.nd
  sc := rfl
  calm := a.calm
  qual := by show X.env.qual ++ "<genexpr>." = Γ.qual ++ "<genexpr>."; rw [a.qual]
  fn := fun x h => by
    rcases h with h | h
    · cases h
    · show (scope.names.lookup x == some .cell) = true
      rw [cells_lookup hu h]
      rfl
  tk := LamX.takes0
  gx := fun h => by cases h
  lm := fun h => by cases h
theorem AgE.lamc (a : AgE G p k F LF Γ X WX) {li : LamI} {A : Around} {outer : List PySem.Env} {s : Shared} {H : Hp} {E : XK} {f c' : Addr} (hr : Room (8 * k + 3) (A.deeper (lamE li s.heap.objs.size f c'))) :
    AgE G p k F LF (lamGm li) (lamX X A outer s H E li f c') (fun cls d _ H => E cls d H) where
  wf := a.wf
  lam := a.lam
  room := fun _ => hr
  un := by
    have := hr.un
    show (A.deeper (lamE li s.heap.objs.size f c')).units + 65 < cLine
    omega
  N := rfl
  nd := List.nodup_nil
  sc := rfl
  calm := rfl
  qual := rfl
  fn := fun x h => by
    rcases h with h | h
    · cases h
    · cases h
  tk := takes_lamX
  gx := fun h => by cases h
  lm := fun h => by cases h
theorem AgE.tr (a : AgE G p k F LF Γ X WX) {pn : List (Addr × Obj)} {xe : Value → Shared → Prop} {W : L2.WX} (tk : Takes (X.tr pn xe) W) : AgE G p k F LF Γ (X.tr pn xe) W := ⟨a.wf, a.lam, a.room, a.un, a.N, a.nd, a.sc, a.calm, a.qual, a.fn, tk, a.gx, a.lm⟩
theorem AgE.suite (a : AgE G p k F LF Γ X WX) {b : Addr} {pn : List (Addr × Obj)} : AgE G p k F LF (coldS Γ) (X.suite b pn) W0x := ⟨a.wf, a.lam, fun h => Bool.noConfusion h, a.un, a.N, a.nd, a.sc, rfl, a.qual, a.fn, LamX.takes0, a.gx, a.lm⟩
/-! ### lists of expressions, targets -/
/-- what is known of the parts -/
abbrev RecOk (G : Prg) (p : Pl) (k : Nat) (F : Nat → FM) (LF : LamI → Sto → R D) (rec_ : Rec) : Prop := ∀ (Γ : Gam) (X : Cx) (WX : L2.WX) (e : Expr), AgE G p k F LF Γ X WX → PE X e (tE p WX (rec_ Γ e).1) ∧ PT X e (tB p WX (rec_ Γ e).2)
variable {rec_ : Rec}
theorem pa_bad {es : List Expr} : PA X es (tA p WX fun _ _ => .bad) := ⟨fun _ _ _ _ _ _ _ ⟨_, _, _, _, _, q⟩ => q.elim⟩
theorem aList_ok (hr : RecOk G p k F LF rec_) (a : AgE G p k F LF Γ X WX) : ∀ es, PA X es (tA p WX (aList Γ rec_ es))
  | [] => r_nil
  | e :: es => by
    unfold aList
    split
    · rename_i h
      exact r_cons (hr Γ X WX e a).1 (aList_ok hr a es) (star_cons h)
    · exact pa_bad
theorem aList_len (e : Env) (s : Sto) : ∀ {es : List Expr} {ds : List D} {s1 : Sto}, aList Γ rec_ es e s = .ok ds s1 → ds.length = es.length ∧ es.all notStar = true := by
  intro es
  induction es generalizing s with
  | nil => intro ds s1 h; cases h; exact ⟨rfl, rfl⟩
  | cons x es ih =>
    intro ds s1 h
    unfold aList at h
    split at h
    · rename_i hx
      unfold aCons at h
      cases h1 : (rec_ Γ x).1 e s with
      | ok d s2 =>
        rw [h1] at h
        cases h2 : aList Γ rec_ es e s2 with
        | ok ds2 s3 =>
          have h' : ((aList Γ rec_ es e s2).bind fun xs s2 => (.ok (d :: xs) s2 : R (List D))) = .ok ds s1 := h
          rw [h2] at h'
          cases h'
          obtain ⟨q1, q2⟩ := ih s2 h2
          exact ⟨by rw [List.length_cons, List.length_cons, q1], by rw [List.all_cons, hx, q2]; rfl⟩
        | exc c s3 =>
          have h' : ((aList Γ rec_ es e s2).bind fun xs s2 => (.ok (d :: xs) s2 : R (List D))) = .ok ds s1 := h
          rw [h2] at h'
          cases h'
        | bad =>
          have h' : ((aList Γ rec_ es e s2).bind fun xs s2 => (.ok (d :: xs) s2 : R (List D))) = .ok ds s1 := h
          rw [h2] at h'
          cases h'
      | exc c s2 => rw [h1] at h; cases h
      | bad => rw [h1] at h; cases h
    · cases h
theorem opt_all_len {α β : Type} {f : α → Option β} : ∀ {xs : List α} {ys : List β}, optAll f xs = some ys → ys.length = xs.length := fun h => (Paired.length (opt_all h)).symm
theorem tg_ok (a : AgE G p k F LF Γ X WX) (hc : Γ.calm = true) : ∀ (n : Nat) (e : Expr) (t : Tg), tgOf Γ n e = some t → PG X e (gT p t)
  | 0, _, _, h => by cases h
  | n + 1, e, t, h => by
    cases e with
    | Name x pos =>
      have h : (if plainName x then (slotW Γ x).map tName else none) = some t := h
      split at h
      · cases h2 : slotW Γ x with
        | none => rw [h2] at h; cases h
        | some i =>
          rw [h2] at h
          cases h
          obtain ⟨q1, q2, q3⟩ := a.slotW h2
          exact r_tName a.ndX q1 q2 q3
      · cases h
    | Tuple es kk pos =>
      have h : (if es.all notStar then (optAll (tgOf Γ n) es).map tTup else none) = some t := h
      split at h
      · rename_i hs
        cases h2 : optAll (tgOf Γ n) es with
        | none => rw [h2] at h; cases h
        | some ts =>
          rw [h2] at h
          cases h
          have key : ∀ {es : List Expr} {ts : List Tg}, es.all notStar = true → optAll (tgOf Γ n) es = some ts → PGs X es (gTs p ts) := fun {es} => by
            induction es with
            | nil => intro ts _ h; cases h; exact r_tNil
            | cons e es ih =>
              intro ts hs h
              rw [List.all_cons, Bool.and_eq_true] at hs
              unfold optAll at h
              cases h3 : tgOf Γ n e with
              | none => rw [h3] at h; cases h
              | some t1 =>
                cases h4 : optAll (tgOf Γ n) es with
                | none => rw [h3, h4] at h; cases h
                | some ts1 =>
                  rw [h3, h4] at h
                  cases h
                  exact r_tCons (tg_ok a hc n e t1 h3) (ih hs.2 h4) (asg_map hs.1)
          exact r_tTup a.hK (a.calm.trans hc) (key hs h2) (by rw [asg_len hs, opt_all_len h2]) (asg_star hs)
      · cases h
    | _ => cases h
theorem tgw_ok (a : AgE G p k F LF Γ X WX) (hc : Γ.calm = true) {vs : List Nat} : ∀ (n : Nat) (e : Expr) (t : Tg), tgOf Γ n e = some t → (∀ i ∈ tgIx Γ n e, i ∈ vs) → PG X e (gTw p vs t)
  | 0, _, _, h, _ => by cases h
  | n + 1, e, t, h, hv => by
    cases e with
    | Name x pos =>
      have h : (if plainName x then (slotW Γ x).map tName else none) = some t := h
      split at h
      · cases h2 : slotW Γ x with
        | none => rw [h2] at h; cases h
        | some i =>
          rw [h2] at h
          cases h
          obtain ⟨q1, q2, q3⟩ := a.slotW h2
          refine r_wName a.ndX q1 q2 q3 (hv i ?_)
          show i ∈ (match slotW Γ x with | some i => [i] | none => [])
          rw [h2]
          exact List.mem_singleton.mpr rfl
      · cases h
    | Tuple es kk pos =>
      have h : (if es.all notStar then (optAll (tgOf Γ n) es).map tTup else none) = some t := h
      split at h
      · rename_i hs
        cases h2 : optAll (tgOf Γ n) es with
        | none => rw [h2] at h; cases h
        | some ts =>
          rw [h2] at h
          cases h
          have hv : ∀ i ∈ (es.map (tgIx Γ n)).flatten, i ∈ vs := hv
          have key : ∀ {es : List Expr} {ts : List Tg}, es.all notStar = true → optAll (tgOf Γ n) es = some ts → (∀ i ∈ (es.map (tgIx Γ n)).flatten, i ∈ vs) → PGs X es (gTws p vs ts) := fun {es} => by
            induction es with
            | nil => intro ts _ h _; cases h; exact r_wNil
            | cons e es ih =>
              intro ts hs h hv
              rw [List.all_cons, Bool.and_eq_true] at hs
              unfold optAll at h
              cases h3 : tgOf Γ n e with
              | none => rw [h3] at h; cases h
              | some t1 =>
                cases h4 : optAll (tgOf Γ n) es with
                | none => rw [h3, h4] at h; cases h
                | some ts1 =>
                  rw [h3, h4] at h
                  cases h
                  rw [List.map_cons, List.flatten_cons] at hv
                  exact r_wCons (tgw_ok a hc n e t1 h3 fun i hi => hv i (List.mem_append_left _ hi)) (ih hs.2 h4 fun i hi => hv i (List.mem_append_right _ hi)) (asg_map hs.1)
          exact r_wTup a.hK (a.calm.trans hc) (key hs h2 hv) (by rw [asg_len hs, opt_all_len h2]) (asg_star hs)
      · cases h
    | _ => cases h
end
end Z

set_option Elab.async false
set_option linter.all false
set_option maxRecDepth 100000
set_option maxHeartbeats 1000000
/-! Z26: expressions keep what they mean (the steps). -/
namespace Z
open PySem PySem.Spec PyProof.Rows L2
section
variable {G : Prg} {p : Pl} {k : Nat} {F : Nat → FM} {LF : LamI → Sto → R D} {Γ : Gam} {X : Cx} {WX : L2.WX} {rec_ : Rec}
theorem pi_bad {tg e : Expr} : PI X tg e (tI p WX fun _ _ => .bad) := ⟨fun _ _ _ _ _ _ ⟨_, _, _, _, _, q⟩ => q.elim⟩
theorem pt_bad {e : Expr} : PT X e (tB p WX bBad) := ⟨fun _ _ _ _ _ _ ⟨_, _, _, _, _, q⟩ => q.elim⟩
theorem pw_bad {e : Expr} : PW X e (tB p WX bBad) := ⟨fun _ _ _ _ _ _ _ ⟨_, _, _, _, _, q⟩ => q.elim⟩
theorem and_t {a b : Bool} (h : (a && b) = true) : a = true ∧ b = true := by cases a <;> cases b <;> first | exact ⟨rfl, rfl⟩ | cases h
theorem stepW_ok (hr : RecOk G p k F LF rec_) (a : AgE G p k F LF Γ X WX) (tg e : Expr) : PI X tg e (tI p WX (stepW G rec_ Γ tg e)) := by
  have val : PI X tg e (tI p WX (wVal (rec_ Γ e).1)) := pi_val a.hK (hr Γ X WX e a).1
  unfold stepW
  split
  · rename_i f pp args pos
    split
    · rename_i h
      obtain ⟨hg, hn⟩ := and_t h
      have hn := name_of hn
      subst hn
      have hm : X.mg "range" = none := a.blt (by unfold bltNames; simp)
      split
      · rename_i x
        split
        · rename_i h1
          exact r_rng1 (a.gl hg) hm (aList_ok hr a [x]) (fun e s ds s1 h => (aList_len e s h).1) (by rw [star_cons h1]; rfl)
        · exact pi_bad
      · rename_i x y
        split
        · rename_i h1
          obtain ⟨h1, h2⟩ := and_t h1
          exact r_rng2 (a.gl hg) hm (aList_ok hr a [x, y]) (fun e s ds s1 h => (aList_len e s h).1) (by rw [star_cons h1, star_cons h2]; rfl) (by rw [star_cons h2]; rfl)
        · exact pi_bad
      · rename_i x y z
        split
        · rename_i h1
          obtain ⟨h1, h3⟩ := and_t h1
          obtain ⟨h1, h2⟩ := and_t h1
          exact r_rng3 (a.gl hg) hm (aList_ok hr a [x, y, z]) (fun e s ds s1 h => (aList_len e s h).1) (star_cons h1) (star_plain (by rw [List.all_cons, List.all_cons, h2, h3]; rfl))
        · exact pi_bad
      · exact pi_bad
    · split
      · rename_i h
        obtain ⟨hg, hn⟩ := and_t h
        have hn := name_of hn
        subst hn
        have hm : X.mg "enumerate" = none := a.blt (by unfold bltNames; simp)
        split
        · rename_i x es kk tpos
          split
          · rename_i h1
            exact r_enu a.hK (a.gl hg) hm (hr Γ X WX x a).1 (star_cons h1) rfl
          · exact pi_bad
        · exact pi_bad
      · exact val
  · exact val
/-! ### comprehensions -/
theorem ifs_ok (hr : RecOk G p k F LF rec_) (a : AgE G p k F LF Γ X WX) (ifs : List Expr) : ∃ tt : TT, PTs X ifs tt ∧ ∀ σ H Q, tB p WX (ifsOf Γ rec_ ifs) σ H Q → tt σ H Q := by
  cases ifs with
  | nil => exact ⟨tYes, pts_nil, fun σ H Q ⟨W, e, s, re, rp, q⟩ => Post.same rp q rfl⟩
  | cons c r =>
    cases r with
    | nil => exact ⟨_, pts_one (hr Γ X WX c a).2, fun σ H Q h => h⟩
    | cons c2 r => exact ⟨fun _ _ _ => False, ⟨fun _ _ _ _ _ _ z => z.elim⟩, fun σ H Q ⟨_, _, _, _, _, q⟩ => q.elim⟩
/-- the reading of a comprehension's tests -/
def ttOf (p : Pl) (WX : L2.WX) (Γ : Gam) (rec_ : Rec) : List Expr → TT
  | [] => tYes
  | [c] => tB p WX (rec_ Γ c).2
  | _ => fun _ _ _ => False
theorem tt_pts (hr : RecOk G p k F LF rec_) (a : AgE G p k F LF Γ X WX) : ∀ ifs, PTs X ifs (ttOf p WX Γ rec_ ifs)
  | [] => pts_nil
  | [c] => pts_one (hr Γ X WX c a).2
  | _ :: _ :: _ => ⟨fun _ _ _ _ _ _ z => z.elim⟩
theorem tt_imp {ifs : List Expr} : ∀ σ H Q, tB p WX (ifsOf Γ rec_ ifs) σ H Q → ttOf p WX Γ rec_ ifs σ H Q := by
  intro σ H Q h
  match ifs, h with
  | [], ⟨W, e, s, re, rp, q⟩ => exact Post.same rp q rfl
  | [c], h => exact h
  | _ :: _ :: _, ⟨_, _, _, _, _, q⟩ => exact q.elim
theorem compOf_eq {Γ' : Gam} {scope : Scope} {ok : Bool} {elt tg iter : Expr} {ifs : List Expr} {m : CompM} (h : compOf G rec_ Γ Γ' scope ok elt tg iter ifs = some m) :
    ok = true ∧ Γ.calm = true ∧ m.vs = (ownOf Γ.N scope).map (·.2) ∧ tgOf Γ' 4 tg = some m.t ∧ (∀ i ∈ tgIx Γ' 4 tg, i ∈ (ownOf Γ.N scope).map (·.2)) ∧ m.w = stepW G rec_ Γ tg iter ∧ m.c = ifsOf Γ' rec_ ifs ∧ m.el = (rec_ Γ' elt).1 := by
  unfold compOf at h
  split at h
  · rename_i t ht
    split at h
    · rename_i hc
      obtain ⟨hc, h3⟩ := and_t hc
      obtain ⟨h1, h2⟩ := and_t hc
      cases h
      refine ⟨h1, h2, rfl, ht, fun i hi => ?_, rfl, rfl, rfl⟩
      have := List.all_eq_true.mp h3 i hi
      exact List.contains_iff_mem.mp this
    · cases h
  · cases h
theorem lc_ok (hr : RecOk G p k F LF rec_) (a : AgE G p k F LF Γ X WX) {elt tg iter : Expr} {ifs : List Expr} {scope : Scope} {pos : Pos} {b : Bool} {m : CompM}
    (h : compOf G rec_ Γ (blkG Γ scope) scope (blkC Γ.N Γ.sc scope (ownOf Γ.N scope) && notSet iter) elt tg iter ifs = some m) : PE X (.ListComp elt [⟨tg, iter, ifs, 0⟩] scope pos) (tE p WX (mLc b m.vs m.t m.w m.c m.el)) := by
  obtain ⟨h1, h2, h3, h4, h5, h6, h7, h8⟩ := compOf_eq h
  obtain ⟨h1, h9⟩ := and_t h1
  have ok : BlkOk X.N X.env.scope scope (ownOf Γ.N scope) := by rw [a.N, a.sc]; exact blkOk_by h1
  rw [h3, h6, h7, h8]
  exact r_lc (a.calm.trans h2) a.ndX (stepW_ok hr a tg iter) ok (fun s H C cl fp => tgw_ok (a.blk ok.uniq) h2 4 tg m.t h4 h5) (fun s H C cl fp => tt_pts hr (a.blk ok.uniq) ifs) tt_imp (fun s H C cl fp => (hr _ _ _ elt (a.blk ok.uniq)).1) (fold_set h9)
theorem setLc_ok (hr : RecOk G p k F LF rec_) (a : AgE G p k F LF Γ X WX) {elt tg iter : Expr} {ifs : List Expr} {scope : Scope} {pos : Pos} {b : Bool} {m : CompM} {i : Nat} {y : Str} {py spos : Pos} (hy : X.N[i]? = some y) (hyl : X.env.scope.names.lookup y = some .local)
    (hsw : swapsWith (.ListComp elt [⟨tg, iter, ifs, 0⟩] scope pos) (some (.Name y py)) spos.line X.env = pure true)
    (h : compOf G rec_ Γ (blkG Γ scope) scope (blkC Γ.N Γ.sc scope (ownOf Γ.N scope) && notSet iter) elt tg iter ifs = some m) : PS X (.Assign [.Name y py] (.ListComp elt [⟨tg, iter, ifs, 0⟩] scope pos) spos) (tS p WX (sAsg (tName i) (mLc b m.vs m.t m.w m.c m.el))) := by
  obtain ⟨h1, h2, h3, h4, h5, h6, h7, h8⟩ := compOf_eq h
  obtain ⟨h1, h9⟩ := and_t h1
  have ok : BlkOk X.N X.env.scope scope (ownOf Γ.N scope) := by rw [a.N, a.sc]; exact blkOk_by h1
  rw [h3, h6, h7, h8]
  exact r_setLc (a.calm.trans h2) a.ndX hy hyl hsw (stepW_ok hr a tg iter) ok (fun s H C cl fp => tgw_ok (a.blk ok.uniq) h2 4 tg m.t h4 h5) (fun s H C cl fp => tt_pts hr (a.blk ok.uniq) ifs) tt_imp (fun s H C cl fp => (hr _ _ _ elt (a.blk ok.uniq)).1) (fold_set h9)
/-- a generator expression's parts -/
theorem gen_ok (hr : RecOk G p k F LF rec_) (a : AgE G p k F LF Γ X WX) {e : Expr} {m : CompM} (h : genOf G rec_ Γ e = some m) :
    ∃ (elt tg iter : Expr) (ifs : List Expr) (scope : Scope) (gpos : Pos) (c P : Addr) (own : List (Str × Nat)) (tt : TT), e = .GeneratorExp elt [⟨tg, iter, ifs, 0⟩] scope gpos ∧ Γ.calm = true ∧ m.vs = own.map (·.2) ∧ Room (8 * k + (Γ.x - 3) + 3) X.A ∧
      GxH X p c P scope own ∧ GxE X p WX (8 * k + (Γ.x - 3)) scope own tg iter elt ifs m.t m.w m.c tt m.el := by
  unfold genOf at h
  split at h
  · rename_i elt tg iter ifs scope gpos
    obtain ⟨h1, h2, h3, h4, h5, h6, h7, h8⟩ := compOf_eq h
    obtain ⟨h1, h9⟩ := and_t h1
    obtain ⟨h1, h10⟩ := and_t h1
    obtain ⟨h1, h11⟩ := and_t h1
    have h10 := of_decide_eq_true h10
    have ok : GxOk X.N X.env.scope scope (ownOf Γ.N scope) := by rw [a.N, a.sc]; exact gxOk_by h1
    obtain ⟨c, P, tb, hcode, htg, htl⟩ := a.gx h11
    have room := a.room h2
    refine ⟨elt, tg, iter, ifs, scope, gpos, c, P, ownOf Γ.N scope, ttOf p W0x (gxG Γ scope) rec_ ifs, rfl, h2, h3, room.mono (by omega), ⟨room.depth, a.calm.trans h2, a.ndX, tb, hcode, ok, htg, htl⟩, ?_⟩
    rw [h6, h7, h8]
    exact ⟨stepW_ok hr a tg iter, fun A s H L cd fp hr' => tgw_ok (a.gxc ok.blk.uniq h10 hr') h2 4 tg m.t h4 h5, fun A s H L cd fp hr' => tt_pts hr (a.gxc ok.blk.uniq h10 hr') ifs, tt_imp, fun A s H L cd fp hr' => (hr _ _ _ elt (a.gxc ok.blk.uniq h10 hr')).1, fold_gen h9⟩
  · cases h
end
end Z

set_option Elab.async false
set_option linter.all false
set_option maxRecDepth 100000
set_option maxHeartbeats 1000000
/-! Z27: expressions keep what they mean (all). -/
namespace Z
open PySem PySem.Spec PyProof.Rows L2
section
variable {G : Prg} {p : Pl} {k : Nat} {F : Nat → FM} {LF : LamI → Sto → R D} {Γ : Gam} {X : Cx} {WX : L2.WX} {rec_ : Rec}
theorem pt_ifExp {X : Cx} {c a b : Expr} {tc ta tb : TT} {pos : Pos} (hc : PT X c tc) (ha : PT X a ta) (hb : PT X b tb) : PT X (.IfExp c a b pos) (fun σ H Q => tc σ H fun z H1 => if z = true then ta σ H1 Q else tb σ H1 Q) := by
  refine ⟨fun pins s σ H Q I h => ?_⟩
  refine isTrue_IfExp (thn (hc.run pins s σ H _ I h) fun z s1 ⟨H1, I1, q1⟩ => ?_)
  cases z with
  | true => exact ha.run pins s1 σ H1 Q I1 q1
  | false => exact hb.run pins s1 σ H1 Q I1 q1
theorem r_bIf {c a b : MB} {ec ea eb : Expr} {pos : Pos} (hc : PT X ec (tB p WX c)) (ha : PT X ea (tB p WX a)) (hb : PT X eb (tB p WX b)) : PT X (.IfExp ec ea eb pos) (tB p WX (bIf c a b)) :=
  PT.imp (pt_ifExp hc ha hb) fun _ _ _ ⟨W, e, s, re, rp, q⟩ => ⟨W, e, s, re, rp, q.fold fun W1 H1 d v s1 l fr rp1 rv q1 => by
    subst rv
    cases v with
    | true => rw [if_pos rfl]; exact ⟨W1, e, s1, re.mono l, rp1, q1⟩
    | false => rw [if_neg Bool.false_ne_true]; exact ⟨W1, e, s1, re.mono l, rp1, q1⟩⟩
theorem r_mTbad {m : ME} {e : Expr} (h : ∀ en s, m en s = .bad) : PT X e (tB p WX (mT m)) := ⟨fun _ _ _ _ _ _ ⟨_, en, s, _, _, q⟩ => by
  unfold mT at q
  rw [h] at q
  exact q.elim⟩
theorem chain_ok (hr : RecOk G p k F LF rec_) (a : AgE G p k F LF Γ X WX) (l : Expr) (ops : List CmpOp) (es : List Expr) (pos : Pos) : PE X (.Compare l ops es pos) (tE p WX (chainE G rec_ Γ l ops es)) ∧ PT X (.Compare l ops es pos) (tB p WX (mB (chainE G rec_ Γ l ops es))) := by
  have bad : PE X (.Compare l ops es pos) (tE p WX mBad) ∧ PT X (.Compare l ops es pos) (tB p WX (mB mBad)) := ⟨r_bad, ⟨fun _ _ _ _ _ _ ⟨_, en, s, _, _, q⟩ => q.elim⟩⟩
  unfold chainE
  split
  · rename_i op b
    split
    · exact bad
    · rename_i hm
      rw [Bool.not_eq_true] at hm
      exact ⟨r_cmp (cmp_R a.hK a.un op) (hr Γ X WX l a).1 (hr Γ X WX b a).1 hm, r_cmpT (cmp_R a.hK a.un op) (hr Γ X WX l a).1 (hr Γ X WX b a).1 hm⟩
  · rename_i op op' b c
    split
    · exact bad
    · rename_i hm
      rw [Bool.not_eq_true] at hm
      exact ⟨r_chain (cmp_R a.hK a.un op) (cmp_R a.hK a.un op') (hr Γ X WX l a).1 (hr Γ X WX b a).1 (hr Γ X WX c a).1 hm, r_chainT (cmp_R a.hK a.un op) (cmp_R a.hK a.un op') (hr Γ X WX l a).1 (hr Γ X WX b a).1 (hr Γ X WX c a).1 hm⟩
  · exact bad
theorem boolsE_ok (hr : RecOk G p k F LF rec_) (a : AgE G p k F LF Γ X WX) {op : BoolOp} {pos : Pos} : ∀ es, PE X (.BoolOp op es pos) (tE p WX (boolsE op Γ rec_ es))
  | [] => r_bad
  | [x] => pe_one (hr Γ X WX x a).1
  | x :: y :: r => by
    have ih := boolsE_ok hr a (op := op) (pos := pos) (y :: r)
    cases op with
    | And => exact r_and a.hK (hr Γ X WX x a).1 ih
    | Or => exact r_or a.hK (hr Γ X WX x a).1 ih
theorem boolsT_ok (hr : RecOk G p k F LF rec_) (a : AgE G p k F LF Γ X WX) {op : BoolOp} {pos : Pos} : ∀ es, PW X (.BoolOp op es pos) (tB p WX (boolsT op Γ rec_ es))
  | [] => pw_bad
  | [x] => by
    cases op with
    | And => exact pw_and1 (hr Γ X WX x a).2
    | Or => exact pw_or1 (hr Γ X WX x a).2
  | x :: y :: r => by
    have ih := boolsT_ok hr a (op := op) (pos := pos) (y :: r)
    cases op with
    | And => exact r_bAnd (hr Γ X WX x a).2 ih
    | Or => exact r_bOr (hr Γ X WX x a).2 ih
theorem slOpt_ok (hr : RecOk G p k F LF rec_) (a : AgE G p k F LF Γ X WX) : ∀ o, PO X o (tO p WX (slOpt Γ rec_ o))
  | none => r_oNone
  | some e => r_oSome (hr Γ X WX e a).1
theorem one_is {st : Expr} (h : isOne st = true) : ∃ j p1 p2, st = .UnaryOp .USub (.Constant (.int 1) j p1) p2 := by
  unfold isOne at h
  split at h
  · exact ⟨_, _, _, rfl⟩
  · cases h
theorem meth_ok (hr : RecOk G p k F LF rec_) (a : AgE G p k F LF Γ X WX) (o : Expr) (nm : Str) (apos : Pos) (args : List Expr) (pos : Pos) : PE X (.Call (.Attribute o nm apos) args [] pos) (tE p WX (stepMeth G rec_ Γ o nm apos args pos)) := by
  unfold stepMeth
  split
  · exact r_bad
  · rename_i h
    rw [Bool.not_eq_true, Bool.or_eq_false_iff, Bool.not_eq_false', Bool.not_eq_false'] at h
    split
    · rename_i x
      split
      · rename_i hn
        obtain ⟨hn, hx⟩ := and_t hn
        have hn := name_of hn
        subst hn
        split
        · rename_i hc
          exact r_Mt (id := "str.index") a.hK PySem.F.plainAttrs_str PySem.F.slot_str_index PySem.F.type_str_index (mt_indexS a.tk (a.calm.trans hc)) (hr Γ X WX o a).1 (aList_ok hr a [x]) (attr_base h.2)
              (by rw [star_not (by rw [List.all_cons, hx]; rfl)]; rfl) h.1 (star_cons hx) rfl
        · exact r_bad
      · exact r_bad
    · exact r_bad
theorem blt_ne {x : Str} (h : plainName x = true) : (x == ("__debug__" : Str)) = false := (plain_debug h).1
theorem call_ok (hr : RecOk G p k F LF rec_) (a : AgE G p k F LF Γ X WX) (f : Str) (pp : Pos) (args : List Expr) (pos : Pos) : PE X (.Call (.Name f pp) args [] pos) (tE p WX (stepCall G F LF rec_ Γ f args pos)) := by
  unfold stepCall
  split
  · exact r_bad
  · rename_i hpn
    have hpn : plainName f = true := by
      cases h : plainName f with
      | true => rfl
      | false => rw [h] at hpn; exact absurd rfl hpn
    obtain ⟨hdb, hcd⟩ := plain_debug hpn
    split
    · rename_i i hi
      obtain ⟨hN, hv⟩ := a.slot hi
      split
      · split
        · rename_i h
          obtain ⟨h1, h2⟩ := and_t h
          have h1 := of_decide_eq_true h1
          exact r_lamCall a.hK a.tk a.lam ((a.room h2).mono (by omega)) hN hv hdb hcd
        · exact r_bad
      · exact r_bad
    · split
      · exact r_bad
      · rename_i hg
        have hg : glob Γ f = true := by
          cases h : glob Γ f with
          | true => rfl
          | false => rw [h] at hg; exact absurd rfl hg
        have hgl := a.gl hg
        split
        · rename_i i d hd
          split
          · rename_i h
            obtain ⟨hc, hst⟩ := and_t h
            obtain ⟨fa, fd, h1, h2, h3, h4⟩ := a.wf.defs f i d hd
            have room : Room (8 * k) X.A := (a.room hc).mono (by omega)
            cases args with
            | nil => exact r_call0 h4 room hgl h1 h2 h3 a.tk hdb
            | cons x xs =>
              rw [List.all_cons, Bool.and_eq_true] at hst
              exact r_call h4 room hgl h1 h2 h3 a.tk (aList_ok hr a (x :: xs)) hdb (star_cons hst.1) (star_plain hst.2)
          · exact r_bad
        · split
          · exact r_bad
          · rename_i x
            split
            · rename_i m hm
              obtain ⟨elt, tg, iter, ifs, scope, gpos, c, P, own, tt, he, hc, hvs, hroom, GH, GE⟩ := gen_ok hr a hm
              subst he
              rw [hvs]
              split
              · exact r_bad
              · split
                · rename_i hn
                  have hn := name_of hn
                  subst hn
                  exact pe_qnG (st := true) GH GE hroom hgl (a.blt (by unfold bltNames; simp)) rfl (by decide) hdb rfl rfl
                · split
                  · rename_i hn
                    have hn := name_of hn
                    subst hn
                    exact pe_qnG (st := false) GH GE hroom hgl (a.blt (by unfold bltNames; simp)) rfl (by decide) hdb rfl rfl
                  · split
                    · rename_i hn
                      have hn := name_of hn
                      subst hn
                      exact pe_tupleG GH GE hroom hgl (a.blt (by unfold bltNames; simp)) rfl (by decide) hdb rfl rfl
                    · split
                      · rename_i hn
                        have hn := name_of hn
                        subst hn
                        exact pe_sumG GH GE hroom hgl (a.blt (by unfold bltNames; simp)) rfl (by decide) hdb rfl rfl
                      · exact r_bad
            · split
              · exact r_bad
              · rename_i hst
                have hst : notStar x = true := by
                  cases h : notStar x with
                  | true => rfl
                  | false => rw [h] at hst; exact absurd rfl hst
                have ha := aList_ok hr a [x]
                have he : starEach [x] X.env = (false, eval x X.env) :: starEach [] X.env := star_cons hst
                split
                · rename_i hn
                  have hn := name_of hn
                  subst hn
                  exact r_B (b_len a.hK) hgl (a.blt (by unfold bltNames; simp)) rfl ha (by decide) hdb he rfl
                · split
                  · rename_i hn
                    have hn := name_of hn
                    subst hn
                    exact r_Ty b_int hgl (a.blt (by unfold bltNames; simp)) rfl ha (by decide) hdb he rfl
                  · split
                    · rename_i hn
                      have hn := name_of hn
                      subst hn
                      exact r_B b_abs hgl (a.blt (by unfold bltNames; simp)) rfl ha (by decide) hdb he rfl
                    · split
                      · rename_i hn
                        have hn := name_of hn
                        subst hn
                        exact r_Ty (b_list a.hK _) hgl (a.blt (by unfold bltNames; simp)) rfl ha (by decide) hdb he rfl
                      · split
                        · rename_i hn
                          have hn := name_of hn
                          subst hn
                          exact r_Ty (b_tup a.hK) hgl (a.blt (by unfold bltNames; simp)) rfl ha (by decide) hdb he rfl
                        · split
                          · rename_i hn
                            have hn := name_of hn
                            subst hn
                            exact r_Ty b_str hgl (a.blt (by unfold bltNames; simp)) rfl ha (by decide) hdb he rfl
                          · split
                            · rename_i hn
                              have hn := name_of hn
                              subst hn
                              split
                              · rename_i hc
                                exact r_B (b_sum a.hK (a.calm.trans hc)) hgl (a.blt (by unfold bltNames; simp)) rfl ha (by decide) hdb he rfl
                              · exact r_bad
                            · exact r_bad
          · rename_i x y
            split
            · exact r_bad
            · rename_i hst
              have hst : (notStar x && notStar y) = true := by
                cases h : (notStar x && notStar y) with
                | true => rfl
                | false => rw [h] at hst; exact absurd rfl hst
              obtain ⟨hx, hy⟩ := and_t hst
              have ha := aList_ok hr a [x, y]
              have he : starEach [x, y] X.env = (false, eval x X.env) :: starEach [y] X.env := star_cons hx
              have hpl : (backTo pos (starEach [y] X.env)).any (·.1) = false := star_plain (by rw [List.all_cons, hy]; rfl)
              split
              · rename_i hn
                have hn := name_of hn
                subst hn
                split
                · rename_i hc
                  exact r_B (b_max (a.calm.trans hc)) hgl (a.blt (by unfold bltNames; simp)) rfl ha (by decide) hdb he hpl
                · exact r_bad
              · split
                · rename_i hn
                  have hn := name_of hn
                  subst hn
                  split
                  · rename_i hc
                    exact r_B (b_min (a.calm.trans hc)) hgl (a.blt (by unfold bltNames; simp)) rfl ha (by decide) hdb he hpl
                  · exact r_bad
                · exact r_bad
          · exact r_bad
theorem stepE_ok (hr : RecOk G p k F LF rec_) (a : AgE G p k F LF Γ X WX) (e : Expr) : PE X e (tE p WX (stepE G F LF rec_ Γ e)) := by
  unfold stepE
  split
  · rename_i c _ _
    split
    · exact r_C pe_int fun W => rel_int
    · exact r_C pe_bl fun W => rel_bl
    · exact r_C pe_non fun W => rel_non
    · exact r_C pe_str fun W => rel_str
    · exact r_bad
  · rename_i x pos
    split
    · exact r_bad
    · rename_i hpn
      have hpn : plainName x = true := by
        cases h : plainName x with
        | true => rfl
        | false => rw [h] at hpn; exact absurd rfl hpn
      obtain ⟨hdb, hcd⟩ := plain_debug hpn
      split
      · rename_i i hi
        obtain ⟨hN, hv⟩ := a.slot hi
        exact r_var hN hv hdb hcd
      · split
        · rename_i hg
          split
          · rename_i d hd
            obtain ⟨v, u, h1, h2, h3⟩ := a.wf.consts x d hd
            exact r_C (pe_glob (a.gl hg) h1 h2 hdb) fun W => a.hK ▸ h3 W
          · exact r_bad
        · exact r_bad
  · rename_i x op y pos
    exact r_bin (bin_R a.hK _ op) (hr Γ X WX x a).1 (hr Γ X WX y a).1
  · rename_i x pos
    exact r_m1 (fun h => pe_un un_negR h) (hr Γ X WX x a).1
  · rename_i x pos
    exact r_not a.hK (hr Γ X WX x a).1
  · rename_i l ops es pos
    exact (chain_ok hr a l ops es pos).1
  · rename_i op es pos
    exact boolsE_ok hr a es
  · rename_i c x y pos
    exact r_if (hr Γ X WX c a).2 (hr Γ X WX x a).1 (hr Γ X WX y a).1
  · rename_i es kk pos
    exact r_tup (aList_ok hr a es)
  · rename_i es pos
    exact r_lst (aList_ok hr a es)
  · rename_i x i pos
    split
    · rename_i st _
      split
      · rename_i h
        obtain ⟨j, p1, p2, rfl⟩ := one_is h
        exact r_back a.hK (hr Γ X WX x a).1
      · exact r_bad
    · rename_i lo hi _
      exact r_sl a.hK (hr Γ X WX x a).1 (slOpt_ok hr a lo) (slOpt_ok hr a hi)
    · exact r_bad
    · rename_i hne
      refine r_ix a.hK (hr Γ X WX x a).1 (hr Γ X WX _ a).1 (ix_plain ?_)
      cases i with
      | Slice lo hi st p2 => exact absurd rfl (hne lo hi st p2)
      | _ => rfl
  · rename_i elt tg iter ifs scope pos
    split
    · rename_i m hm
      exact lc_ok hr a hm
    · exact r_bad
  · rename_i params body scope pos
    split
    · rename_i h
      obtain ⟨h1, h2⟩ := and_t h
      have L := lamG_by h1
      obtain ⟨c, P, tb, hcode, hm, hu, hg⟩ := a.lm h2
      have hfree : ∀ y ∈ scope.names, y.2 ≠ .free := fun y hy => (L.own y hy).2.2
      have hq : (⟨Γ.qual ++ "<lambda>", params, body, scope⟩ : LamI).qual = X.env.qual ++ "<lambda>" := by rw [a.qual]
      refine r_lamMk (li := ⟨Γ.qual ++ "<lambda>", params, body, scope⟩) tb hcode hm hu hg hq ?_ hfree fun cells => cloFrom_nil hfree
      have hb : params = _ := L.bind
      show defaultsOf params X.env = _
      rw [hb]
      rfl
    · exact r_bad
  · rename_i f pp args pos
    exact call_ok hr a f pp args pos
  · rename_i o nm apos args pos
    exact meth_ok hr a o nm apos args pos
  · exact r_bad
theorem stepT_ok (hr : RecOk G p k F LF rec_) (a : AgE G p k F LF Γ X WX) (e : Expr) : PT X e (tB p WX (stepT G F LF rec_ Γ e)) := by
  unfold stepT
  split
  · rename_i x pos
    exact r_bNot (hr Γ X WX x a).2
  · rename_i op es pos
    exact (boolsT_ok hr a es).pt
  · rename_i c x y pos
    exact r_bIf (hr Γ X WX c a).2 (hr Γ X WX x a).2 (hr Γ X WX y a).2
  · rename_i l ops es pos
    exact (chain_ok hr a l ops es pos).2
  · rename_i h1 h2 h3 h4
    refine r_T a.hK (stepE_ok hr a e) (test_plain ?_)
    cases e with
    | UnaryOp op x pos => cases op <;> first | rfl | exact absurd rfl (h1 x pos)
    | BoolOp op es pos => exact absurd rfl (h2 op es pos)
    | IfExp c x y pos => exact absurd rfl (h3 c x y pos)
    | Compare l ops es pos => exact absurd rfl (h4 l ops es pos)
    | _ => rfl
theorem semE_ok : ∀ n, RecOk G p k F LF (semE G F LF n)
  | 0 => fun Γ X WX e a => ⟨r_bad, pt_bad⟩
  | n + 1 => fun Γ X WX e a => ⟨stepE_ok (semE_ok n) a e, stepT_ok (semE_ok n) a e⟩
end
end Z

set_option Elab.async false
set_option linter.all false
set_option maxRecDepth 100000
set_option maxHeartbeats 1000000
/-! Z28: statements keep what they mean. -/
namespace Z
open PySem PySem.Spec PyProof.Rows L2
/-- a def's own frame too -/
structure AgS (G : Prg) (p : Pl) (k : Nat) (F : Nat → FM) (LF : LamI → Sto → R D) (Γ : Gam) (X : Cx) (WX : L2.WX) : Prop where
  e : AgE G p k F LF Γ X WX
  kind : X.env.scope.kind = .function
  stk : X.stack = X.env :: X.outer
  frm : X.env.frame = some X.env.locals
  hp : PassesOwn (model X.prog X.w) X.A X.env X.xe
theorem not_t {b : Bool} (h : ¬ b = true) : b = false := by
  cases b
  · rfl
  · exact absurd rfl h
theorem nf {b : Bool} (h : ¬ (!b) = true) : b = true := by
  cases b
  · exact absurd rfl h
  · rfl
theorem any_star : ∀ vs : List Expr, (vs.any fun | .Starred .. => true | _ => false) = !vs.all notStar
  | [] => rfl
  | a :: r => by
    rw [List.any_cons, List.all_cons, any_star r, Bool.not_and]
    congr 1
    cases a <;> rfl
theorem swapped_ok {Γ : Gam} {env : PySem.Env} {ts vs : List Expr} {k k2 : Nat} {p1 p2 : Pos} {r : Option (List Str)} (hk : env.scope.kind = .function) (hs : env.scope = Γ.sc) (h : swaps Γ ts vs = some r) : swappedStores [.Tuple ts k p1] (.Tuple vs k2 p2) env = pure r := by
  have hb : env.blockKind = .function := by unfold PySem.Env.blockKind; rw [hk]; rfl
  have hko : ∀ x, env.kindOf x = Γ.sc.names.lookup x := fun x => by rw [← hs]; rfl
  unfold swaps at h
  unfold swappedStores
  have hb2 : (env.blockKind != .function) = false := by rw [hb]; rfl
  simp only [hb2, Bool.or_false, hko]
  have hstar := any_star vs
  split at h
  · rename_i h1
    cases h
    rw [if_pos h1]
  · rename_i h1
    rw [if_neg h1]
    split at h
    · cases h
    · rename_i h2
      refine Eq.trans (if_neg fun z => h2 (hstar.symm.trans z)) ?_
      split at h
      · rename_i h3
        cases h
        exact if_pos h3
      · rename_i h3
        refine Eq.trans (if_neg h3) ?_
        split at h
        · rename_i h4
          cases h
          exact if_pos h4
        · rename_i h4
          refine Eq.trans (if_neg h4) ?_
          split at h
          · cases h
          · rename_i h5
            cases h
            exact if_neg h5
theorem swapped_none {tg e : Expr} {env : PySem.Env} (h : stepS.notTupV tg e = true) (h2 : ∀ ts k p1 vs k2 p2, tg = .Tuple ts k p1 → e = .Tuple vs k2 p2 → False) : swappedStores [tg] e env = pure none := by
  unfold swappedStores
  cases tg with
  | Tuple ts k p1 =>
    cases e with
    | Tuple vs k2 p2 => exact (h2 _ _ _ _ _ _ rfl rfl).elim
    | _ => rfl
  | List ts p1 => cases e <;> cases h
  | _ => cases e <;> rfl
section
variable {G : Prg} {p : Pl} {k : Nat} {F : Nat → FM} {LF : LamI → Sto → R D} {Γ : Gam} {X : Cx} {WX : L2.WX} {E : Rec} {recS : Gam → Stmt → MS} {recSs : Gam → List Stmt → MS}
abbrev SOk (G : Prg) (p : Pl) (k : Nat) (F : Nat → FM) (LF : LamI → Sto → R D) (recS : Gam → Stmt → MS) : Prop := ∀ (Γ : Gam) (X : Cx) (WX : L2.WX) (st : Stmt), AgS G p k F LF Γ X WX → PS X st (tS p WX (recS Γ st))
abbrev SsOk (G : Prg) (p : Pl) (k : Nat) (F : Nat → FM) (LF : LamI → Sto → R D) (recSs : Gam → List Stmt → MS) : Prop := ∀ (Γ : Gam) (X : Cx) (WX : L2.WX) (l : List Stmt), AgS G p k F LF Γ X WX → PSs X l (tS p WX (recSs Γ l))
theorem s_bad {st : Stmt} : PS X st (tS p WX sBad) := ⟨fun _ _ _ _ _ _ ⟨_, _, _, _, _, q⟩ => q.elim⟩
theorem suites_ok (h : SOk G p k F LF recS) : SsOk G p k F LF (stepSs recS) := fun Γ X WX l a => by
  induction l with
  | nil => exact r_snil
  | cons st r ih => exact r_seq (h Γ X WX st a) ih
theorem targ_ok (he : RecOk G p k F LF E) (a : AgE G p k F LF Γ X WX) (hc : Γ.calm = true) {tg : Expr} {t : Tg} (h : targ G E Γ tg = some t) : PG X tg (gT p t) := by
  unfold targ at h
  split at h
  · rename_i o i pos
    split at h
    · rename_i hs
      cases h
      refine r_tSub (he Γ X WX o a).1 (he Γ X WX i a).1 fun v => ?_
      cases i <;> first | rfl | (cases hs)
    · cases h
  · exact tg_ok a hc 4 _ _ h
theorem asgO_ok (he : RecOk G p k F LF E) (a : AgE G p k F LF Γ X WX) (hc : Γ.calm = true) {tg e : Expr} {pos : Pos} (hn : notStar tg = true) (hs : notComp e = true) (hw : swappedStores [tg] e X.env = pure none) : PS X (.Assign [tg] e pos) (tS p WX (sAsgO (targ G E Γ tg) (E Γ e).1)) := by
  unfold sAsgO
  split
  · rename_i t ht
    exact r_asg (he Γ X WX e a).1 (targ_ok he a hc ht) (swapSole_not hs) hw (asg_map hn)
  · exact s_bad
/-- no exception comes of it -/
def NoEx (m : MS) : Prop := ∀ e s c e' s', m e s ≠ .ex c e' s'
def QuietE (E : Rec) : Prop := ∀ Γ c kk pos e s x s', (E Γ (.Constant c kk pos)).1 e s ≠ .exc x s'
def QuietS (recS : Gam → Stmt → MS) : Prop := ∀ Γ st, Γ.calm = false → quietS st = true → NoEx (recS Γ st)
theorem quiet_Ss (h : QuietS recS) : ∀ l, Γ.calm = false → l.all quietS = true → NoEx (stepSs recS Γ l)
  | [], _, _ => fun e s c e' s' z => by cases z
  | st :: r, hc, hq => fun e s c e' s' z => by
    rw [List.all_cons, Bool.and_eq_true] at hq
    have z : sSeq (recS Γ st) (stepSs recS Γ r) e s = .ex c e' s' := z
    unfold sSeq at z
    cases h1 : recS Γ st e s with
    | nx e1 s1 => rw [h1] at z; exact quiet_Ss h r hc hq.2 _ _ _ _ _ z
    | ex c1 e1 s1 => exact h Γ st hc hq.1 _ _ _ _ _ h1
    | rt d s1 => rw [h1] at z; cases z
    | bk e1 s1 => rw [h1] at z; cases z
    | ct e1 s1 => rw [h1] at z; cases z
    | bad => rw [h1] at z; cases z
end
end Z

set_option Elab.async false
set_option linter.all false
set_option maxRecDepth 100000
set_option maxHeartbeats 1000000
/-! Z29: statements keep what they mean (all). -/
namespace Z
open PySem PySem.Spec PyProof.Rows L2
section
variable {G : Prg} {p : Pl} {k : Nat} {F : Nat → FM} {LF : LamI → Sto → R D} {Γ : Gam} {X : Cx} {WX : L2.WX} {E : Rec} {recS : Gam → Stmt → MS} {recSs : Gam → List Stmt → MS}
abbrev LcSetOk (G : Prg) (p : Pl) (k : Nat) (F : Nat → FM) (LF : LamI → Sto → R D) (E : Rec) : Prop := ∀ (Γ : Gam) (X : Cx) (WX : L2.WX) (x : Str) (i : Nat) (py spos lpos : Pos) (elt tg iter : Expr) (ifs : List Expr) (scope : Scope), AgE G p k F LF Γ X WX → X.N[i]? = some x → X.env.scope.names.lookup x = some .local →
  swapsWith (.ListComp elt [⟨tg, iter, ifs, 0⟩] scope lpos) (some (.Name x py)) spos.line X.env = pure true → PS X (.Assign [.Name x py] (.ListComp elt [⟨tg, iter, ifs, 0⟩] scope lpos) spos) (tS p WX (sAsg (tName i) (E Γ (.ListComp elt [⟨tg, iter, ifs, 0⟩] scope lpos)).1))
theorem semE_lc : ∀ n, LcSetOk G p k F LF (semE G F LF n)
  | 0 => fun Γ X WX x i py spos lpos elt tg iter ifs scope a h1 h2 h3 => ⟨fun _ _ _ _ _ _ ⟨_, _, _, _, _, q⟩ => q.elim⟩
  | n + 1 => fun Γ X WX x i py spos lpos elt tg iter ifs scope a h1 h2 h3 => by
    show PS X _ (tS p WX (sAsg (tName i) (match compOf G (semE G F LF n) Γ (blkG Γ scope) scope (blkC Γ.N Γ.sc scope (ownOf Γ.N scope) && notSet iter) elt tg iter ifs with
      | some m => mLc (G.fresh lpos) m.vs m.t m.w m.c m.el
      | none => mBad)))
    split
    · rename_i m hm
      exact setLc_ok (semE_ok n) a h1 h2 h3 hm
    · exact ⟨fun _ _ _ _ _ _ ⟨_, _, _, _, _, q⟩ => q.elim⟩
theorem raise_of {G : Prg} {Γ : Gam} {ex : Option Expr} {c : Nat} (h : raiseX G Γ ex = some c) : ∃ x m j p1 p2 p3, ex = some (.Call (.Name x p1) [.Constant (.str m) j p2] [] p3) ∧ glob Γ x = true ∧ plainName x = true ∧ ixOf x G.excs = some c := by
  unfold raiseX at h
  split at h
  · split at h
    · rename_i h1
      obtain ⟨h1, h2⟩ := and_t h1
      exact ⟨_, _, _, _, _, _, rfl, h1, h2, h⟩
    · cases h
  · cases h
theorem ixOf_lt {x : Str} : ∀ {l : List Str} {i : Nat}, ixOf x l = some i → i < l.length := fun h => by
  have := ixOf_get h
  exact (List.getElem?_eq_some_iff.mp this).1
theorem stepS_ok (he : RecOk G p k F LF E) (hl : LcSetOk G p k F LF E) (hS : SOk G p k F LF recS) (hQ : QuietS recS) (a : AgS G p k F LF Γ X WX) (st : Stmt) : PS X st (tS p WX (stepS G E recS (stepSs recS) Γ st)) := by
  have hSs : SsOk G p k F LF (stepSs recS) := suites_ok hS
  unfold stepS
  split
  · exact r_pass
  · exact r_break
  · exact r_cont
  · exact r_retN
  · rename_i e _
    exact r_ret (he Γ X WX e a.e).1
  · rename_i e pos
    split
    · rename_i h
      exact r_expr (he Γ X WX e a.e).1 (swap_not h)
    · exact s_bad
  · rename_i c b1 b2 pos
    exact r_ifS (he Γ X WX c a.e).2 (hSs Γ X WX b1 a) (hSs Γ X WX b2 a)
  · rename_i tg e pos
    split
    · rename_i x px elt ctg iter ifs scope lpos
      split
      · rename_i i hi
        split
        · rename_i h
          simp only [Bool.and_eq_true, beq_iff_eq, Bool.not_eq_true', decide_eq_true_eq] at h
          obtain ⟨⟨⟨⟨⟨⟨h1, h2⟩, h3⟩, h4⟩, h5⟩, h6⟩, h7⟩ := h
          obtain ⟨q1, q2, q3⟩ := a.e.slotW hi
          have hx : X.env.scope.names.lookup x = some .local := by rw [a.e.sc]; exact h3
          exact hl Γ X WX x i px pos lpos elt ctg iter ifs scope a.e q1 hx (sw_true a.kind hx (beq_iff_eq.mpr h4) h7)
        · exact s_bad
      · exact s_bad
    · rename_i ts kt pt vs kv pv
      split
      · exact s_bad
      · rename_i hst
        have hst : ts.all notStar = true := nf hst
        split
        · rename_i hsw
          split
          · rename_i hc
            exact asgO_ok he a.e hc rfl rfl (swapped_ok a.kind a.e.sc hsw)
          · exact s_bad
        · rename_i names hsw
          have hsw' := swapped_ok (k := kt) (k2 := kv) (p1 := pt) (p2 := pv) a.kind a.e.sc hsw
          have hn : names = swN Γ ts := by
            unfold swaps at hsw
            split at hsw
            · cases hsw
            · split at hsw
              · cases hsw
              · split at hsw
                · cases hsw
                · split at hsw
                  · cases hsw
                  · split at hsw
                    · cases hsw
                    · cases hsw; rfl
          have hlen : names.length = ts.length := by
            rw [hn]
            unfold swaps at hsw
            split at hsw
            · cases hsw
            · split at hsw
              · cases hsw
              · split at hsw
                · cases hsw
                · rename_i h3
                  have h3 := not_t h3
                  rw [Bool.or_eq_false_iff] at h3
                  simpa using h3.1
          have hall : ∀ (y : Str) (py : Pos), (Expr.Name y py) ∈ ts → Γ.sc.names.lookup y = some .local := by
            intro y py hy
            have key : ∀ {f : Expr → Option Str} {l : List Expr}, (l.filterMap f).length = l.length → ∀ e ∈ l, ∃ z, f e = some z := by
              intro f l
              induction l with
              | nil => intro _ e he; cases he
              | cons a r ih =>
                intro hl e he
                rw [List.filterMap_cons] at hl
                cases hfa : f a with
                | none =>
                  rw [hfa] at hl
                  have := List.length_filterMap_le f r
                  rw [List.length_cons] at hl
                  exfalso
                  have hl' : (r.filterMap f).length = r.length + 1 := hl
                  omega
                | some z =>
                  rw [hfa] at hl
                  have hl' : (z :: r.filterMap f).length = (a :: r).length := hl
                  rw [List.length_cons, List.length_cons] at hl'
                  rcases List.mem_cons.mp he with e1 | e1
                  · rw [e1]; exact ⟨z, hfa⟩
                  · exact ih (by omega) e e1
            rw [hn] at hlen
            unfold swN at hlen
            obtain ⟨z, hz⟩ := key hlen _ hy
            have hz : (if Γ.sc.names.lookup y == some .local && py.line == (ts.head?.map (·.pos.line)).getD 0 then some y else none) = some z := hz
            split at hz
            · rename_i hc
              exact beq_iff_eq.mp (and_t hc).1
            · cases hz
          have hnames : ∀ (l : List Expr), (∀ e ∈ l, ∃ y py, e = Expr.Name y py) → ts = l → names = l.filterMap (fun | .Name y _ => some y | _ => none) := by
            intro l hl e
            rw [hn]
            unfold swN
            rw [e]
            have hall' : ∀ (y : Str) (py : Pos), (Expr.Name y py) ∈ l → (Γ.sc.names.lookup y == some NameKind.local && py.line == (l.head?.map (·.pos.line)).getD 0) = true := by
              intro y py hy
              have hlen2 : (swN Γ l).length = l.length := by rw [← e, ← hn]; exact hlen
              have key : ∀ {f : Expr → Option Str} {l : List Expr}, (l.filterMap f).length = l.length → ∀ e ∈ l, ∃ z, f e = some z := by
                intro f l
                induction l with
                | nil => intro _ e he; cases he
                | cons a r ih =>
                  intro hl e he
                  rw [List.filterMap_cons] at hl
                  cases hfa : f a with
                  | none =>
                    rw [hfa] at hl
                    have := List.length_filterMap_le f r
                    rw [List.length_cons] at hl
                    exfalso
                    have hl' : (r.filterMap f).length = r.length + 1 := hl
                    omega
                  | some z =>
                    rw [hfa] at hl
                    have hl' : (z :: r.filterMap f).length = (a :: r).length := hl
                    rw [List.length_cons, List.length_cons] at hl'
                    rcases List.mem_cons.mp he with e1 | e1
                    · rw [e1]; exact ⟨z, hfa⟩
                    · exact ih (by omega) e e1
              unfold swN at hlen2
              obtain ⟨z, hz⟩ := key hlen2 _ hy
              have hz : (if Γ.sc.names.lookup y == some .local && py.line == (l.head?.map (·.pos.line)).getD 0 then some y else none) = some z := hz
              split at hz
              · rename_i hc; exact hc
              · cases hz
            have gen : ∀ (f g : Expr → Option Str) (m : List Expr), (∀ e ∈ m, f e = g e) → m.filterMap f = m.filterMap g := by
              intro f g m
              induction m with
              | nil => intro _; rfl
              | cons a r ih =>
                intro h
                rw [List.filterMap_cons, List.filterMap_cons, h a (List.mem_cons_self ..), ih fun e he => h e (List.mem_cons_of_mem _ he)]
            refine gen _ _ l fun e he => ?_
            obtain ⟨y, py, rfl⟩ := hl e he
            exact if_pos (hall' y py he)
          split
          · rename_i x1 p1 x2 p2 v1 v2 i j hij _
            split
            · rename_i h
              simp only [Bool.and_eq_true, bne_iff_ne, ne_eq] at h
              obtain ⟨⟨h1, h2⟩, h3⟩ := h
              have e := hnames [.Name x1 p1, .Name x2 p2] (fun e he => by
                rcases List.mem_cons.mp he with e1 | e1
                · exact ⟨_, _, e1⟩
                · exact ⟨_, _, List.mem_singleton.mp e1⟩) rfl
              have e : names = [x1, x2] := e
              subst e
              unfold optAll at hij
              unfold optAll at hij
              unfold optAll at hij
              cases hi : ixOf x1 Γ.N with
              | none => rw [hi] at hij; cases hij
              | some i' =>
                cases hj : ixOf x2 Γ.N with
                | none => rw [hi, hj] at hij; cases hij
                | some j' =>
                  rw [hi, hj] at hij
                  cases hij
                  refine r_par2 (a.e.calm.trans h1) a.e.ndX (by rw [a.e.N]; exact ixOf_get hi) (by rw [a.e.N]; exact ixOf_get hj) h3 (by rw [a.e.sc]; exact hall x1 p1 (List.mem_cons_self ..)) (by rw [a.e.sc]; exact hall x2 p2 (List.mem_cons_of_mem _ (List.mem_cons_self ..))) (aList_ok he a.e _) hsw' rfl
            · exact s_bad
          · rename_i x1 p1 x2 p2 x3 p3 v1 v2 v3 i j l hij _
            split
            · rename_i h
              simp only [Bool.and_eq_true, bne_iff_ne, ne_eq] at h
              obtain ⟨⟨⟨⟨h1, h2⟩, h3⟩, h4⟩, h5⟩ := h
              have e := hnames [.Name x1 p1, .Name x2 p2, .Name x3 p3] (fun e he => by
                rcases List.mem_cons.mp he with e1 | e1
                · exact ⟨_, _, e1⟩
                · rcases List.mem_cons.mp e1 with e1 | e1
                  · exact ⟨_, _, e1⟩
                  · exact ⟨_, _, List.mem_singleton.mp e1⟩) rfl
              have e : names = [x1, x2, x3] := e
              subst e
              unfold optAll at hij
              unfold optAll at hij
              unfold optAll at hij
              unfold optAll at hij
              cases hi : ixOf x1 Γ.N with
              | none => rw [hi] at hij; cases hij
              | some i' =>
                cases hj : ixOf x2 Γ.N with
                | none => rw [hi, hj] at hij; cases hij
                | some j' =>
                  cases hl : ixOf x3 Γ.N with
                  | none => rw [hi, hj, hl] at hij; cases hij
                  | some l' =>
                    rw [hi, hj, hl] at hij
                    cases hij
                    refine r_par3 (a.e.calm.trans h1) a.e.ndX (by rw [a.e.N]; exact ixOf_get hi) (by rw [a.e.N]; exact ixOf_get hj) (by rw [a.e.N]; exact ixOf_get hl) h3 h4 h5 (by rw [a.e.sc]; exact hall x1 p1 (List.mem_cons_self ..)) (by rw [a.e.sc]; exact hall x2 p2 (List.mem_cons_of_mem _ (List.mem_cons_self ..)))
                      (by rw [a.e.sc]; exact hall x3 p3 (List.mem_cons_of_mem _ (List.mem_cons_of_mem _ (List.mem_cons_self ..)))) (aList_ok he a.e _) hsw' rfl
            · exact s_bad
          · exact s_bad
        · exact s_bad
    · rename_i hn1 hn2
      split
      · rename_i h
        obtain ⟨h, h4⟩ := and_t h
        obtain ⟨h, h3⟩ := and_t h
        obtain ⟨h1, h2⟩ := and_t h
        exact asgO_ok he a.e h2 h3 h1 (swapped_none h4 fun ts k1 p1 vs k2 p2 e1 e2 => hn2 ts k1 p1 vs k2 p2 e1 e2)
      · exact s_bad
  · rename_i x px op e pos
    split
    · rename_i i hi
      split
      · rename_i h
        obtain ⟨q1, q2, q3⟩ := a.e.slotW hi
        exact r_aug a.e.hK a.e.ndX q1 q2 (he Γ X WX e a.e).1 q3
      · exact s_bad
    · exact s_bad
  · rename_i tg it body pos
    split
    · rename_i t ht
      split
      · rename_i h
        obtain ⟨h, h3⟩ := and_t h
        obtain ⟨h1, h2⟩ := and_t h
        exact r_for a.hp (a.e.calm.trans h1) (stepW_ok he a.e tg it) (tg_ok a.e h1 4 tg t ht) (hSs Γ X WX body a) (fold_set h3)
      · exact s_bad
    · exact s_bad
  · rename_i c body pos
    split
    · exact r_while a.hp (he Γ X WX c a.e).2 (hSs Γ X WX body a)
    · exact s_bad
  · rename_i ex pos
    split
    · rename_i c hc
      split
      · rename_i h
        obtain ⟨x, m, j, p1, p2, p3, rfl, h1, h2, h3⟩ := raise_of hc
        obtain ⟨g1, g2, g3, g4, g5⟩ := a.e.wf.excs x c h3
        exact r_raise (a.e.calm.trans h) a.e.tk PySem.F.excBase_ValueError g3 g1 g2 (raises_own g4 g5) (a.e.gl h1) (plain_debug h2).1
      · exact s_bad
    · exact s_bad
  · rename_i body x xp b₀ suite p1 pos
    split
    · rename_i j hj
      split
      · rename_i h
        obtain ⟨h, h5⟩ := and_t h
        obtain ⟨h, h4⟩ := and_t h
        obtain ⟨h, h3⟩ := and_t h
        obtain ⟨h1, h2⟩ := and_t h
        obtain ⟨g1, g2, g3, g4, g5⟩ := a.e.wf.excs x j hj
        refine r_try (c := .ref (p.xa j)) a.stk a.frm ⟨a.e.gl h1, (plain_debug h2).1, .inl g1⟩ a.e.tk (fun i b hb => ?_) (fun W pn xe tk po => hSs Γ _ W body ⟨a.e.tr tk, a.kind, a.stk, a.frm, po⟩) (fun b pn => hSs (coldS Γ) _ _ (b₀ :: suite) ⟨a.e.suite, a.kind, a.stk, a.frm, PassesOwn.never⟩) (quiet_Ss hQ _ rfl h5)
        split at hb
        · rename_i hi
          exact a.e.wf.sub i j b (of_decide_eq_true hi) (ixOf_lt hj) hb
        · cases hb
      · exact s_bad
    · exact s_bad
  · exact s_bad
end
end Z

set_option Elab.async false
set_option linter.all false
set_option maxRecDepth 100000
set_option maxHeartbeats 1000000
/-! Z30: bodies, defs, lambdas, levels. -/
namespace Z
open PySem PySem.Spec PyProof.Rows L2
section
variable {G : Prg} {p : Pl} {k : Nat} {F : Nat → FM} {LF : LamI → Sto → R D} {Γ : Gam} {X : Cx} {WX : L2.WX} {E : Rec} {recS : Gam → Stmt → MS} {recSs : Gam → List Stmt → MS}
theorem semE_quiet : ∀ n, QuietE (semE G F LF n)
  | 0 => fun Γ c kk pos e s x s' z => by cases z
  | n + 1 => fun Γ c kk pos e s x s' z => by
    have z : (stepE G F LF (semE G F LF n) Γ (.Constant c kk pos)) e s = .exc x s' := z
    cases c <;> cases z
theorem semS_quiet (hE : QuietE E) : ∀ n, QuietS (semS G E n)
  | 0 => fun Γ st hc hq e s c e' s' z => by cases z
  | n + 1 => fun Γ st hc hq e s c e' s' z => by
    have z : stepS G E (semS G E n) (stepSs (semS G E n)) Γ st e s = .ex c e' s' := z
    unfold quietS at hq
    split at hq
    · rename_i cc kk pos pos2 _
      have z : sRet (E Γ (.Constant cc kk pos)).1 e s = .ex c e' s' := z
      unfold sRet R.out at z
      cases h : (E Γ (.Constant cc kk pos)).1 e s with
      | ok d s1 => rw [h] at z; cases z
      | exc c1 s1 => exact hE _ _ _ _ _ _ _ _ h
      | bad => rw [h] at z; cases z
    · cases z
    · cases z
    · cases z
    · cases z
    · rename_i x px cc kk pos pos2 _
      have z : (if notComp (.Constant cc kk pos) && Γ.calm && notStar (.Name x px) && stepS.notTupV (.Name x px) (.Constant cc kk pos) then sAsgO (targ G E Γ (.Name x px)) (E Γ (.Constant cc kk pos)).1 else sBad) e s = .ex c e' s' := z
      rw [hc] at z
      rw [if_neg (by rw [Bool.and_false]; simp)] at z
      cases z
    · cases hq
theorem semS_ok (hE : RecOk G p k F LF E) (hl : LcSetOk G p k F LF E) (hq : QuietE E) : ∀ n, SOk G p k F LF (semS G E n)
  | 0 => fun Γ X WX st a => s_bad
  | n + 1 => fun Γ X WX st a => stepS_ok hE hl (semS_ok hE hl hq n) (semS_quiet hq n) a st
end
theorem defIx_get {x : Str} : ∀ {l : List DefI} {i : Nat} {d : DefI}, defIx x l = some (i, d) → l[i]? = some d ∧ x = d.name
  | [], i, d, h => by cases h
  | y :: r, i, d, h => by
    unfold defIx at h
    split at h
    · rename_i e
      cases h
      exact ⟨rfl, seq_iff.mp e⟩
    · cases h2 : defIx x r with
      | none => rw [h2] at h; cases h
      | some q =>
        obtain ⟨j, d2⟩ := q
        rw [h2] at h
        cases h
        obtain ⟨q1, q2⟩ := defIx_get h2
        exact ⟨by rw [List.getElem?_cons_succ]; exact q1, q2⟩
theorem look_mem {α : Type} {x : Str} : ∀ {l : List (Str × α)} {d : α}, look x l = some d → (x, d) ∈ l
  | [], d, h => by cases h
  | (y, a) :: r, d, h => by
    unfold look at h
    split at h
    · rename_i e
      cases h
      rw [seq_iff.mp e]
      exact List.mem_cons_self ..
    · exact List.mem_cons_of_mem _ (look_mem h)
/-- a def of the module, its code -/
structure DefFact (K : PySem.W.Frag) (mg : Str → Option Value) (base : Heap) (p : Pl) (d : DefI) (fa : Addr) (fd : FuncData) : Prop where
  at_ : mg d.name = some (.ref fa)
  keep : PySem.W.keepIn K (.ref fa) = true
  bind : Binds K fd d.ps []
  fun_ : FunD K d.name d.name d.params d.body d.scope [] [] fa fd
  sc : FnScope d.N d.ps d.scope
  gx : d.gx = true → ∃ c P, GxR.TabB base mg c P ∧ fd.code = .ref c ∧ P ∈ p.tg ∧ ∀ q ∈ p.tl, q.1 ≠ P
  lm : d.lm = true → ∃ c P, LamX.TabB base mg c P ∧ fd.code = .ref c ∧ (P, d.name ++ ".<locals>." ++ "<lambda>") ∈ p.tl ∧ (∀ q ∈ p.tl, q.1 = P → q.2 = d.name ++ ".<locals>." ++ "<lambda>") ∧ ∀ b ∈ p.tg, b ≠ P
structure ExcFact (K : PySem.W.Frag) (mg : Str → Option Value) (x : Str) (a : Addr) : Prop where
  at_ : mg x = some (.ref a)
  keep : PySem.W.keepIn K (.ref a) = true
  exc : PySem.W.excIn K a bmV "ValueError.__new__" = true
  sub : PySem.W.subIn K (.ref a) (.type "BaseException") = some true
  ty : PySem.W.typeIn K (.ref a) = some (.type "type")
/-- all of a program, as facts of the module -/
structure Facts (G : Prg) (p : Pl) (K : PySem.W.Frag) (mg : Str → Option Value) (base : Heap) : Prop where
  hK : p.K = K
  consts : ∀ q ∈ G.consts, ∃ v u, mg q.1 = some u ∧ RelV v u ∧ ∀ W, RelD K W q.2 v
  blt : ∀ x ∈ bltNames, mg x = none
  defs : ∀ d ∈ G.defs, ∃ fa fd, DefFact K mg base p d fa fd
  excs : ∀ (i : Nat) (x : Str), G.excs[i]? = some x → ExcFact K mg x (p.xa i)
  sub : ∀ i j b, i < G.excs.length → j < G.excs.length → G.sub i j = some b → PySem.W.exmOne K (.ref (p.xa i)) (.ref (p.xa j)) = some b
section
variable {G : Prg} {p : Pl} {P : Program} {w : World} {K : PySem.W.Frag} {mg : Str → Option Value} {base : Heap}
theorem Facts.wf (f : Facts G p K mg base) {k : Nat} {F : Nat → FM} (h : ∀ i d fa fd, G.defs[i]? = some d → DefFact K mg base p d fa fd → FnOk P w K mg base (L2.CX P w) (8 * k) fa fd d.ps (spOf p d.ps.length (F i))) : WF G p P w K mg base k F where
  hK := f.hK
  consts := fun x d h => f.consts (x, d) (look_mem h)
  blt := f.blt
  defs := fun x i d hd => by
    obtain ⟨h1, rfl⟩ := defIx_get hd
    obtain ⟨fa, fd, df⟩ := f.defs d (List.mem_of_getElem? h1)
    exact ⟨fa, fd, df.at_, df.keep, df.bind, h i d fa fd h1 df⟩
  excs := fun x i h => by
    have e := f.excs i x (ixOf_get h)
    exact ⟨e.at_, e.keep, e.exc, e.sub, e.ty⟩
  sub := f.sub
theorem lam_age {k : Nat} {F : Nat → FM} {LF : LamI → Sto → R D} {X : Cx} {li : LamI} {A : Around} {outer : List PySem.Env} {s : Shared} {H : Hp} {E : XK} {f c' : Addr} (wf : WF G p X.prog X.w X.K X.mg X.base k F) (lam : LamsOk X p (8 * k + 3) LF) (hr : Room (8 * k + 3) (A.deeper (lamE li s.heap.objs.size f c'))) :
    AgE G p k F LF (lamGm li) (lamX X A outer s H E li f c') (fun cls d _ H => E cls d H) where
  wf := wf
  lam := lam
  room := fun _ => hr
  un := by
    have := hr.un
    show (A.deeper (lamE li s.heap.objs.size f c')).units + 65 < cLine
    omega
  N := rfl
  nd := List.nodup_nil
  sc := rfl
  calm := rfl
  qual := rfl
  fn := fun x h => by
    rcases h with h | h
    · cases h
    · cases h
  tk := takes_lamX
  gx := fun h => by cases h
  lm := fun h => by cases h
/-- fn_sem, the code known -/
theorem fn_semC {x qual : Str} {params : Arguments} {body : List Stmt} {scope : Scope} {f : Addr} {fd : FuncData} {N ps : List Str} {k : Nat} {m : MS}
    (F : FunD K x qual params body scope [] [] f fd) (S : FnScope N ps scope)
    (hb : ∀ (A : Around) (outer : List PySem.Env) (s : Shared) (H : Hp) (E : XK), Room k (A.deeper (envOfC qual scope s.heap.objs.size f fd.code)) →
      PSs (cxOf (L2.CX P w) P w K mg base N qual scope f fd.code A outer s H E) body (tS p (fun cls d _ H => E cls d H) m)) :
    FnOk P w K mg base (L2.CX P w) (k + 1) f fd ps (spOf p ps.length (runBody N m)) := by
  obtain ⟨oc, od, dV, kV, doc, pm, an, cdv, ct, osl, rfl, lk, hcd, _, _⟩ := F.ex
  refine fn_of lk hcd S (fun vs H Q E h => h.1) fun A outer s H vs Q E hr ⟨hl, W, ds, st, rp, rv, q⟩ => ⟨_, hb A outer s H E hr, ?_⟩
  refine ⟨W, startE N ds, st, ?_, rp, ?_⟩
  · have hlen := rv.length
    refine ⟨?_, fun i d h => ?_⟩
    · unfold startE L2.start
      simp only [List.length_append, List.length_map, List.length_replicate, hlen]
    · unfold startE at h
      unfold L2.start
      by_cases hi : i < ds.length
      · rw [List.getElem?_append_left (by simpa using hi), List.getElem?_map] at h
        cases e : ds[i]? with
        | none => rw [e] at h; cases h
        | some d' =>
          rw [e] at h
          cases h
          obtain ⟨v, e2, r⟩ := rv.get e
          refine ⟨v, ?_, r⟩
          rw [List.getElem?_append_left (by rw [List.length_map, ← hlen]; exact hi), List.getElem?_map, e2]
          rfl
      · rw [List.getElem?_append_right (by simpa using hi)] at h
        rw [List.getElem?_replicate] at h
        split at h <;> cases h
  · unfold runBody at q
    cases h : m (startE N ds) st with
    | nx e1 s1 =>
      rw [h] at q
      exact fun W' H' σ' l fr rp' re' => q W' H' _ l fr rp' rel_non
    | rt d s1 =>
      rw [h] at q
      exact fun W' H' v l fr rp' rv' => q W' H' v l fr rp' rv'
    | ex c e1 s1 =>
      rw [h] at q
      exact fun W' H' σ' l fr rp' re' => q W' H' l fr rp'
    | bk e1 s1 => rw [h] at q; exact q.elim
    | ct e1 s1 => rw [h] at q; exact q.elim
    | bad => rw [h] at q; exact q.elim
/-- a def over the level below -/
theorem fn_step {k i : Nat} {d : DefI} {fa : Addr} {fd : FuncData} (ih1 : WF G p P w K mg base k (prog G k).1) (ih2 : ∀ X : Cx, X.prog = P → X.w = w → X.K = K → X.mg = mg → X.base = base → LamsOk X p (8 * k + 3) (prog G k).2) (hd : G.defs[i]? = some d) (df : DefFact K mg base p d fa fd) :
    FnOk P w K mg base (L2.CX P w) (8 * (k + 1)) fa fd d.ps (spOf p d.ps.length ((prog G (k + 1)).1 i)) := by
  have e : (prog G (k + 1)).1 i = defF G (prog G k).1 (prog G k).2 d := by
    show (match G.defs[i]? with | some d => defF G (prog G k).1 (prog G k).2 d | none => fun _ _ => .bad) = _
    rw [hd]
  rw [e]
  have key : FnOk P w K mg base (L2.CX P w) (8 * (k + 1)) fa fd d.ps (spOf p d.ps.length (runBody d.N (stepSs (semS G (semE G (prog G k).1 (prog G k).2 fuel) fuel) (defGm d) d.body))) := by
    refine fn_semC (k := 8 * k + 7) df.fun_ df.sc fun A outer s H E hr => ?_
    refine suites_ok (semS_ok (semE_ok fuel) (semE_lc fuel) (semE_quiet fuel) fuel) (defGm d) _ _ d.body (k := k) ?_
    refine ⟨⟨ih1, ih2 _ rfl rfl rfl rfl rfl, fun _ => hr, ?_, rfl, df.sc.nd, rfl, rfl, rfl, fun _ _ => rfl, takes_of rfl rfl rfl rfl, df.gx, df.lm⟩, df.sc.kind, rfl, rfl, PassesOwn.leaving⟩
    have := hr.un
    show (A.deeper _).units + 65 < cLine
    omega
  unfold defF
  split
  · exact key.imp fun vs H Q E h => spOf_alone h
  · exact key
/-- every level keeps what it means -/
theorem levels (f : Facts G p K mg base) : ∀ k, WF G p P w K mg base k (prog G k).1 ∧ ∀ X : Cx, X.prog = P → X.w = w → X.K = K → X.mg = mg → X.base = base → LamsOk X p (8 * k + 3) (prog G k).2
  | 0 => ⟨f.wf fun i d fa fd _ _ => ⟨fun vs H Q E h => h.1, fun A outer s H args us vs Q E _ _ _ _ h => by
      obtain ⟨_, _, _, _, _, _, q⟩ := h
      exact q.elim⟩, fun X _ _ _ _ _ li A outer s H E f c' _ _ => ⟨fun _ _ _ _ _ _ ⟨_, _, _, _, _, q⟩ => q.elim⟩⟩
  | k + 1 => by
    obtain ⟨ih1, ih2⟩ := levels f k
    refine ⟨f.wf fun i d fa fd hd df => fn_step ih1 ih2 hd df, fun X e1 e2 e3 e4 e5 li A outer s H E fa c' L hr => ?_⟩
    subst e1 e2 e3 e4 e5
    have key := (semE_ok fuel (lamGm li) (lamX X A outer s H E li fa c') (fun cls d _ H => E cls d H) li.body (lam_age ih1 (ih2 X rfl rfl rfl rfl rfl) (hr.mono (by omega)))).1
    refine ⟨fun pins s' σ H' Q I ⟨W, e, st, re, rp, q⟩ => key.run pins s' σ H' Q I ⟨W, e, st, re, rp, ?_⟩⟩
    have hl : e = [] := by
      have h1 := re.len
      have h2 : σ.length = ([] : List Str).length := I.len
      cases e with
      | nil => rfl
      | cons a r => rw [List.length_cons] at h1; rw [List.length_nil] at h2; omega
    subst hl
    exact q
theorem level_fn (f : Facts G p K mg base) {k i : Nat} {d : DefI} {fa : Addr} {fd : FuncData} (hd : G.defs[i]? = some d) (df : DefFact K mg base p d fa fd) : FnOk P w K mg base (L2.CX P w) (8 * (k + 1)) fa fd d.ps (spOf p d.ps.length ((prog G (k + 1)).1 i)) :=
  fn_step (levels f k).1 (levels f k).2 hd df
end
end Z

set_option Elab.async false
set_option linter.all false
set_option maxRecDepth 100000
set_option maxHeartbeats 1000000
/-! Z31: the head's facts, the law's end. -/
namespace Z
open PySem PySem.Spec PyProof.Rows L2
def ddOf (d : DefI) : He.DefD := ⟨(d.name, none), d.name, d.name, d.params, d.body, d.scope, [], []⟩
def lamQ (d : DefI) : Str := d.name ++ ".<locals>." ++ "<lambda>"
def gxs (G : Prg) : List DefI := G.defs.filter (·.gx)
def lms (G : Prg) : List DefI := G.defs.filter (·.lm)
def dn (d : DefI) : He.Defn := (d.name, none)
def tfOf (G : Prg) : List He.Defn := (gxs G ++ lms G).map dn
def conFa (q : Str × D) : He.Fa := match q.2 with
  | .str z => .str q.1 z
  | .int i => .int q.1 i
  | _ => .keep q.1
def faOf (G : Prg) : List He.Fa := G.defs.map (fun d => .glo d.name) ++ G.excs.flatMap (fun x => [.glo x, .exc x]) ++ G.consts.map conFa ++ bltNames.map .free
def subB (G : Prg) (K : PySem.W.Frag) : Bool := (List.range G.excs.length).all fun i => (List.range G.excs.length).all fun j => match G.sub i j with
  | some b => decide (PySem.W.exmOne K (.ref (He.ga K (G.excs.getD i ""))) (.ref (He.ga K (G.excs.getD j ""))) = some b)
  | none => true
def tabX (G : Prg) (K : PySem.W.Frag) : Bool := ((gxs G).all fun a => (lms G).all fun b => decide ((He.cT K (dn a)).2 ≠ (He.cT K (dn b)).2)) && (lms G).all fun a => (lms G).all fun b => decide ((He.cT K (dn a)).2 = (He.cT K (dn b)).2 → lamQ a = lamQ b)
def exOf (G : Prg) (K : PySem.W.Frag) : Bool := subB G K && tabX G K
def plOf (G : Prg) (K : PySem.W.Frag) : Pl := ⟨K, (lms G).map fun d => ((He.cT K (dn d)).2, lamQ d), (gxs G).map fun d => (He.cT K (dn d)).2, fun i => He.ga K (G.excs.getD i ""), fun _ => 0, fun _ => ""⟩
def conB (q : Str × D) : Bool := match q.2 with
  | .str _ => true
  | .int _ => true
  | _ => false
/-- the text's own form -/
structure Form (G : Prg) : Prop where
  con : ∀ q ∈ G.consts, conB q = true
  sc : ∀ d ∈ G.defs, FnScope d.N d.ps d.scope
  bind : ∀ d ∈ G.defs, ∀ (kV doc pm : Value) (an : Option Addr) (cdv ct : Value) (us : List Value), us.length = d.ps.length → bindArgs (PySem.W.fnOf d.name d.name d.params d.body d.scope .none kV doc pm an cdv ct) ⟨us, []⟩ = pure (d.ps.zip us)
section
variable {G : Prg} {K : PySem.W.Frag} {mg : Str → Option Value} {base h : Heap} {w : World} {P : Program}
theorem fa_in {f : He.Fa} (c : He.SaysX (faOf G) (G.defs.map ddOf) [] (tfOf G) (exOf G) w h K) (hf : f ∈ faOf G) : f.ok K = true := He.SaysD.facts c.t.d hf
theorem def_fact (f : Form G) (X : K.In h) (N : h.Ns mainGlobals mg) (c : He.SaysX (faOf G) (G.defs.map ddOf) [] (tfOf G) (exOf G) w h K) (hT : ∀ q ∈ (tfOf G).map (He.cT K), LamX.TabB base mg q.1 q.2) {d : DefI} {fd : FuncData} (hd : d ∈ G.defs) (F : FunD K d.name d.name d.params d.body d.scope [] [] (He.fAd K (d.name, none)) fd) :
    DefFact K mg base (plOf G K) d (He.ga K d.name) fd := by
  have hg : mg d.name = some (.ref (He.ga K d.name)) := He.glo_ok X N (fa_in c (f := .glo d.name) (List.mem_append_left _ (List.mem_append_left _ (List.mem_append_left _ (List.mem_map_of_mem hd)))))
  have hcode : fd.code = .ref (He.codeOf K (dn d)) := by
    obtain ⟨oc, od, dV, kV, doc, pm, an, cdv, ct, osl, rfl, lk, hcd, _, _⟩ := F.ex
    obtain ⟨c0, rfl⟩ := He.codeIn_ref hcd
    have e := He.codeOf_eq (K := K) (p := dn d) lk (c := c0) rfl
    rw [e]
  have hx : exOf G K = true := c.more
  obtain ⟨hs, htx⟩ := and_t hx
  obtain ⟨hx1, hx2⟩ := and_t htx
  refine ⟨hg, F.kp, F.bindsN (f.bind d hd), F, f.sc d hd, fun hgx => ?_, fun hlm => ?_⟩
  · have hd' : d ∈ gxs G := List.mem_filter.mpr ⟨hd, hgx⟩
    have hm : He.cT K (dn d) ∈ (tfOf G).map (He.cT K) := List.mem_map_of_mem (List.mem_map_of_mem (List.mem_append_left _ hd'))
    have tb := hT _ hm
    refine ⟨(He.cT K (dn d)).1, (He.cT K (dn d)).2, ⟨tb.code, tb.bm, tb.gP⟩, hcode, List.mem_map.mpr ⟨d, hd', rfl⟩, fun q hq => ?_⟩
    obtain ⟨b, hb, rfl⟩ := List.mem_map.mp hq
    have := of_decide_eq_true (List.all_eq_true.mp (List.all_eq_true.mp hx1 d hd') b hb)
    exact fun e => this e.symm
  · have hd' : d ∈ lms G := List.mem_filter.mpr ⟨hd, hlm⟩
    have hm : He.cT K (dn d) ∈ (tfOf G).map (He.cT K) := List.mem_map_of_mem (List.mem_map_of_mem (List.mem_append_right _ hd'))
    have tb := hT _ hm
    refine ⟨(He.cT K (dn d)).1, (He.cT K (dn d)).2, tb, hcode, List.mem_map.mpr ⟨d, hd', rfl⟩, fun q hq e => ?_, fun b hb e => ?_⟩
    · obtain ⟨b, hb, rfl⟩ := List.mem_map.mp hq
      have := of_decide_eq_true (List.all_eq_true.mp (List.all_eq_true.mp hx2 b hb) d hd')
      exact this e
    · obtain ⟨a, ha, rfl⟩ := List.mem_map.mp hb
      have := of_decide_eq_true (List.all_eq_true.mp (List.all_eq_true.mp hx1 a ha) d hd')
      exact this e
theorem facts_of (f : Form G) (X : K.In h) (N : h.Ns mainGlobals mg) (c : He.SaysX (faOf G) (G.defs.map ddOf) [] (tfOf G) (exOf G) w h K) (hT : ∀ q ∈ (tfOf G).map (He.cT K), LamX.TabB base mg q.1 q.2) : Facts G (plOf G K) K mg base where
  hK := rfl
  consts := fun q hq => by
    have hf : conFa q ∈ faOf G := List.mem_append_left _ (List.mem_append_right _ (List.mem_map_of_mem hq))
    have hok := fa_in c hf
    have hb := f.con q hq
    obtain ⟨x, d⟩ := q
    cases d with
    | str z =>
      obtain ⟨t, e⟩ := He.str_ok X N (x := x) (z := z) hok
      exact ⟨.str z, _, e, ⟨t, rfl⟩, fun W => rel_str⟩
    | int i =>
      obtain ⟨t, e⟩ := He.int_ok X N (x := x) (i := i) hok
      exact ⟨.int i, _, e, ⟨t, rfl⟩, fun W => rel_int⟩
    | _ => cases hb
  blt := fun x hx => He.free_ok X N (fa_in c (f := .free x) (List.mem_append_right _ (List.mem_map_of_mem hx)))
  defs := fun d hd => by
    obtain ⟨fd, F⟩ := He.SaysD.defs c.t.d (d := ddOf d) (List.mem_map_of_mem hd)
    exact ⟨_, fd, def_fact f X N c hT hd F⟩
  excs := fun i x hi => by
    have hx : x ∈ G.excs := List.mem_of_getElem? hi
    have e : G.excs.getD i "" = x := by rw [List.getD_eq_getElem?_getD, hi]; rfl
    have m1 : ∀ f ∈ [He.Fa.glo x, He.Fa.exc x], f ∈ faOf G := fun f hf => List.mem_append_left _ (List.mem_append_left _ (List.mem_append_right _ (List.mem_flatMap.mpr ⟨x, hx, hf⟩)))
    have hg := He.glo_ok X N (fa_in c (m1 (.glo x) (List.mem_cons_self ..)))
    obtain ⟨q1, q2, q3, q4⟩ := He.exc_ok (fa_in c (m1 (.exc x) (List.mem_cons_of_mem _ (List.mem_cons_self ..))))
    show ExcFact K mg x (He.ga K (G.excs.getD i ""))
    rw [e]
    exact ⟨hg, q2, q1, q3, q4⟩
  sub := fun i j b hi hj hb => by
    have hx : exOf G K = true := c.more
    obtain ⟨hs, _⟩ := and_t hx
    have := List.all_eq_true.mp (List.all_eq_true.mp hs i (List.mem_range.mpr hi)) j (List.mem_range.mpr hj)
    rw [hb] at this
    exact of_decide_eq_true this
/-- the script, known from now on -/
def fz0 (H : Hp) : Hp := fun b => match H b with
  | some (.tbl _) => none
  | o => o
theorem fz0_le {H : Hp} {a : Addr} {o : HO} (e : fz0 H a = some o) : H a = some o := by
  unfold fz0 at e
  split at e
  · cases e
  · exact e
theorem fz0_of {H : Hp} {a : Addr} {o : HO} (e : H a = some o) (n : ∀ ps, o ≠ .tbl ps) : fz0 H a = some o := by
  unfold fz0
  split
  · rename_i ps z
    rw [e] at z
    exact absurd (Option.some.inj z) (n ps)
  · exact e
theorem relDs_ints {W : Wd} : ∀ ns : List Int, RelDs K W (ns.map D.int) (ns.map V.int)
  | [] => relDs_nil
  | n :: r => relDs_cons rel_int (relDs_ints r)
theorem triples_nil : TriplesOk ([] : List Value) := by first | trivial | (unfold TriplesOk; trivial)
theorem start_sp {p : Pl} {F : FM} {H : Hp} {a : Addr} {ns : List Int} {s' : Sto} (hK : p.K = K) (htl : ∀ q ∈ p.tl, H q.1 = some (.tbl #[])) (htg : ∀ q ∈ p.tg, H q = some (.tbl #[])) (hS : SqL K H a (ns.map V.int)) (hF : F [.scr (ns.map D.int)] [] = .ok (.bl true) s') :
    spOf p 1 F [.ref a] H (fun v _ => v = .bl true) fun _ _ _ => False := by
  refine ⟨rfl, ⟨fz0 H, []⟩, [.scr (ns.map D.int)], [], ⟨⟨fun q hq => ⟨#[], htl q hq, triples_nil, fun pos cv z => ?_⟩, fun P hP => ⟨#[], htg P hP, triples_nil⟩⟩, fun b o e => fz0_le e, fun b ps z => ?_, rfl, List.nodup_nil, fun b hb => (by cases hb), fun n ob b e => (by simp at e)⟩, ?_, ?_⟩
  · have z : codeAmong pos ([] : List Value) = some cv := z
    unfold codeAmong at z
    cases z
  · have z' : fz0 H b = some (.tbl ps) := z
    have e := fz0_le z'
    unfold fz0 at z'
    rw [e] at z'
    cases z'
  · refine relDs_cons ?_ relDs_nil
    unfold RelD
    refine ⟨a, ns.map V.int, rfl, ?_, relDs_ints ns⟩
    rw [hK]
    rcases hS with (hS | ⟨o, hS⟩) | hS
    · exact .inl (.inl (fz0_of hS fun ps z => by cases z))
    · exact .inl (.inr ⟨o, fz0_of hS fun ps z => by cases z⟩)
    · exact .inr hS
  · rw [hF]
    intro W' H' v l fr rp rv
    exact relD_bl rv
/-- the law's function object -/
theorem law_at {l : PySem.W.OpenLaw} {k n i : Nat} {d : DefI} {x : Str} {fa : Addr} (f : Form G) (hd : G.defs[i]? = some d) (hps : d.ps = [x]) (X : K.In h) (N : h.Ns mainGlobals mg) (hfa : mg d.name = some (.ref fa)) (c : He.SaysX (faOf G) (G.defs.map ddOf) [] (tfOf G) (exOf G) w h K)
    (hF : ∀ ns : List Int, ns.length ≤ n → (∀ z ∈ ns, Builtin.Int.intBits z ≤ 1048576) → ∃ s', (prog G (k + 1)).1 i [.scr (ns.map D.int)] [] = .ok (.bl true) s') : LamX.LawAtS l w K (L2.CX l.prog w) (8 * (k + 1)) n x mg fa h := by
  have hdm := List.mem_of_getElem? hd
  obtain ⟨fd, F⟩ := He.SaysD.defs c.t.d (d := ddOf d) (List.mem_map_of_mem hdm)
  have F : FunD K d.name d.name d.params d.body d.scope [] [] (He.fAd K (d.name, none)) fd := F
  have hg : mg d.name = some (.ref (He.ga K d.name)) := He.glo_ok X N (fa_in c (f := .glo d.name) (List.mem_append_left _ (List.mem_append_left _ (List.mem_append_left _ (List.mem_map_of_mem hdm)))))
  have efa : fa = He.ga K d.name := by
    rw [hg] at hfa
    cases hfa
    rfl
  subst efa
  refine ⟨fd, (tfOf G).map (He.cT K), spOf (plOf G K) 1 ((prog G (k + 1)).1 i), fun q hq => ?_, fun q hq => ?_, fun q hq => ?_, fun s u => ?_, fun H a ns hl hb hH hS => ?_, fun base Kb Nb hT => ?_⟩
  · obtain ⟨t, ht, rfl⟩ := List.mem_map.mp hq
    exact c.empty t ht
  · obtain ⟨t, ht, rfl⟩ := List.mem_map.mp hq
    exact c.out t ht
  · obtain ⟨t, ht, rfl⟩ := List.mem_map.mp hq
    exact PySem.W.codeHd_of_K X (c.hd t ht)
  · have := FunD.bindsA (ps := d.ps) F (f.bind d hdm) s [u] (by rw [hps]; rfl)
    rw [hps] at this
    exact this
  · obtain ⟨s', e⟩ := hF ns hl hb
    refine start_sp (K := K) rfl (fun q hq => ?_) (fun q hq => ?_) hS e
    · obtain ⟨b, hb, rfl⟩ := List.mem_map.mp hq
      exact hH _ (List.mem_map_of_mem (List.mem_map_of_mem (List.mem_append_right _ hb)))
    · obtain ⟨b, hb, rfl⟩ := List.mem_map.mp hq
      exact hH _ (List.mem_map_of_mem (List.mem_map_of_mem (List.mem_append_left _ hb)))
  · have ft := facts_of f X N c hT
    have q := level_fn (P := l.prog) (w := w) (k := k) ft hd (def_fact f X N c hT hdm F)
    rw [hps] at q
    exact q
end
end Z

set_option Elab.async false
set_option linter.all false
set_option maxRecDepth 100000
set_option maxHeartbeats 1000000
/-! Z32: plain evaluation. -/
namespace Z
open PySem
/-- a body run over a frame of n slots -/
def runN (n : Nat) (m : MS) : FM := fun ds s => match m (ds.map some ++ List.replicate (n - ds.length) none) s with
  | .nx _ s' => .ok .non s'
  | .rt d s' => .ok d s'
  | .ex c _ s' => .exc c s'
  | _ => .bad
theorem runN_eq {N : List Str} {m : MS} : runBody N m = runN N.length m := by
  funext ds s
  unfold runBody runN startE
  cases m (ds.map some ++ List.replicate (N.length - ds.length) none) s <;> rfl
theorem fn_of_sh {G : Prg} {i : Nat} {d : DefI} {m : (Nat → FM) → MS} (hd : G.defs[i]? = some d) (hm : ∀ F LF, stepSs (semS G (semE G F LF fuel) fuel) (defGm d) d.body = m F) (j : Nat) : (prog G (j + 1)).1 i = if d.lone then alone (runN d.N.length (m (prog G j).1)) else runN d.N.length (m (prog G j).1) := by
  show (match G.defs[i]? with | some d => defF G (prog G j).1 (prog G j).2 d | none => fun _ _ => .bad) = _
  rw [hd]
  show defF G (prog G j).1 (prog G j).2 d = _
  unfold defF
  rw [hm, runN_eq]
/-- a value, at every store -/
def Ev (G : Prg) (j i : Nat) (ds : List D) (d : D) : Prop := ∀ s, (prog G j).1 i ds s = .ok d s
theorem ev_of {G : Prg} {i : Nat} {d : DefI} {m : (Nat → FM) → MS} {j : Nat} {ds : List D} {r : D} {s' : Sto} (hd : G.defs[i]? = some d) (hl : d.lone = true) (hm : ∀ F LF, stepSs (semS G (semE G F LF fuel) fuel) (defGm d) d.body = m F) (hp : ds.all (pure? 12) = true) (hr : pure? 12 r = true)
    (h : runN d.N.length (m (prog G j).1) ds [] = .ok r s') : Ev G (j + 1) i ds r := fun s => by
  rw [fn_of_sh hd hm, if_pos hl]
  unfold alone
  rw [if_pos hp, h]
  show (if pure? 12 r then R.ok r s else .bad) = _
  rw [if_pos hr]
theorem Ev.call {G : Prg} {j i n : Nat} {as : MA} {e : Env} {s s1 : Sto} {ds : List D} {d : D} (h : Ev G j i ds d) (ha : as e s = .ok ds s1) (hl : ds.length = n) : mCall n ((prog G j).1 i) as e s = .ok d s1 := by
  unfold mCall
  rw [ha]
  show (if ds.length = n then (prog G j).1 i ds s1 else .bad) = _
  rw [if_pos hl, h]
/-! ### data -/
section
variable {s : Sto} {k : Nat}
theorem py_non : pyOf s (k + 1) .non = some .none := rfl
theorem py_bl {b : Bool} : pyOf s (k + 1) (.bl b) = some (.bool b) := rfl
theorem py_int {i : Int} : pyOf s (k + 1) (.int i) = some (.int i) := rfl
theorem py_tup {xs : List D} : pyOf s (k + 1) (.tup xs) = (optAll (pyOf s k) xs).map .tuple := rfl
theorem py_lst {xs : List D} : pyOf s (k + 1) (.lst xs) = (optAll (pyOf s k) xs).map .list := rfl
theorem py_str {x : Str} (h : strB x = true) : pyOf s (k + 1) (.str x) = some (.str x) := if_pos h
theorem all_nil : optAll (pyOf s k) [] = some [] := rfl
theorem all_cons {d : D} {ds : List D} {a : PyData} {as : List PyData} (h : pyOf s k d = some a) (h2 : optAll (pyOf s k) ds = some as) : optAll (pyOf s k) (d :: ds) = some (a :: as) := by
  unfold optAll
  rw [h, h2]
theorem optAll_cons {α β : Type} {f : α → Option β} {a : α} {r : List α} : optAll f (a :: r) = match f a, optAll f r with
    | some b, some bs => some (b :: bs)
    | _, _ => none := rfl
theorem optAll_nil {α β : Type} {f : α → Option β} : optAll f [] = some [] := rfl
theorem all_ints : ∀ ns : List Int, optAll (pyOf s (k + 1)) (ns.map D.int) = some (ns.map PyData.int)
  | [] => rfl
  | n :: r => all_cons py_int (all_ints r)
theorem eqv_int {i j : Int} : PyData.eqv (.int i) (.int j) = decide (i = j) := by
  unfold PyData.eqv
  rfl
theorem eqv_bl {i j : Bool} : PyData.eqv (.bool i) (.bool j) = (i == j) := by unfold PyData.eqv; rfl
theorem eqv_str {i j : Str} : PyData.eqv (.str i) (.str j) = decide (i = j) := by unfold PyData.eqv; rfl
theorem eqv_tup {i j : List PyData} : PyData.eqv (.tuple i) (.tuple j) = PyData.eqvAll i j := by unfold PyData.eqv; rfl
theorem eqv_list {i j : List PyData} : PyData.eqv (.list i) (.list j) = PyData.eqvAll i j := by unfold PyData.eqv; rfl
theorem eqvA_nil : PyData.eqvAll [] [] = true := by unfold PyData.eqvAll; rfl
theorem eqvA_cons {a b : PyData} {as bs : List PyData} : PyData.eqvAll (a :: as) (b :: bs) = (PyData.eqv a b && PyData.eqvAll as bs) := by rw [PyData.eqvAll]
theorem eqvA_ints : ∀ ns ms : List Int, PyData.eqvAll (ns.map PyData.int) (ms.map PyData.int) = decide (ns = ms)
  | [], [] => by rw [List.map_nil, eqvA_nil]; rfl
  | [], m :: ms => by unfold PyData.eqvAll; simp
  | n :: ns, [] => by unfold PyData.eqvAll; simp
  | n :: ns, m :: ms => by
    rw [List.map_cons, List.map_cons, eqvA_cons, eqv_int, eqvA_ints]
    simp
theorem op_eq_int {n : Bool} {i j : Int} : opEq n (.int i) (.int j) s = some (.bl (xor n (decide (i = j))), s) := by
  unfold opEq
  rw [py_int, py_int]
  show some (D.bl (xor n (PyData.eqv (.int i) (.int j))), s) = _
  rw [eqv_int]
theorem op_eq_tt {n : Bool} {i j : List Int} : opEq n (.tup (i.map .int)) (.tup (j.map .int)) s = some (.bl (xor n (decide (i = j))), s) := by
  unfold opEq
  rw [py_tup, py_tup, all_ints, all_ints]
  show some (D.bl (xor n (PyData.eqv (.tuple _) (.tuple _))), s) = _
  rw [eqv_tup, eqvA_ints]
theorem op_eq_ll {n : Bool} {i j : List Int} : opEq n (.lst (i.map .int)) (.lst (j.map .int)) s = some (.bl (xor n (decide (i = j))), s) := by
  unfold opEq
  rw [py_lst, py_lst, all_ints, all_ints]
  show some (D.bl (xor n (PyData.eqv (.list _) (.list _))), s) = _
  rw [eqv_list, eqvA_ints]
/-- x in (0, 1) -/
theorem op_in2 {n : Bool} {i a b : Int} : opIn n (.int i) (.tup [.int a, .int b]) s = some (.bl (xor n (decide (a = i) || decide (b = i))), s) := by
  have h : pyOf s 12 (.tup [.int a, .int b]) = some (.tuple [.int a, .int b]) := rfl
  unfold opIn
  show (match pyOf s 12 (.int i), pyOf s 12 (.tup [.int a, .int b]) with
    | some a, some (.list bs) => some (D.bl (xor n (bs.any fun z => PyData.eqv z a)), s)
    | some a, some (.tuple bs) => some (D.bl (xor n (bs.any fun z => PyData.eqv z a)), s)
    | _, _ => none) = _
  rw [h, py_int]
  show some (D.bl (xor n (PyData.eqv (.int a) (.int i) || (PyData.eqv (.int b) (.int i) || false))), s) = _
  rw [eqv_int, eqv_int, Bool.or_false]
theorem op_inl2 {n : Bool} {i a b : Int} : opIn n (.int i) (.lst [.int a, .int b]) s = some (.bl (xor n (decide (a = i) || decide (b = i))), s) := by
  have h : pyOf s 12 (.lst [.int a, .int b]) = some (.list [.int a, .int b]) := rfl
  unfold opIn
  show (match pyOf s 12 (.int i), pyOf s 12 (.lst [.int a, .int b]) with
    | some a, some (.list bs) => some (D.bl (xor n (bs.any fun z => PyData.eqv z a)), s)
    | some a, some (.tuple bs) => some (D.bl (xor n (bs.any fun z => PyData.eqv z a)), s)
    | _, _ => none) = _
  rw [h, py_int]
  show some (D.bl (xor n (PyData.eqv (.int a) (.int i) || (PyData.eqv (.int b) (.int i) || false))), s) = _
  rw [eqv_int, eqv_int, Bool.or_false]
/-! ### a comprehension, a loop over items, each turn known -/
theorem lcF_map {t : Tg} {c : MB} {el : ME} {e : Env} {g : D → D} : ∀ {ds : List D}, (∀ d ∈ ds, ∃ e1, t d e s = some (e1, s) ∧ c e1 s = .ok true s ∧ el e1 s = .ok (g d) s) → lcF t c el ds e s = .ok (ds.map g) s
  | [], _ => rfl
  | d :: ds, h => by
    obtain ⟨e1, h1, h2, h3⟩ := h d (List.mem_cons_self ..)
    have ih := lcF_map (ds := ds) fun d hd => h d (List.mem_cons_of_mem _ hd)
    unfold lcF lcT
    rw [h1]
    show (c e1 s).nx.bind _ = _
    rw [h2]
    show (if true then (el e1 s).nx.bind fun v s3 => (lcF t c el ds e s3).bind fun r s4 => R.ok (v :: r) s4 else lcF t c el ds e s) = _
    rw [if_pos rfl, h3]
    show ((lcF t c el ds e s).bind fun r s4 => R.ok (g d :: r) s4) = _
    rw [ih]
    rfl
theorem qnF_none {st : Bool} {t : Tg} {c : MB} {el : ME} {e : Env} : ∀ {ds : List D}, (∀ d ∈ ds, ∃ e1, t d e s = some (e1, s) ∧ c e1 s = .ok true s ∧ el e1 s = .ok (.bl (!st)) s) → qnF st t c el ds e s = .ok (!st) s
  | [], _ => rfl
  | d :: ds, h => by
    obtain ⟨e1, h1, h2, h3⟩ := h d (List.mem_cons_self ..)
    have ih := qnF_none (ds := ds) fun d hd => h d (List.mem_cons_of_mem _ hd)
    unfold qnF qnT
    rw [h1]
    show (c e1 s).nx.bind _ = _
    rw [h2]
    show (if true then ((mB el e1 s).nx.bind fun z s3 => if z == st then R.ok st s3 else qnF st t c el ds e s3) else qnF st t c el ds e s) = _
    rw [if_pos rfl]
    have hb : mB el e1 s = .ok (!st) s := by unfold mB; rw [h3]; rfl
    rw [hb]
    show (if (!st) == st then R.ok st s else qnF st t c el ds e s) = _
    rw [if_neg (by cases st <;> decide), ih]
theorem forF_cons {t : Tg} {b : MS} {d : D} {ds : List D} {e e1 e2 : Env} {s1 s2 : Sto} (h1 : t d e s = some (e1, s1)) (h2 : b e1 s1 = .nx e2 s2) : forF t b (d :: ds) e s = forF t b ds e2 s2 := by
  show step1 t b d e s (forF t b ds) = _
  unfold step1
  rw [h1]
  show (match b e1 s1 with
    | .nx e2 s2 => forF t b ds e2 s2
    | .ct e2 s2 => forF t b ds e2 s2
    | .bk e2 s2 => .nx e2 s2
    | .rt d s2 => .rt d s2
    | .ex c e2 s2 => .ex c e2 s2
    | .bad => .bad) = _
  rw [h2]
/-- a loop kept by an invariant -/
theorem forF_inv {t : Tg} {b : MS} (P : List D → Env → Prop) (h : ∀ d ds e, P (d :: ds) e → ∃ e1 e2, t d e s = some (e1, s) ∧ b e1 s = .nx e2 s ∧ P ds e2) : ∀ (ds : List D) (e : Env), P ds e → ∃ e2, forF t b ds e s = .nx e2 s ∧ P [] e2
  | [], e, h0 => ⟨e, rfl, h0⟩
  | d :: ds, e, h0 => by
    obtain ⟨e1, e2, q1, q2, q3⟩ := h d ds e h0
    rw [forF_cons q1 q2]
    exact forF_inv P h ds e2 q3
end
end Z

set_option Elab.async false
set_option linter.all false
set_option maxRecDepth 100000
set_option maxHeartbeats 0
namespace Z
open PySem PySem.Spec PyProof.Rows L2
namespace K01
abbrev PW : Program := PySem.Challenge.pw_emustack_k01_words_of_bits
def top (i : Nat) : Stmt := PW.main.body.getD i (.Pass ⟨0, 0, 0, 0⟩)
def d5 : DefI := ⟨"check_byte", ["number"], ["number"], defScope (top 5), defArgs (top 5), defBody (top 5), true, false, false⟩
def d6 : DefI := ⟨"check_word", ["number"], ["number"], defScope (top 6), defArgs (top 6), defBody (top 6), true, false, false⟩
def d7 : DefI := ⟨"added", ["one", "other", "carry"], ["one", "other", "carry", "whole", "signed"], defScope (top 7), defArgs (top 7), defBody (top 7), true, false, false⟩
def d8 : DefI := ⟨"taken", ["one", "other", "borrow"], ["one", "other", "borrow", "whole", "signed"], defScope (top 8), defArgs (top 8), defBody (top 8), true, false, false⟩
def d9 : DefI := ⟨"check_bits", ["number", "bits"], ["number", "bits"], defScope (top 9), defArgs (top 9), defBody (top 9), true, false, false⟩
def d10 : DefI := ⟨"power_of", ["bits"], ["bits", "found", "turn"], defScope (top 10), defArgs (top 10), defBody (top 10), true, false, false⟩
def d11 : DefI := ⟨"signed_of", ["number", "bits"], ["number", "bits", "half"], defScope (top 11), defArgs (top 11), defBody (top 11), true, false, false⟩
def d12 : DefI := ⟨"plain_of", ["signed", "bits"], ["signed", "bits"], defScope (top 12), defArgs (top 12), defBody (top 12), true, false, false⟩
def d13 : DefI := ⟨"bits_of", ["number", "bits"], ["number", "bits", "place"], defScope (top 13), defArgs (top 13), defBody (top 13), true, true, false⟩
def d14 : DefI := ⟨"from_bits", ["row"], ["row", "bit", "found"], defScope (top 14), defArgs (top 14), defBody (top 14), true, true, false⟩
def d15 : DefI := ⟨"rolled_left", ["byte", "carry"], ["byte", "carry"], defScope (top 15), defArgs (top 15), defBody (top 15), true, false, false⟩
def d16 : DefI := ⟨"rolled_right", ["byte", "carry"], ["byte", "carry"], defScope (top 16), defArgs (top 16), defBody (top 16), true, false, false⟩
def d17 : DefI := ⟨"halves_of", ["word"], ["word"], defScope (top 17), defArgs (top 17), defBody (top 17), true, false, false⟩
def d18 : DefI := ⟨"joined", ["high", "low"], ["high", "low"], defScope (top 18), defArgs (top 18), defBody (top 18), true, false, false⟩
def d19 : DefI := ⟨"turned_round", ["byte"], ["byte"], defScope (top 19), defArgs (top 19), defBody (top 19), true, false, false⟩
def d20 : DefI := ⟨"ones_in", ["number", "bits"], ["number", "bits"], defScope (top 20), defArgs (top 20), defBody (top 20), true, false, false⟩
def d21 : DefI := ⟨"tens_byte", ["number"], ["number"], defScope (top 21), defArgs (top 21), defBody (top 21), true, false, false⟩
def d22 : DefI := ⟨"from_tens", ["byte"], ["byte"], defScope (top 22), defArgs (top 22), defBody (top 22), true, false, false⟩
def d23 : DefI := ⟨"tens_added", ["one", "other", "carry"], ["one", "other", "carry", "whole"], defScope (top 23), defArgs (top 23), defBody (top 23), true, false, false⟩
def d24 : DefI := ⟨"times_by_bits", ["one", "other"], ["one", "other", "found", "moved", "bit"], defScope (top 24), defArgs (top 24), defBody (top 24), true, false, false⟩
def d25 : DefI := ⟨"parted_by_bits", ["word", "byte"], ["word", "byte", "found", "rest", "bit", "fits"], defScope (top 25), defArgs (top 25), defBody (top 25), true, false, false⟩
def d26 : DefI := ⟨"told_sixteens", ["number", "many"], ["number", "many", "text", "left", "turn"], defScope (top 26), defArgs (top 26), defBody (top 26), true, false, false⟩
def d27 : DefI := ⟨"read_sixteens", ["text"], ["text", "sign", "found"], defScope (top 27), defArgs (top 27), defBody (top 27), true, true, false⟩
def d28 : DefI := ⟨"check_sums", ["numbers"], ["numbers", "one", "two", "number"], defScope (top 28), defArgs (top 28), defBody (top 28), true, false, false⟩
def d29 : DefI := ⟨"step_noise", ["word"], ["word", "bit"], defScope (top 29), defArgs (top 29), defBody (top 29), true, false, false⟩
def d31 : DefI := ⟨"_law_dice", ["cell"], ["cell"], defScope (top 31), defArgs (top 31), defBody (top 31), false, false, false⟩
def d32 : DefI := ⟨"_law_roll", ["dice", "many"], ["dice", "many", "found"], defScope (top 32), defArgs (top 32), defBody (top 32), false, false, false⟩
def d33 : DefI := ⟨"_law_rounds", ["script", "most"], ["script", "most", "cells", "cell"], defScope (top 33), defArgs (top 33), defBody (top 33), false, false, false⟩
def d34 : DefI := ⟨"_law_told", ["what"], ["what"], defScope (top 34), defArgs (top 34), defBody (top 34), false, false, false⟩
def d35 : DefI := ⟨"_law_signed", ["byte"], ["byte"], defScope (top 35), defArgs (top 35), defBody (top 35), false, false, false⟩
def d36 : DefI := ⟨"_law_refused", [], ["bad", "k", "f"], defScope (top 36), defArgs (top 36), defBody (top 36), false, false, true⟩
def d37 : DefI := ⟨"_law_plain", [], ["told"], defScope (top 37), defArgs (top 37), defBody (top 37), false, false, false⟩
def d38 : DefI := ⟨"law", ["script"], ["script", "dice", "one", "other", "carry", "word", "whole", "signed", "less", "byte", "out", "far", "back", "borrow", "up", "bits", "number", "row", "k", "bit", "half", "mine", "theirs", "many", "text", "sign", "first", "second", "noise"], defScope (top 38), defArgs (top 38), defBody (top 38), false, false, false⟩
def defs : List DefI := [d5, d6, d7, d8, d9, d10, d11, d12, d13, d14, d15, d16, d17, d18, d19, d20, d21, d22, d23, d24, d25, d26, d27, d28, d29, d31, d32, d33, d34, d35, d36, d37, d38]
def fresh (p : Pos) : Bool := p.line == 142 || p.line == 143
def G : Prg := ⟨defs, [("FIGURES", .str "0123456789abcdef")], ["WordError"], fun i j => if i == 0 && j == 0 then some true else none, fresh⟩
def fn (k i : Nat) : FM := (prog G k).1 i
end K01
end Z

set_option Elab.async false
set_option linter.all false
set_option maxRecDepth 100000
set_option maxHeartbeats 0
namespace Z
open PySem PySem.Spec PyProof.Rows L2
namespace K01
def s5 (F : Nat → FM) : MS := (sSeq (sIf (bNot (mB (mChain (opC .LtE) (opC .LtE) (mC (.int 0)) (mVar 0) (mC (.int 255))))) (sSeq (sRaise 0) sPass) sPass) sPass)
theorem sh5 (F : Nat → FM) (LF : LamI → Sto → R D) : stepSs (semS G (semE G F LF fuel) fuel) (defGm d5) d5.body = s5 F := by kernel_rfl
def s6 (F : Nat → FM) : MS := (sSeq (sIf (bNot (mB (mChain (opC .LtE) (opC .LtE) (mC (.int 0)) (mVar 0) (mC (.int 65535))))) (sSeq (sRaise 0) sPass) sPass) sPass)
theorem sh6 (F : Nat → FM) (LF : LamI → Sto → R D) : stepSs (semS G (semE G F LF fuel) fuel) (defGm d6) d6.body = s6 F := by kernel_rfl
def s7 (F : Nat → FM) : MS := (sSeq (sExpr (mCall 1 (F 0) (aCons (mVar 0) aNil))) (sSeq (sExpr (mCall 1 (F 0) (aCons (mVar 1) aNil))) (sSeq (sIf (mB (m2 (opC .NotIn) (mVar 2) (mTup (aCons (mC (.int 0)) (aCons (mC (.int 1)) aNil))))) (sSeq (sRaise 0) sPass) sPass) (sSeq (sAsg (tName 3) (m2 (opBin false .Add) (m2 (opBin false .Add) (mVar 0) (mVar 1)) (mVar 2))) (sSeq (sAsg (tName 4) (m2 (opBin false .Add) (m2 (opBin false .Add) (mCall 2 (F 6) (aCons (mVar 0) (aCons (mC (.int 8)) aNil))) (mCall 2 (F 6) (aCons (mVar 1) (aCons (mC (.int 8)) aNil)))) (mVar 2))) (sSeq (sRet (mTup (aCons (m2 (opBin false .Mod) (mVar 3) (mC (.int 256))) (aCons (m2 (opBin false .FloorDiv) (mVar 3) (mC (.int 256))) (aCons (mNot (mChain (opC .LtE) (opC .LtE) (m2 (opBin false .Sub) (mC (.int 0)) (mC (.int 128))) (mVar 4) (mC (.int 127)))) aNil))))) sPass))))))
theorem sh7 (F : Nat → FM) (LF : LamI → Sto → R D) : stepSs (semS G (semE G F LF fuel) fuel) (defGm d7) d7.body = s7 F := by kernel_rfl
def s8 (F : Nat → FM) : MS := (sSeq (sExpr (mCall 1 (F 0) (aCons (mVar 0) aNil))) (sSeq (sExpr (mCall 1 (F 0) (aCons (mVar 1) aNil))) (sSeq (sIf (mB (m2 (opC .NotIn) (mVar 2) (mTup (aCons (mC (.int 0)) (aCons (mC (.int 1)) aNil))))) (sSeq (sRaise 0) sPass) sPass) (sSeq (sAsg (tName 3) (m2 (opBin false .Sub) (m2 (opBin false .Sub) (mVar 0) (mVar 1)) (mVar 2))) (sSeq (sAsg (tName 4) (m2 (opBin false .Sub) (m2 (opBin false .Sub) (mCall 2 (F 6) (aCons (mVar 0) (aCons (mC (.int 8)) aNil))) (mCall 2 (F 6) (aCons (mVar 1) (aCons (mC (.int 8)) aNil)))) (mVar 2))) (sSeq (sRet (mTup (aCons (m2 (opBin false .Mod) (mVar 3) (mC (.int 256))) (aCons (mIf (mB (m2 (opC .Lt) (mVar 3) (mC (.int 0)))) (mC (.int 1)) (mC (.int 0))) (aCons (mNot (mChain (opC .LtE) (opC .LtE) (m2 (opBin false .Sub) (mC (.int 0)) (mC (.int 128))) (mVar 4) (mC (.int 127)))) aNil))))) sPass))))))
theorem sh8 (F : Nat → FM) (LF : LamI → Sto → R D) : stepSs (semS G (semE G F LF fuel) fuel) (defGm d8) d8.body = s8 F := by kernel_rfl
def s9 (F : Nat → FM) : MS := (sSeq (sIf (bOr (bNot (mB (mChain (opC .LtE) (opC .LtE) (mC (.int 1)) (mVar 1) (mC (.int 32))))) (bNot (mB (mChain (opC .LtE) (opC .Lt) (mC (.int 0)) (mVar 0) (mCall 1 (F 5) (aCons (mVar 1) aNil)))))) (sSeq (sRaise 0) sPass) sPass) sPass)
theorem sh9 (F : Nat → FM) (LF : LamI → Sto → R D) : stepSs (semS G (semE G F LF fuel) fuel) (defGm d9) d9.body = s9 F := by kernel_rfl
def s10 (F : Nat → FM) : MS := (sSeq (sAsg (tName 1) (mC (.int 1))) (sSeq (sForW (tName 2) (wRng (aCons (mVar 0) aNil)) (sSeq (sAug 1 (ipOp .Mult) (mC (.int 2))) sPass)) (sSeq (sRet (mVar 1)) sPass)))
theorem sh10 (F : Nat → FM) (LF : LamI → Sto → R D) : stepSs (semS G (semE G F LF fuel) fuel) (defGm d10) d10.body = s10 F := by kernel_rfl
def s11 (F : Nat → FM) : MS := (sSeq (sExpr (mCall 2 (F 4) (aCons (mVar 0) (aCons (mVar 1) aNil)))) (sSeq (sAsg (tName 2) (mCall 1 (F 5) (aCons (m2 (opBin false .Sub) (mVar 1) (mC (.int 1))) aNil))) (sSeq (sRet (mIf (mB (m2 (opC .GtE) (mVar 0) (mVar 2))) (m2 (opBin false .Sub) (mVar 0) (m2 (opBin false .Mult) (mC (.int 2)) (mVar 2))) (mVar 0))) sPass)))
theorem sh11 (F : Nat → FM) (LF : LamI → Sto → R D) : stepSs (semS G (semE G F LF fuel) fuel) (defGm d11) d11.body = s11 F := by kernel_rfl
def s12 (F : Nat → FM) : MS := (sSeq (sIf (bOr (bNot (mB (mChain (opC .LtE) (opC .LtE) (mC (.int 1)) (mVar 1) (mC (.int 32))))) (bNot (mB (mChain (opC .LtE) (opC .Lt) (m2 (opBin false .Sub) (mC (.int 0)) (mCall 1 (F 5) (aCons (m2 (opBin false .Sub) (mVar 1) (mC (.int 1))) aNil))) (mVar 0) (mCall 1 (F 5) (aCons (m2 (opBin false .Sub) (mVar 1) (mC (.int 1))) aNil)))))) (sSeq (sRaise 0) sPass) sPass) (sSeq (sRet (m2 (opBin false .Mod) (mVar 0) (mCall 1 (F 5) (aCons (mVar 1) aNil)))) sPass))
theorem sh12 (F : Nat → FM) (LF : LamI → Sto → R D) : stepSs (semS G (semE G F LF fuel) fuel) (defGm d12) d12.body = s12 F := by kernel_rfl
def s13 (F : Nat → FM) : MS := (sSeq (sExpr (mCall 2 (F 4) (aCons (mVar 0) (aCons (mVar 1) aNil)))) (sSeq (sRet (mGx okAny finT [2] (tName 2) (wRng (aCons (m2 (opBin false .Sub) (mVar 1) (mC (.int 1))) (aCons (m2 (opBin false .Sub) (mC (.int 0)) (mC (.int 1))) (aCons (m2 (opBin false .Sub) (mC (.int 0)) (mC (.int 1))) aNil)))) bYes (m2 (opBin false .Mod) (m2 (opBin false .FloorDiv) (mVar 0) (mCall 1 (F 5) (aCons (mVar 2) aNil))) (mC (.int 2))))) sPass))
theorem sh13 (F : Nat → FM) (LF : LamI → Sto → R D) : stepSs (semS G (semE G F LF fuel) fuel) (defGm d13) d13.body = s13 F := by kernel_rfl
def s14 (F : Nat → FM) : MS := (sSeq (sIf (bOr (bNot (mB (mChain (opC .LtE) (opC .LtE) (mC (.int 1)) (mB1 bLen (aCons (mVar 0) aNil)) (mC (.int 32))))) (mT (mQn true [1] (tName 1) (wVal (mVar 0)) bYes (m2 (opC .NotIn) (mVar 1) (mTup (aCons (mC (.int 0)) (aCons (mC (.int 1)) aNil))))))) (sSeq (sRaise 0) sPass) sPass) (sSeq (sAsg (tName 2) (mC (.int 0))) (sSeq (sForW (tName 1) (wVal (mVar 0)) (sSeq (sAsg (tName 2) (m2 (opBin false .Add) (m2 (opBin false .Mult) (mC (.int 2)) (mVar 2)) (mVar 1))) sPass)) (sSeq (sRet (mVar 2)) sPass))))
theorem sh14 (F : Nat → FM) (LF : LamI → Sto → R D) : stepSs (semS G (semE G F LF fuel) fuel) (defGm d14) d14.body = s14 F := by kernel_rfl
def s15 (F : Nat → FM) : MS := (sSeq (sExpr (mCall 1 (F 0) (aCons (mVar 0) aNil))) (sSeq (sIf (mB (m2 (opC .NotIn) (mVar 1) (mTup (aCons (mC (.int 0)) (aCons (mC (.int 1)) aNil))))) (sSeq (sRaise 0) sPass) sPass) (sSeq (sRet (mTup (aCons (m2 (opBin false .Add) (m2 (opBin false .Mod) (m2 (opBin false .Mult) (mVar 0) (mC (.int 2))) (mC (.int 256))) (mVar 1)) (aCons (m2 (opBin false .FloorDiv) (mVar 0) (mC (.int 128))) aNil)))) sPass)))
theorem sh15 (F : Nat → FM) (LF : LamI → Sto → R D) : stepSs (semS G (semE G F LF fuel) fuel) (defGm d15) d15.body = s15 F := by kernel_rfl
def s16 (F : Nat → FM) : MS := (sSeq (sExpr (mCall 1 (F 0) (aCons (mVar 0) aNil))) (sSeq (sIf (mB (m2 (opC .NotIn) (mVar 1) (mTup (aCons (mC (.int 0)) (aCons (mC (.int 1)) aNil))))) (sSeq (sRaise 0) sPass) sPass) (sSeq (sRet (mTup (aCons (m2 (opBin false .Add) (m2 (opBin false .FloorDiv) (mVar 0) (mC (.int 2))) (m2 (opBin false .Mult) (mC (.int 128)) (mVar 1))) (aCons (m2 (opBin false .Mod) (mVar 0) (mC (.int 2))) aNil)))) sPass)))
theorem sh16 (F : Nat → FM) (LF : LamI → Sto → R D) : stepSs (semS G (semE G F LF fuel) fuel) (defGm d16) d16.body = s16 F := by kernel_rfl
def s17 (F : Nat → FM) : MS := (sSeq (sExpr (mCall 1 (F 1) (aCons (mVar 0) aNil))) (sSeq (sRet (mTup (aCons (m2 (opBin false .FloorDiv) (mVar 0) (mC (.int 256))) (aCons (m2 (opBin false .Mod) (mVar 0) (mC (.int 256))) aNil)))) sPass))
theorem sh17 (F : Nat → FM) (LF : LamI → Sto → R D) : stepSs (semS G (semE G F LF fuel) fuel) (defGm d17) d17.body = s17 F := by kernel_rfl
def s18 (F : Nat → FM) : MS := (sSeq (sExpr (mCall 1 (F 0) (aCons (mVar 0) aNil))) (sSeq (sExpr (mCall 1 (F 0) (aCons (mVar 1) aNil))) (sSeq (sRet (m2 (opBin false .Add) (m2 (opBin false .Mult) (mVar 0) (mC (.int 256))) (mVar 1))) sPass)))
theorem sh18 (F : Nat → FM) (LF : LamI → Sto → R D) : stepSs (semS G (semE G F LF fuel) fuel) (defGm d18) d18.body = s18 F := by kernel_rfl
def s19 (F : Nat → FM) : MS := (sSeq (sExpr (mCall 1 (F 0) (aCons (mVar 0) aNil))) (sSeq (sRet (mCall 1 (F 9) (aCons (m1 (opRev false) (mCall 2 (F 8) (aCons (mVar 0) (aCons (mC (.int 8)) aNil)))) aNil))) sPass))
theorem sh19 (F : Nat → FM) (LF : LamI → Sto → R D) : stepSs (semS G (semE G F LF fuel) fuel) (defGm d19) d19.body = s19 F := by kernel_rfl
def s20 (F : Nat → FM) : MS := (sSeq (sRet (mB1 bSum (aCons (mCall 2 (F 8) (aCons (mVar 0) (aCons (mVar 1) aNil))) aNil))) sPass)
theorem sh20 (F : Nat → FM) (LF : LamI → Sto → R D) : stepSs (semS G (semE G F LF fuel) fuel) (defGm d20) d20.body = s20 F := by kernel_rfl
def s21 (F : Nat → FM) : MS := (sSeq (sIf (bNot (mB (mChain (opC .LtE) (opC .LtE) (mC (.int 0)) (mVar 0) (mC (.int 99))))) (sSeq (sRaise 0) sPass) sPass) (sSeq (sRet (m2 (opBin false .Add) (m2 (opBin false .Mult) (m2 (opBin false .FloorDiv) (mVar 0) (mC (.int 10))) (mC (.int 16))) (m2 (opBin false .Mod) (mVar 0) (mC (.int 10))))) sPass))
theorem sh21 (F : Nat → FM) (LF : LamI → Sto → R D) : stepSs (semS G (semE G F LF fuel) fuel) (defGm d21) d21.body = s21 F := by kernel_rfl
def s22 (F : Nat → FM) : MS := (sSeq (sExpr (mCall 1 (F 0) (aCons (mVar 0) aNil))) (sSeq (sIf (bOr (mB (m2 (opC .Gt) (m2 (opBin false .FloorDiv) (mVar 0) (mC (.int 16))) (mC (.int 9)))) (mB (m2 (opC .Gt) (m2 (opBin false .Mod) (mVar 0) (mC (.int 16))) (mC (.int 9))))) (sSeq (sRaise 0) sPass) sPass) (sSeq (sRet (m2 (opBin false .Add) (m2 (opBin false .Mult) (m2 (opBin false .FloorDiv) (mVar 0) (mC (.int 16))) (mC (.int 10))) (m2 (opBin false .Mod) (mVar 0) (mC (.int 16))))) sPass)))
theorem sh22 (F : Nat → FM) (LF : LamI → Sto → R D) : stepSs (semS G (semE G F LF fuel) fuel) (defGm d22) d22.body = s22 F := by kernel_rfl
def s23 (F : Nat → FM) : MS := (sSeq (sIf (mB (m2 (opC .NotIn) (mVar 2) (mTup (aCons (mC (.int 0)) (aCons (mC (.int 1)) aNil))))) (sSeq (sRaise 0) sPass) sPass) (sSeq (sAsg (tName 3) (m2 (opBin false .Add) (m2 (opBin false .Add) (mCall 1 (F 17) (aCons (mVar 0) aNil)) (mCall 1 (F 17) (aCons (mVar 1) aNil))) (mVar 2))) (sSeq (sRet (mTup (aCons (mCall 1 (F 16) (aCons (m2 (opBin false .Mod) (mVar 3) (mC (.int 100))) aNil)) (aCons (m2 (opBin false .FloorDiv) (mVar 3) (mC (.int 100))) aNil)))) sPass)))
theorem sh23 (F : Nat → FM) (LF : LamI → Sto → R D) : stepSs (semS G (semE G F LF fuel) fuel) (defGm d23) d23.body = s23 F := by kernel_rfl
def s24 (F : Nat → FM) : MS := (sSeq (sExpr (mCall 1 (F 0) (aCons (mVar 0) aNil))) (sSeq (sExpr (mCall 1 (F 0) (aCons (mVar 1) aNil))) (sSeq (sPar [2, 3] (aCons (mC (.int 0)) (aCons (mVar 0) aNil))) (sSeq (sForW (tName 4) (wVal (m1 (opRev false) (mCall 2 (F 8) (aCons (mVar 1) (aCons (mC (.int 8)) aNil))))) (sSeq (sAug 2 (ipOp .Add) (m2 (opBin false .Mult) (mVar 3) (mVar 4))) (sSeq (sAug 3 (ipOp .Mult) (mC (.int 2))) sPass))) (sSeq (sRet (mVar 2)) sPass)))))
theorem sh24 (F : Nat → FM) (LF : LamI → Sto → R D) : stepSs (semS G (semE G F LF fuel) fuel) (defGm d24) d24.body = s24 F := by kernel_rfl
def s25 (F : Nat → FM) : MS := (sSeq (sExpr (mCall 1 (F 0) (aCons (mVar 1) aNil))) (sSeq (sIf (mB (m2 (opC .Eq) (mVar 1) (mC (.int 0)))) (sSeq (sRaise 0) sPass) sPass) (sSeq (sAsg (tTup [(tName 2), (tName 3)]) (mTup (aCons (mC (.int 0)) (aCons (mC (.int 0)) aNil)))) (sSeq (sForW (tName 4) (wVal (mCall 2 (F 8) (aCons (mVar 0) (aCons (mC (.int 16)) aNil)))) (sSeq (sAsg (tName 3) (m2 (opBin false .Add) (m2 (opBin false .Mult) (mC (.int 2)) (mVar 3)) (mVar 4))) (sSeq (sAsg (tName 5) (mIf (mB (m2 (opC .GtE) (mVar 3) (mVar 1))) (mC (.int 1)) (mC (.int 0)))) (sSeq (sAug 3 (ipOp .Sub) (m2 (opBin false .Mult) (mVar 1) (mVar 5))) (sSeq (sAsg (tName 2) (m2 (opBin false .Add) (m2 (opBin false .Mult) (mC (.int 2)) (mVar 2)) (mVar 5))) sPass))))) (sSeq (sRet (mTup (aCons (mVar 2) (aCons (mVar 3) aNil)))) sPass)))))
theorem sh25 (F : Nat → FM) (LF : LamI → Sto → R D) : stepSs (semS G (semE G F LF fuel) fuel) (defGm d25) d25.body = s25 F := by kernel_rfl
def s26 (F : Nat → FM) : MS := (sSeq (sIf (bOr (bNot (mB (mChain (opC .LtE) (opC .LtE) (mC (.int 1)) (mVar 1) (mC (.int 8))))) (bNot (mB (mChain (opC .LtE) (opC .Lt) (mC (.int 0)) (mVar 0) (mCall 1 (F 5) (aCons (m2 (opBin false .Mult) (mC (.int 4)) (mVar 1)) aNil)))))) (sSeq (sRaise 0) sPass) sPass) (sSeq (sPar [2, 3] (aCons (mC (.str "")) (aCons (mVar 0) aNil))) (sSeq (sForW (tName 4) (wRng (aCons (mVar 1) aNil)) (sSeq (sAsg (tName 2) (m2 (opBin false .Add) (m2 opIx (mC (.str "0123456789abcdef")) (m2 (opBin false .Mod) (mVar 3) (mC (.int 16)))) (mVar 2))) (sSeq (sAug 3 (ipOp .FloorDiv) (mC (.int 16))) sPass))) (sSeq (sRet (mVar 2)) sPass))))
theorem sh26 (F : Nat → FM) (LF : LamI → Sto → R D) : stepSs (semS G (semE G F LF fuel) fuel) (defGm d26) d26.body = s26 F := by kernel_rfl
def s27 (F : Nat → FM) : MS := (sSeq (sIf (bOr (bNot (mB (mChain (opC .LtE) (opC .LtE) (mC (.int 1)) (mB1 bLen (aCons (mVar 0) aNil)) (mC (.int 8))))) (mT (mQn true [1] (tName 1) (wVal (mVar 0)) bYes (m2 (opC .NotIn) (mVar 1) (mC (.str "0123456789abcdef")))))) (sSeq (sRaise 0) sPass) sPass) (sSeq (sAsg (tName 2) (mC (.int 0))) (sSeq (sForW (tName 1) (wVal (mVar 0)) (sSeq (sAsg (tName 2) (m2 (opBin false .Add) (m2 (opBin false .Mult) (mC (.int 16)) (mVar 2)) (mMt .str mtIndex (mC (.str "0123456789abcdef")) (aCons (mVar 1) aNil)))) sPass)) (sSeq (sRet (mVar 2)) sPass))))
theorem sh27 (F : Nat → FM) (LF : LamI → Sto → R D) : stepSs (semS G (semE G F LF fuel) fuel) (defGm d27) d27.body = s27 F := by kernel_rfl
def s28 (F : Nat → FM) : MS := (sSeq (sAsg (tTup [(tName 1), (tName 2)]) (mTup (aCons (mC (.int 0)) (aCons (mC (.int 0)) aNil)))) (sSeq (sForW (tName 3) (wVal (mVar 0)) (sSeq (sExpr (mCall 1 (F 0) (aCons (mVar 3) aNil))) (sSeq (sAsg (tName 1) (m2 (opBin false .Mod) (m2 (opBin false .Add) (mVar 1) (mVar 3)) (mC (.int 255)))) (sSeq (sAsg (tName 2) (m2 (opBin false .Mod) (m2 (opBin false .Add) (mVar 2) (mVar 1)) (mC (.int 255)))) sPass)))) (sSeq (sRet (mTup (aCons (mVar 1) (aCons (mVar 2) aNil)))) sPass)))
theorem sh28 (F : Nat → FM) (LF : LamI → Sto → R D) : stepSs (semS G (semE G F LF fuel) fuel) (defGm d28) d28.body = s28 F := by kernel_rfl
def s29 (F : Nat → FM) : MS := (sSeq (sExpr (mCall 2 (F 4) (aCons (mVar 0) (aCons (mC (.int 15)) aNil)))) (sSeq (sIf (mB (m2 (opC .Eq) (mVar 0) (mC (.int 0)))) (sSeq (sRaise 0) sPass) sPass) (sSeq (sAsg (tName 1) (m2 (opBin false .Mod) (m2 (opBin false .Add) (mVar 0) (m2 (opBin false .FloorDiv) (mVar 0) (mC (.int 2)))) (mC (.int 2)))) (sSeq (sRet (mTup (aCons (m2 (opBin false .Add) (m2 (opBin false .FloorDiv) (mVar 0) (mC (.int 2))) (m2 (opBin false .Mult) (mC (.int 16384)) (mVar 1))) (aCons (m2 (opBin false .Mod) (mVar 0) (mC (.int 2))) aNil)))) sPass))))
theorem sh29 (F : Nat → FM) (LF : LamI → Sto → R D) : stepSs (semS G (semE G F LF fuel) fuel) (defGm d29) d29.body = s29 F := by kernel_rfl
def s31 (F : Nat → FM) : MS := (sSeq (sIf (mB (mChain (opC .Lt) (opC .Lt) (m2 (opBin false .Sub) (mC (.int 0)) (mC (.int 10))) (mVar 0) (mC (.int 10)))) (sSeq (sRet (mLst true (aCons (mB1 bAbs (aCons (mVar 0) aNil)) (aCons (mC (.int 0)) (aCons (mC (.int 2)) aNil))))) sPass) sPass) (sSeq (sRet (mLst true (aCons (mVar 0) (aCons (m2 (opBin true .Add) (mC (.int 1)) (m2 (opBin true .Mod) (mB1 bInt (aCons (mVar 0) aNil)) (mC (.int 1009)))) (aCons (mB1 bInt (aCons (m2 (opC .GtE) (mVar 0) (m2 (opBin true .Pow) (mC (.int 10)) (mC (.int 18)))) aNil)) aNil))))) sPass))
theorem sh31 (F : Nat → FM) (LF : LamI → Sto → R D) : stepSs (semS G (semE G F LF fuel) fuel) (defGm d31) d31.body = s31 F := by kernel_rfl
def s32 (F : Nat → FM) : MS := (sSeq (sIf (bOr (mB (m2 (opC .Eq) (m2 opIx (mVar 0) (mC (.int 2))) (mC (.int 2)))) (bAnd (mB (m2 (opC .Eq) (m2 opIx (mVar 0) (mC (.int 2))) (mC (.int 1)))) (mB (m2 (opC .Gt) (m2 opIx (mVar 0) (mC (.int 0))) (mC (.int 0)))))) (sSeq (sAsg (tName 2) (m2 (opBin false .Mod) (mB1 bInt (aCons (m2 opIx (mVar 0) (mC (.int 0))) aNil)) (mVar 1))) (sSeq (sAsg (tSub (mVar 0) (mC (.int 0))) (m2 (opBin false .FloorDiv) (m2 opIx (mVar 0) (mC (.int 0))) (mVar 1))) (sSeq (sRet (mVar 2)) sPass))) sPass) (sSeq (sAsg (tSub (mVar 0) (mC (.int 2))) (mC (.int 0))) (sSeq (sIf (mB (m2 (opC .Gt) (mVar 1) (mC (.int 100000000)))) (sSeq (sRet (m2 (opBin false .Mod) (mB1 bInt (aCons (m2 (opBin false .Add) (m2 (opBin false .Mult) (mCall 2 (F 26) (aCons (mVar 0) (aCons (m2 (opBin false .Add) (m2 (opBin false .FloorDiv) (mVar 1) (mC (.int 100000000))) (mC (.int 1))) aNil))) (mC (.int 100000000))) (mCall 2 (F 26) (aCons (mVar 0) (aCons (mC (.int 100000000)) aNil)))) aNil)) (mVar 1))) sPass) sPass) (sSeq (sAsg (tSub (mVar 0) (mC (.int 0))) (m2 (opBin false .Mod) (mB1 bInt (aCons (m2 (opBin false .Add) (m2 (opBin false .Add) (m2 (opBin false .Mult) (m2 opIx (mVar 0) (mC (.int 0))) (mC (.int 48271))) (m2 (opBin false .Mult) (m2 opIx (mVar 0) (mC (.int 1))) (mC (.int 69621)))) (mC (.int 11))) aNil)) (mC (.int 2147483647)))) (sSeq (sAsg (tSub (mVar 0) (mC (.int 1))) (m2 (opBin false .Add) (m2 opIx (mVar 0) (mC (.int 1))) (mC (.int 1)))) (sSeq (sRet (m2 (opBin false .Mod) (mB1 bInt (aCons (m2 (opBin false .FloorDiv) (m2 opIx (mVar 0) (mC (.int 0))) (mC (.int 7))) aNil)) (mVar 1))) sPass))))))
theorem sh32 (F : Nat → FM) (LF : LamI → Sto → R D) : stepSs (semS G (semE G F LF fuel) fuel) (defGm d32) d32.body = s32 F := by kernel_rfl
def s33 (F : Nat → FM) : MS := (sSeq (sAsg (tName 2) (mSl false (mVar 0) oNone (oSome (mVar 1)))) (sSeq (sIf (mB (m2 (opC .Eq) (mVar 2) (mLst false aNil))) (sSeq (sAsg (tName 2) (mLst false (aCons (mC (.int 0)) aNil))) sPass) sPass) (sSeq (sRet (mLc false [3] (tName 3) (wVal (mVar 2)) bYes (mCall 1 (F 25) (aCons (mVar 3) aNil)))) sPass)))
theorem sh33 (F : Nat → FM) (LF : LamI → Sto → R D) : stepSs (semS G (semE G F LF fuel) fuel) (defGm d33) d33.body = s33 F := by kernel_rfl
def s35 (F : Nat → FM) : MS := (sSeq (sRet (mIf (mB (m2 (opC .Gt) (mVar 0) (mC (.int 127)))) (m2 (opBin false .Sub) (mVar 0) (mC (.int 256))) (mVar 0))) sPass)
theorem sh35 (F : Nat → FM) (LF : LamI → Sto → R D) : stepSs (semS G (semE G F LF fuel) fuel) (defGm d35) d35.body = s35 F := by kernel_rfl
def s38 (F : Nat → FM) : MS := (sSeq (sForW (tName 1) (wVal (mCall 2 (F 27) (aCons (mVar 0) (aCons (mC (.int 1)) aNil)))) (sSeq (sAsg (tTup [(tName 2), (tName 3), (tName 4), (tName 5)]) (mTup (aCons (mCall 2 (F 26) (aCons (mVar 1) (aCons (mC (.int 256)) aNil))) (aCons (mCall 2 (F 26) (aCons (mVar 1) (aCons (mC (.int 256)) aNil))) (aCons (mCall 2 (F 26) (aCons (mVar 1) (aCons (mC (.int 2)) aNil))) (aCons (mCall 2 (F 26) (aCons (mVar 1) (aCons (mC (.int 65536)) aNil))) aNil)))))) (sSeq (sPar [6, 7] (aCons (m2 (opBin false .Add) (m2 (opBin false .Add) (mVar 2) (mVar 3)) (mVar 4)) (aCons (m2 (opBin false .Add) (m2 (opBin false .Add) (mCall 1 (F 29) (aCons (mVar 2) aNil)) (mCall 1 (F 29) (aCons (mVar 3) aNil))) (mVar 4)) aNil))) (sSeq (sIf (mB (m2 (opC .NotEq) (mCall 3 (F 2) (aCons (mVar 2) (aCons (mVar 3) (aCons (mVar 4) aNil)))) (mTup (aCons (m2 (opBin false .Mod) (mVar 6) (mC (.int 256))) (aCons (m2 (opBin false .FloorDiv) (mVar 6) (mC (.int 256))) (aCons (mOr (m2 (opC .Gt) (mVar 7) (mC (.int 127))) (m2 (opC .Lt) (mVar 7) (m1 unNeg (mC (.int 128))))) aNil)))))) (sSeq (sRet (mC (.bl false))) sPass) sPass) (sSeq (sPar [8, 7] (aCons (m2 (opBin false .Sub) (m2 (opBin false .Sub) (mVar 2) (mVar 3)) (mVar 4)) (aCons (m2 (opBin false .Sub) (m2 (opBin false .Sub) (mCall 1 (F 29) (aCons (mVar 2) aNil)) (mCall 1 (F 29) (aCons (mVar 3) aNil))) (mVar 4)) aNil))) (sSeq (sIf (mB (m2 (opC .NotEq) (mCall 3 (F 3) (aCons (mVar 2) (aCons (mVar 3) (aCons (mVar 4) aNil)))) (mTup (aCons (m2 (opBin false .Mod) (mVar 8) (mC (.int 256))) (aCons (mB1 bInt (aCons (m2 (opC .Lt) (mVar 8) (mC (.int 0))) aNil)) (aCons (mOr (m2 (opC .Gt) (mVar 7) (mC (.int 127))) (m2 (opC .Lt) (mVar 7) (m1 unNeg (mC (.int 128))))) aNil)))))) (sSeq (sRet (mC (.bl false))) sPass) sPass) (sSeq (sAsg (tTup [(tName 9), (tName 10), (tName 11)]) (mCall 3 (F 2) (aCons (mVar 2) (aCons (mVar 3) (aCons (mVar 4) aNil))))) (sSeq (sAsg (tTup [(tName 12), (tName 13), (tName 11)]) (mCall 3 (F 3) (aCons (mVar 9) (aCons (mVar 3) (aCons (mVar 4) aNil))))) (sSeq (sIf (bOr (mB (m2 (opC .NotEq) (mVar 12) (mVar 2))) (bOr (mB (m2 (opC .NotEq) (mVar 13) (mVar 10))) (bOr (mB (m2 (opC .NotEq) (mCall 2 (F 6) (aCons (mVar 2) (aCons (mC (.int 8)) aNil))) (mCall 1 (F 29) (aCons (mVar 2) aNil)))) (mB (m2 (opC .NotEq) (mCall 2 (F 7) (aCons (mCall 1 (F 29) (aCons (mVar 2) aNil)) (aCons (mC (.int 8)) aNil))) (mVar 2)))))) (sSeq (sRet (mC (.bl false))) sPass) sPass) (sSeq (sIf (bOr (mB (m2 (opC .NotEq) (mCall 2 (F 10) (aCons (mVar 2) (aCons (mVar 4) aNil))) (mTup (aCons (m2 (opBin false .Mod) (m2 (opBin false .Add) (m2 (opBin false .Mult) (mC (.int 2)) (mVar 2)) (mVar 4)) (mC (.int 256))) (aCons (m2 (opBin false .FloorDiv) (mVar 2) (mC (.int 128))) aNil))))) (mB (m2 (opC .NotEq) (mCall 2 (F 11) (aCons (mVar 2) (aCons (mVar 4) aNil))) (mTup (aCons (m2 (opBin false .FloorDiv) (m2 (opBin false .Add) (mVar 2) (m2 (opBin false .Mult) (mC (.int 256)) (mVar 4))) (mC (.int 2))) (aCons (m2 (opBin false .Mod) (mVar 2) (mC (.int 2))) aNil)))))) (sSeq (sRet (mC (.bl false))) sPass) sPass) (sSeq (sAsg (tTup [(tName 14), (tName 10)]) (mCall 2 (F 10) (aCons (mVar 2) (aCons (mVar 4) aNil)))) (sSeq (sIf (bOr (mB (m2 (opC .NotEq) (mCall 2 (F 11) (aCons (mVar 14) (aCons (mVar 10) aNil))) (mTup (aCons (mVar 2) (aCons (mVar 4) aNil))))) (bOr (mB (m2 (opC .NotEq) (mCall 1 (F 12) (aCons (mVar 5) aNil)) (mTup (aCons (m2 (opBin false .FloorDiv) (mVar 5) (mC (.int 256))) (aCons (m2 (opBin false .Mod) (mVar 5) (mC (.int 256))) aNil))))) (mB (m2 (opC .NotEq) (mCall 2 (F 13) (aCons (m2 (opBin false .FloorDiv) (mVar 5) (mC (.int 256))) (aCons (m2 (opBin false .Mod) (mVar 5) (mC (.int 256))) aNil))) (mVar 5))))) (sSeq (sRet (mC (.bl false))) sPass) sPass) (sSeq (sAsg (tName 15) (m2 (opBin false .Add) (mC (.int 1)) (mCall 2 (F 26) (aCons (mVar 1) (aCons (mC (.int 16)) aNil))))) (sSeq (sAsg (tName 16) (m2 (opBin false .Mod) (mVar 5) (mCall 1 (F 5) (aCons (mVar 15) aNil)))) (sSeq (sAsg (tName 17) (mB1 (bList false) (aCons (mCall 2 (F 8) (aCons (mVar 16) (aCons (mVar 15) aNil))) aNil))) (sSeq (sIf (bOr (mB (m2 (opC .NotEq) (mB1 bLen (aCons (mVar 17) aNil)) (mVar 15))) (bOr (mB (m2 (opC .NotEq) (mB1 bSum (aCons (mLc false [18, 19] (tTup [(tName 18), (tName 19)]) (wEnuC (mVar 17)) bYes (m2 (opBin false .Mult) (mVar 19) (mCall 1 (F 5) (aCons (m2 (opBin false .Sub) (m2 (opBin false .Sub) (mVar 15) (mC (.int 1))) (mVar 18)) aNil)))) aNil)) (mVar 16))) (bOr (mB (m2 (opC .NotEq) (mCall 1 (F 9) (aCons (mVar 17) aNil)) (mVar 16))) (mB (m2 (opC .NotEq) (mCall 2 (F 15) (aCons (mVar 16) (aCons (mVar 15) aNil))) (mB1 bSum (aCons (mVar 17) aNil))))))) (sSeq (sRet (mC (.bl false))) sPass) sPass) (sSeq (sIf (bOr (mB (m2 (opC .NotEq) (mCall 1 (F 5) (aCons (mVar 15) aNil)) (m2 (opBin false .Mult) (mC (.int 2)) (mCall 1 (F 5) (aCons (m2 (opBin false .Sub) (mVar 15) (mC (.int 1))) aNil))))) (bOr (mB (m2 (opC .NotEq) (mLc false [19] (tName 19) (wVal (mVar 17)) (mB (m2 (opC .NotIn) (mVar 19) (mLst false (aCons (mC (.int 0)) (aCons (mC (.int 1)) aNil))))) (mVar 19)) (mLst false aNil))) (mB (m2 (opC .NotEq) (mB1 (bList false) (aCons (mCall 2 (F 8) (aCons (mCall 1 (F 14) (aCons (mVar 2) aNil)) (aCons (mC (.int 8)) aNil))) aNil)) (m1 (opRev false) (mB1 (bList false) (aCons (mCall 2 (F 8) (aCons (mVar 2) (aCons (mC (.int 8)) aNil))) aNil))))))) (sSeq (sRet (mC (.bl false))) sPass) sPass) (sSeq (sAsg (tName 20) (mCall 1 (F 5) (aCons (m2 (opBin false .Sub) (mVar 15) (mC (.int 1))) aNil))) (sSeq (sIf (bOr (mB (m2 (opC .NotEq) (mCall 2 (F 6) (aCons (mVar 16) (aCons (mVar 15) aNil))) (mIf (mB (m2 (opC .GtE) (mVar 16) (mVar 20))) (m2 (opBin false .Sub) (mVar 16) (m2 (opBin false .Mult) (mC (.int 2)) (mVar 20))) (mVar 16)))) (mB (m2 (opC .NotEq) (mCall 2 (F 7) (aCons (mCall 2 (F 6) (aCons (mVar 16) (aCons (mVar 15) aNil))) (aCons (mVar 15) aNil))) (mVar 16)))) (sSeq (sRet (mC (.bl false))) sPass) sPass) (sSeq (sPar [21, 22] (aCons (m2 (opBin false .Mod) (mVar 2) (mC (.int 100))) (aCons (m2 (opBin false .Mod) (mVar 3) (mC (.int 100))) aNil))) (sSeq (sIf (bOr (mB (m2 (opC .NotEq) (mCall 1 (F 17) (aCons (mCall 1 (F 16) (aCons (mVar 21) aNil)) aNil)) (mVar 21))) (bOr (mB (m2 (opC .NotEq) (mCall 1 (F 16) (aCons (mVar 21) aNil)) (m2 (opBin false .Add) (m2 (opBin false .Mult) (m2 (opBin false .FloorDiv) (mVar 21) (mC (.int 10))) (mC (.int 16))) (m2 (opBin false .Mod) (mVar 21) (mC (.int 10)))))) (mB (m2 (opC .NotEq) (mCall 3 (F 18) (aCons (mCall 1 (F 16) (aCons (mVar 21) aNil)) (aCons (mCall 1 (F 16) (aCons (mVar 22) aNil)) (aCons (mVar 4) aNil)))) (mTup (aCons (mCall 1 (F 16) (aCons (m2 (opBin false .Mod) (m2 (opBin false .Add) (m2 (opBin false .Add) (mVar 21) (mVar 22)) (mVar 4)) (mC (.int 100))) aNil)) (aCons (m2 (opBin false .FloorDiv) (m2 (opBin false .Add) (m2 (opBin false .Add) (mVar 21) (mVar 22)) (mVar 4)) (mC (.int 100))) aNil))))))) (sSeq (sRet (mC (.bl false))) sPass) sPass) (sSeq (sIf (bOr (mB (m2 (opC .NotEq) (mCall 2 (F 19) (aCons (mVar 2) (aCons (mVar 3) aNil))) (m2 (opBin false .Mult) (mVar 2) (mVar 3)))) (bAnd (mB (m2 (opC .Gt) (mVar 3) (mC (.int 0)))) (mB (m2 (opC .NotEq) (mCall 2 (F 20) (aCons (mVar 5) (aCons (mVar 3) aNil))) (mTup (aCons (m2 (opBin false .FloorDiv) (mVar 5) (mVar 3)) (aCons (m2 (opBin false .Mod) (mVar 5) (mVar 3)) aNil))))))) (sSeq (sRet (mC (.bl false))) sPass) sPass) (sSeq (sAsg (tName 23) (m2 (opBin false .Add) (mC (.int 4)) (mCall 2 (F 26) (aCons (mVar 1) (aCons (mC (.int 3)) aNil))))) (sSeq (sAsg (tName 24) (mCall 2 (F 21) (aCons (mVar 5) (aCons (mVar 23) aNil)))) (sSeq (sIf (bOr (mB (m2 (opC .NotEq) (mB1 bLen (aCons (mVar 24) aNil)) (mVar 23))) (bOr (mB (m2 (opC .NotEq) (mB1 bSum (aCons (mLc false [18, 25] (tTup [(tName 18), (tName 25)]) (wEnuC (mVar 24)) bYes (m2 (opBin false .Mult) (mMt .str mtIndex (mC (.str "0123456789abcdef")) (aCons (mVar 25) aNil)) (mCall 1 (F 5) (aCons (m2 (opBin false .Mult) (mC (.int 4)) (m2 (opBin false .Sub) (m2 (opBin false .Sub) (mVar 23) (mC (.int 1))) (mVar 18))) aNil)))) aNil)) (mVar 5))) (mB (m2 (opC .NotEq) (mCall 1 (F 22) (aCons (mVar 24) aNil)) (mVar 5))))) (sSeq (sRet (mC (.bl false))) sPass) sPass) (sSeq (sPar [17, 26, 27] (aCons (mLc false [18] (tName 18) (wRng (aCons (mCall 2 (F 26) (aCons (mVar 1) (aCons (mC (.int 9)) aNil))) aNil)) bYes (mCall 2 (F 26) (aCons (mVar 1) (aCons (mC (.int 256)) aNil)))) (aCons (mC (.int 0)) (aCons (mC (.int 0)) aNil)))) (sSeq (sForW (tName 16) (wVal (mVar 17)) (sSeq (sPar [26, 27] (aCons (m2 (opBin false .Add) (mVar 26) (mVar 16)) (aCons (m2 (opBin false .Add) (m2 (opBin false .Add) (mVar 27) (mVar 26)) (mVar 16)) aNil))) sPass)) (sSeq (sIf (mB (m2 (opC .NotEq) (mCall 1 (F 23) (aCons (mVar 17) aNil)) (mTup (aCons (m2 (opBin false .Mod) (mVar 26) (mC (.int 255))) (aCons (m2 (opBin false .Mod) (mVar 27) (mC (.int 255))) aNil))))) (sSeq (sRet (mC (.bl false))) sPass) sPass) (sSeq (sAsg (tName 28) (m2 (opBin false .Add) (mC (.int 1)) (m2 (opBin false .Mod) (mVar 5) (mC (.int 32767))))) (sSeq (sAsg (tName 19) (mB1 bInt (aCons (m2 (opC .NotEq) (m2 (opBin false .Mod) (mVar 28) (mC (.int 2))) (m2 (opBin false .Mod) (m2 (opBin false .FloorDiv) (mVar 28) (mC (.int 2))) (mC (.int 2)))) aNil))) (sSeq (sIf (mB (m2 (opC .NotEq) (mCall 1 (F 24) (aCons (mVar 28) aNil)) (mTup (aCons (m2 (opBin false .Add) (m2 (opBin false .FloorDiv) (mVar 28) (mC (.int 2))) (m2 (opBin false .Mult) (mC (.int 16384)) (mVar 19))) (aCons (m2 (opBin false .Mod) (mVar 28) (mC (.int 2))) aNil))))) (sSeq (sRet (mC (.bl false))) sPass) sPass) sPass))))))))))))))))))))))))))))))) (sSeq (sRet (mCall 0 (F 31) aNil)) sPass))
theorem sh38 (F : Nat → FM) (LF : LamI → Sto → R D) : stepSs (semS G (semE G F LF fuel) fuel) (defGm d38) d38.body = s38 F := by kernel_rfl
end K01
end Z

set_option Elab.async false
set_option linter.all false
set_option maxRecDepth 100000
set_option maxHeartbeats 4000000
namespace Z
open PySem
namespace K01
theorem check_byte (j : Nat) {n : Int} (h0 : 0 ≤ n) (h1 : n ≤ 255) : Ev G (j + 1) 0 [.int n] .non := by
  refine ev_of (d := d5) rfl rfl sh5 rfl rfl (s' := []) ?_
  show runN 1 _ _ _ = _
  unfold s5
  simp only [runN, sSeq, sIf, sRet, sRetN, sExpr, sAsg, sRaise, sPass, sAug, sPar, putAll, tName, tTup, tAll, goOn, R.out, R.bind_ok, R.bind_exc, R.bind_bad, R.of, R.nx, mC, mVar, m1, m2, mB, mT, mNot, mAnd, mOr, mIf, bNot, bAnd, bOr, bIf, truthR, truth, mTup, mkT, mLst, mkL, aNil, aCons, mCall, mB1, opBin, ipOp, ipAdd, ipMul, opAdd, opSub, opMul, opFdiv, opMod, unNeg, opC, opCmp, op_eq_int, op_in2, op_inl2, mChain, bYes, wVal, wRng, wOf, wR, wipeE, big, List.map_cons, List.map_nil, List.length_cons, List.length_nil, List.replicate, List.cons_append, List.nil_append, List.getElem?_cons_zero, List.getElem?_cons_succ, List.set_cons_zero, List.set_cons_succ, if_true, if_false, decide_true, decide_false, Bool.not_true, Bool.not_false, Bool.true_and, Bool.and_true, Bool.false_and, Bool.and_false, Bool.or_false, Bool.false_or, Bool.true_or, Bool.or_true, Bool.xor_false, Bool.xor_true, Bool.false_xor, Bool.true_xor, Bool.false_eq_true, Bool.true_eq_false, ite_true, ite_false, line, Nat.reduceSub, Nat.reduceAdd, Int.reduceNeg, Int.reducePow, Int.reduceLT, Int.reduceLE, Int.reduceMul, Int.reduceAdd, Int.reduceSub, Int.reduceDiv, Int.reduceMod, Int.reduceEq, Nat.reduceLeDiff, Nat.reduceLT, Nat.reduceEqDiff, and_true, true_and, and_false, false_and, and_self, gt_iff_lt, ge_iff_le, h0, h1]
theorem check_word (j : Nat) {n : Int} (h0 : 0 ≤ n) (h1 : n ≤ 65535) : Ev G (j + 1) 1 [.int n] .non := by
  refine ev_of (d := d6) rfl rfl sh6 rfl rfl (s' := []) ?_
  show runN 1 _ _ _ = _
  unfold s6
  simp only [runN, sSeq, sIf, sRet, sRetN, sExpr, sAsg, sRaise, sPass, sAug, sPar, putAll, tName, tTup, tAll, goOn, R.out, R.bind_ok, R.bind_exc, R.bind_bad, R.of, R.nx, mC, mVar, m1, m2, mB, mT, mNot, mAnd, mOr, mIf, bNot, bAnd, bOr, bIf, truthR, truth, mTup, mkT, mLst, mkL, aNil, aCons, mCall, mB1, opBin, ipOp, ipAdd, ipMul, opAdd, opSub, opMul, opFdiv, opMod, unNeg, opC, opCmp, op_eq_int, op_in2, op_inl2, mChain, bYes, wVal, wRng, wOf, wR, wipeE, big, List.map_cons, List.map_nil, List.length_cons, List.length_nil, List.replicate, List.cons_append, List.nil_append, List.getElem?_cons_zero, List.getElem?_cons_succ, List.set_cons_zero, List.set_cons_succ, if_true, if_false, decide_true, decide_false, Bool.not_true, Bool.not_false, Bool.true_and, Bool.and_true, Bool.false_and, Bool.and_false, Bool.or_false, Bool.false_or, Bool.true_or, Bool.or_true, Bool.xor_false, Bool.xor_true, Bool.false_xor, Bool.true_xor, Bool.false_eq_true, Bool.true_eq_false, ite_true, ite_false, line, Nat.reduceSub, Nat.reduceAdd, Int.reduceNeg, Int.reducePow, Int.reduceLT, Int.reduceLE, Int.reduceMul, Int.reduceAdd, Int.reduceSub, Int.reduceDiv, Int.reduceMod, Int.reduceEq, Nat.reduceLeDiff, Nat.reduceLT, Nat.reduceEqDiff, and_true, true_and, and_false, false_and, and_self, gt_iff_lt, ge_iff_le, h0, h1]
def isI (r : R D) (i : Int) : Bool := match r with
  | .ok (.int j) [] => decide (i = j)
  | _ => false
theorem isI_ok {r : R D} {i : Int} (h : isI r i = true) : r = .ok (.int i) [] := by
  unfold isI at h
  split at h
  · rw [of_decide_eq_true h]
  · cases h
def allTo (p : Nat → Bool) : Nat → Bool
  | 0 => true
  | n + 1 => p n && allTo p n
theorem allTo_ok {p : Nat → Bool} : ∀ {n k : Nat}, allTo p n = true → k < n → p k = true
  | n + 1, k, h, hk => by
    unfold allTo at h
    obtain ⟨h1, h2⟩ := and_t h
    rcases Nat.lt_succ_iff_lt_or_eq.mp hk with q | q
    · exact allTo_ok h2 q
    · rw [q]; exact h1
/-- 2 to the b -/
def pw (b : Nat) : Int := Int.ofNat (2 ^ b)
theorem pw_pos (b : Nat) : 0 < pw b := Int.ofNat_lt.mpr (Nat.two_pow_pos b)
theorem pw_succ (b : Nat) : pw (b + 1) = 2 * pw b := by
  unfold pw
  rw [Nat.pow_succ, Nat.mul_comm]
  rfl
theorem pw_le {a b : Nat} (h : a ≤ b) : pw a ≤ pw b := Int.ofNat_le.mpr (Nat.pow_le_pow_right (by decide) h)
theorem pow_all : allTo (fun b => isI (runN 3 (s10 fun _ _ _ => .bad) [.int (Int.ofNat b)] []) (pw b)) 33 = true := by decide +kernel
theorem power_of (j : Nat) {b : Nat} (h : b ≤ 32) {i : Int} (hi : i = Int.ofNat b) : Ev G (j + 1) 5 [.int i] (.int (pw b)) := by
  subst hi
  refine ev_of (d := d10) rfl rfl sh10 rfl rfl (s' := []) ?_
  show runN 3 (s10 fun _ _ _ => .bad) [.int (Int.ofNat b)] [] = _
  have q := allTo_ok (k := b) pow_all (by omega)
  exact isI_ok q
theorem check_bits (j : Nat) {n i : Int} {b : Nat} (hi : i = Int.ofNat b) (hb : 1 ≤ b) (hb2 : b ≤ 32) (h0 : 0 ≤ n) (h1 : n < pw b) : Ev G (j + 2) 4 [.int n, .int i] .non := by
  refine ev_of (d := d9) rfl rfl sh9 rfl rfl (s' := []) ?_
  show runN 2 _ _ _ = _
  unfold s9
  have q1 : (1 : Int) ≤ i := by subst hi; exact Int.ofNat_le.mpr hb
  have q2 : i ≤ 32 := by subst hi; exact Int.ofNat_le.mpr hb2
  simp only [runN, sSeq, sIf, sRet, sRetN, sExpr, sAsg, sRaise, sPass, sAug, sPar, putAll, tName, tTup, tAll, goOn, R.out, R.bind_ok, R.bind_exc, R.bind_bad, R.of, R.nx, mC, mVar, m1, m2, mB, mT, mNot, mAnd, mOr, mIf, bNot, bAnd, bOr, bIf, truthR, truth, mTup, mkT, mLst, mkL, aNil, aCons, mCall, mB1, opBin, ipOp, ipAdd, ipMul, opAdd, opSub, opMul, opFdiv, opMod, unNeg, opC, opCmp, op_eq_int, op_in2, op_inl2, mChain, bYes, wVal, wRng, wOf, wR, wipeE, big, List.map_cons, List.map_nil, List.length_cons, List.length_nil, List.replicate, List.cons_append, List.nil_append, List.getElem?_cons_zero, List.getElem?_cons_succ, List.set_cons_zero, List.set_cons_succ, if_true, if_false, decide_true, decide_false, Bool.not_true, Bool.not_false, Bool.true_and, Bool.and_true, Bool.false_and, Bool.and_false, Bool.or_false, Bool.false_or, Bool.true_or, Bool.or_true, Bool.xor_false, Bool.xor_true, Bool.false_xor, Bool.true_xor, Bool.false_eq_true, Bool.true_eq_false, ite_true, ite_false, line, Nat.reduceSub, Nat.reduceAdd, Int.reduceNeg, Int.reducePow, Int.reduceLT, Int.reduceLE, Int.reduceMul, Int.reduceAdd, Int.reduceSub, Int.reduceDiv, Int.reduceMod, Int.reduceEq, Nat.reduceLeDiff, Nat.reduceLT, Nat.reduceEqDiff, and_true, true_and, and_false, false_and, and_self, gt_iff_lt, ge_iff_le, h0, h1, q1, q2, power_of j hb2 hi _]
/-- signed reading -/
def sgn (n : Int) (b : Nat) : Int := if pw b ≤ n then n - 2 * pw b else n
theorem signed_of (j : Nat) {n i : Int} {b : Nat} (hi : i = Int.ofNat (b + 1)) (hb2 : b ≤ 31) (h0 : 0 ≤ n) (h1 : n < pw (b + 1)) : Ev G (j + 3) 6 [.int n, .int i] (.int (sgn n b)) := by
  refine ev_of (d := d11) rfl rfl sh11 rfl rfl (s' := []) ?_
  show runN 3 _ _ _ = _
  unfold s11
  have hc := check_bits j (n := n) hi (by omega) (by omega) h0 h1
  have hp := power_of (j + 1) (b := b) (i := i - 1) (by omega) (by subst hi; show Int.ofNat b + 1 - 1 = Int.ofNat b; omega)
  have bg : -(2 ^ 64) < (2 : Int) ∧ (2 : Int) < 2 ^ 64 := by decide
  unfold sgn
  by_cases h : pw b ≤ n
  · simp only [runN, sSeq, sIf, sRet, sRetN, sExpr, sAsg, sRaise, sPass, sAug, sPar, putAll, tName, tTup, tAll, goOn, R.out, R.bind_ok, R.bind_exc, R.bind_bad, R.of, R.nx, mC, mVar, m1, m2, mB, mT, mNot, mAnd, mOr, mIf, bNot, bAnd, bOr, bIf, truthR, truth, mTup, mkT, mLst, mkL, aNil, aCons, mCall, mB1, opBin, ipOp, ipAdd, ipMul, opAdd, opSub, opMul, opFdiv, opMod, unNeg, opC, opCmp, op_eq_int, op_in2, op_inl2, mChain, bYes, wVal, wRng, wOf, wR, wipeE, big, List.map_cons, List.map_nil, List.length_cons, List.length_nil, List.replicate, List.cons_append, List.nil_append, List.getElem?_cons_zero, List.getElem?_cons_succ, List.set_cons_zero, List.set_cons_succ, if_true, if_false, decide_true, decide_false, Bool.not_true, Bool.not_false, Bool.true_and, Bool.and_true, Bool.false_and, Bool.and_false, Bool.or_false, Bool.false_or, Bool.true_or, Bool.or_true, Bool.xor_false, Bool.xor_true, Bool.false_xor, Bool.true_xor, Bool.false_eq_true, Bool.true_eq_false, ite_true, ite_false, line, Nat.reduceSub, Nat.reduceAdd, Int.reduceNeg, Int.reducePow, Int.reduceLT, Int.reduceLE, Int.reduceMul, Int.reduceAdd, Int.reduceSub, Int.reduceDiv, Int.reduceMod, Int.reduceEq, Nat.reduceLeDiff, Nat.reduceLT, Nat.reduceEqDiff, and_true, true_and, and_false, false_and, and_self, gt_iff_lt, ge_iff_le, hc _, hp _, h, bg]
  · simp only [runN, sSeq, sIf, sRet, sRetN, sExpr, sAsg, sRaise, sPass, sAug, sPar, putAll, tName, tTup, tAll, goOn, R.out, R.bind_ok, R.bind_exc, R.bind_bad, R.of, R.nx, mC, mVar, m1, m2, mB, mT, mNot, mAnd, mOr, mIf, bNot, bAnd, bOr, bIf, truthR, truth, mTup, mkT, mLst, mkL, aNil, aCons, mCall, mB1, opBin, ipOp, ipAdd, ipMul, opAdd, opSub, opMul, opFdiv, opMod, unNeg, opC, opCmp, op_eq_int, op_in2, op_inl2, mChain, bYes, wVal, wRng, wOf, wR, wipeE, big, List.map_cons, List.map_nil, List.length_cons, List.length_nil, List.replicate, List.cons_append, List.nil_append, List.getElem?_cons_zero, List.getElem?_cons_succ, List.set_cons_zero, List.set_cons_succ, if_true, if_false, decide_true, decide_false, Bool.not_true, Bool.not_false, Bool.true_and, Bool.and_true, Bool.false_and, Bool.and_false, Bool.or_false, Bool.false_or, Bool.true_or, Bool.or_true, Bool.xor_false, Bool.xor_true, Bool.false_xor, Bool.true_xor, Bool.false_eq_true, Bool.true_eq_false, ite_true, ite_false, line, Nat.reduceSub, Nat.reduceAdd, Int.reduceNeg, Int.reducePow, Int.reduceLT, Int.reduceLE, Int.reduceMul, Int.reduceAdd, Int.reduceSub, Int.reduceDiv, Int.reduceMod, Int.reduceEq, Nat.reduceLeDiff, Nat.reduceLT, Nat.reduceEqDiff, and_true, true_and, and_false, false_and, and_self, gt_iff_lt, ge_iff_le, hc _, hp _, h, bg]
def sg (n : Int) : Int := if 128 ≤ n then n - 256 else n
theorem sgn8 {n : Int} : sgn n 7 = sg n := by
  have h : pw 7 = 128 := by decide
  unfold sgn sg
  rw [h]
  rfl
theorem signed8 (j : Nat) {n : Int} (h0 : 0 ≤ n) (h1 : n ≤ 255) : Ev G (j + 3) 6 [.int n, .int 8] (.int (sg n)) := by
  have h : pw 8 = 256 := by decide
  rw [← sgn8]
  exact signed_of j (b := 7) rfl (by decide) h0 (by rw [h]; omega)
def bit01 (c : Int) : Prop := c = 0 ∨ c = 1
theorem in01 {c : Int} (h : c = 0 ∨ c = 1) : (decide ((0 : Int) = c) || decide ((1 : Int) = c)) = true := by
  rcases h with rfl | rfl <;> rfl
theorem added (j : Nat) {a b c : Int} (a0 : 0 ≤ a) (a1 : a ≤ 255) (b0 : 0 ≤ b) (b1 : b ≤ 255) (hc : c = 0 ∨ c = 1) : Ev G (j + 4) 2 [.int a, .int b, .int c] (.tup [.int ((a + b + c) % 256), .int ((a + b + c) / 256), .bl (!decide (-128 ≤ sg a + sg b + c ∧ sg a + sg b + c ≤ 127))]) := by
  refine ev_of (d := d7) rfl rfl sh7 rfl rfl (s' := []) ?_
  show runN 5 _ _ _ = _
  unfold s7
  have e1 : (0 : Int) < 256 := by decide
  have e2 : ((0 : Int) < 256 ∧ (256 : Int) < 1073741824) := by decide
  have e3 : (0 : Int) - 128 = -128 := by decide
  by_cases h1 : -128 ≤ sg a + sg b + c
  · by_cases h2 : sg a + sg b + c ≤ 127
    · simp only [runN, sSeq, sIf, sRet, sRetN, sExpr, sAsg, sRaise, sPass, sAug, sPar, putAll, tName, tTup, tAll, goOn, R.out, R.bind_ok, R.bind_exc, R.bind_bad, R.of, R.nx, mC, mVar, m1, m2, mB, mT, mNot, mAnd, mOr, mIf, bNot, bAnd, bOr, bIf, truthR, truth, mTup, mkT, mLst, mkL, aNil, aCons, mCall, mB1, opBin, ipOp, ipAdd, ipMul, opAdd, opSub, opMul, opFdiv, opMod, unNeg, opC, opCmp, op_eq_int, op_in2, op_inl2, mChain, bYes, wVal, wRng, wOf, wR, wipeE, big, List.map_cons, List.map_nil, List.length_cons, List.length_nil, List.replicate, List.cons_append, List.nil_append, List.getElem?_cons_zero, List.getElem?_cons_succ, List.set_cons_zero, List.set_cons_succ, if_true, if_false, decide_true, decide_false, Bool.not_true, Bool.not_false, Bool.true_and, Bool.and_true, Bool.false_and, Bool.and_false, Bool.or_false, Bool.false_or, Bool.true_or, Bool.or_true, Bool.xor_false, Bool.xor_true, Bool.false_xor, Bool.true_xor, Bool.false_eq_true, Bool.true_eq_false, ite_true, ite_false, line, Nat.reduceSub, Nat.reduceAdd, Int.reduceNeg, Int.reducePow, Int.reduceLT, Int.reduceLE, Int.reduceMul, Int.reduceAdd, Int.reduceSub, Int.reduceDiv, Int.reduceMod, Int.reduceEq, Nat.reduceLeDiff, Nat.reduceLT, Nat.reduceEqDiff, and_true, true_and, and_false, false_and, and_self, gt_iff_lt, ge_iff_le, check_byte (j + 2) a0 a1 _, check_byte (j + 2) b0 b1 _, signed8 j a0 a1 _, signed8 j b0 b1 _, in01 hc, e1, e2, e3, h1, h2, and_self]
    · simp only [runN, sSeq, sIf, sRet, sRetN, sExpr, sAsg, sRaise, sPass, sAug, sPar, putAll, tName, tTup, tAll, goOn, R.out, R.bind_ok, R.bind_exc, R.bind_bad, R.of, R.nx, mC, mVar, m1, m2, mB, mT, mNot, mAnd, mOr, mIf, bNot, bAnd, bOr, bIf, truthR, truth, mTup, mkT, mLst, mkL, aNil, aCons, mCall, mB1, opBin, ipOp, ipAdd, ipMul, opAdd, opSub, opMul, opFdiv, opMod, unNeg, opC, opCmp, op_eq_int, op_in2, op_inl2, mChain, bYes, wVal, wRng, wOf, wR, wipeE, big, List.map_cons, List.map_nil, List.length_cons, List.length_nil, List.replicate, List.cons_append, List.nil_append, List.getElem?_cons_zero, List.getElem?_cons_succ, List.set_cons_zero, List.set_cons_succ, if_true, if_false, decide_true, decide_false, Bool.not_true, Bool.not_false, Bool.true_and, Bool.and_true, Bool.false_and, Bool.and_false, Bool.or_false, Bool.false_or, Bool.true_or, Bool.or_true, Bool.xor_false, Bool.xor_true, Bool.false_xor, Bool.true_xor, Bool.false_eq_true, Bool.true_eq_false, ite_true, ite_false, line, Nat.reduceSub, Nat.reduceAdd, Int.reduceNeg, Int.reducePow, Int.reduceLT, Int.reduceLE, Int.reduceMul, Int.reduceAdd, Int.reduceSub, Int.reduceDiv, Int.reduceMod, Int.reduceEq, Nat.reduceLeDiff, Nat.reduceLT, Nat.reduceEqDiff, and_true, true_and, and_false, false_and, and_self, gt_iff_lt, ge_iff_le, check_byte (j + 2) a0 a1 _, check_byte (j + 2) b0 b1 _, signed8 j a0 a1 _, signed8 j b0 b1 _, in01 hc, e1, e2, e3, h1, h2, and_self, and_false]
  · simp only [runN, sSeq, sIf, sRet, sRetN, sExpr, sAsg, sRaise, sPass, sAug, sPar, putAll, tName, tTup, tAll, goOn, R.out, R.bind_ok, R.bind_exc, R.bind_bad, R.of, R.nx, mC, mVar, m1, m2, mB, mT, mNot, mAnd, mOr, mIf, bNot, bAnd, bOr, bIf, truthR, truth, mTup, mkT, mLst, mkL, aNil, aCons, mCall, mB1, opBin, ipOp, ipAdd, ipMul, opAdd, opSub, opMul, opFdiv, opMod, unNeg, opC, opCmp, op_eq_int, op_in2, op_inl2, mChain, bYes, wVal, wRng, wOf, wR, wipeE, big, List.map_cons, List.map_nil, List.length_cons, List.length_nil, List.replicate, List.cons_append, List.nil_append, List.getElem?_cons_zero, List.getElem?_cons_succ, List.set_cons_zero, List.set_cons_succ, if_true, if_false, decide_true, decide_false, Bool.not_true, Bool.not_false, Bool.true_and, Bool.and_true, Bool.false_and, Bool.and_false, Bool.or_false, Bool.false_or, Bool.true_or, Bool.or_true, Bool.xor_false, Bool.xor_true, Bool.false_xor, Bool.true_xor, Bool.false_eq_true, Bool.true_eq_false, ite_true, ite_false, line, Nat.reduceSub, Nat.reduceAdd, Int.reduceNeg, Int.reducePow, Int.reduceLT, Int.reduceLE, Int.reduceMul, Int.reduceAdd, Int.reduceSub, Int.reduceDiv, Int.reduceMod, Int.reduceEq, Nat.reduceLeDiff, Nat.reduceLT, Nat.reduceEqDiff, and_true, true_and, and_false, false_and, and_self, gt_iff_lt, ge_iff_le, check_byte (j + 2) a0 a1 _, check_byte (j + 2) b0 b1 _, signed8 j a0 a1 _, signed8 j b0 b1 _, in01 hc, e1, e2, e3, h1, and_self, false_and]
theorem taken (j : Nat) {a b c : Int} (a0 : 0 ≤ a) (a1 : a ≤ 255) (b0 : 0 ≤ b) (b1 : b ≤ 255) (hc : c = 0 ∨ c = 1) : Ev G (j + 4) 3 [.int a, .int b, .int c] (.tup [.int ((a - b - c) % 256), .int (if a - b - c < 0 then 1 else 0), .bl (!decide (-128 ≤ sg a - sg b - c ∧ sg a - sg b - c ≤ 127))]) := by
  refine ev_of (d := d8) rfl rfl sh8 rfl rfl (s' := []) ?_
  show runN 5 _ _ _ = _
  unfold s8
  have e1 : (0 : Int) < 256 := by decide
  have e3 : (0 : Int) - 128 = -128 := by decide
  by_cases h0 : a - b - c < 0
  all_goals by_cases h1 : -128 ≤ sg a - sg b - c
  all_goals by_cases h2 : sg a - sg b - c ≤ 127
  all_goals simp only [runN, sSeq, sIf, sRet, sRetN, sExpr, sAsg, sRaise, sPass, sAug, sPar, putAll, tName, tTup, tAll, goOn, R.out, R.bind_ok, R.bind_exc, R.bind_bad, R.of, R.nx, mC, mVar, m1, m2, mB, mT, mNot, mAnd, mOr, mIf, bNot, bAnd, bOr, bIf, truthR, truth, mTup, mkT, mLst, mkL, aNil, aCons, mCall, mB1, opBin, ipOp, ipAdd, ipMul, opAdd, opSub, opMul, opFdiv, opMod, unNeg, opC, opCmp, op_eq_int, op_in2, op_inl2, mChain, bYes, wVal, wRng, wOf, wR, wipeE, big, List.map_cons, List.map_nil, List.length_cons, List.length_nil, List.replicate, List.cons_append, List.nil_append, List.getElem?_cons_zero, List.getElem?_cons_succ, List.set_cons_zero, List.set_cons_succ, if_true, if_false, decide_true, decide_false, Bool.not_true, Bool.not_false, Bool.true_and, Bool.and_true, Bool.false_and, Bool.and_false, Bool.or_false, Bool.false_or, Bool.true_or, Bool.or_true, Bool.xor_false, Bool.xor_true, Bool.false_xor, Bool.true_xor, Bool.false_eq_true, Bool.true_eq_false, ite_true, ite_false, line, Nat.reduceSub, Nat.reduceAdd, Int.reduceNeg, Int.reducePow, Int.reduceLT, Int.reduceLE, Int.reduceMul, Int.reduceAdd, Int.reduceSub, Int.reduceDiv, Int.reduceMod, Int.reduceEq, Nat.reduceLeDiff, Nat.reduceLT, Nat.reduceEqDiff, and_true, true_and, and_false, false_and, and_self, gt_iff_lt, ge_iff_le, check_byte (j + 2) a0 a1 _, check_byte (j + 2) b0 b1 _, signed8 j a0 a1 _, signed8 j b0 b1 _, in01 hc, e1, e3, h0, h1, h2, and_self, false_and, and_false]
theorem plain_of (j : Nat) {n i : Int} {b : Nat} (hi : i = Int.ofNat (b + 1)) (hb2 : b ≤ 31) (h0 : 0 - pw b ≤ n) (h1 : n < pw b) : Ev G (j + 2) 7 [.int n, .int i] (.int (n % pw (b + 1))) := by
  refine ev_of (d := d12) rfl rfl sh12 rfl rfl (s' := []) ?_
  show runN 2 _ _ _ = _
  unfold s12
  have hp := power_of j (b := b) (i := i - 1) (by omega) (by subst hi; show Int.ofNat b + 1 - 1 = Int.ofNat b; omega)
  have hp1 := power_of j (b := b + 1) (i := i) (by omega) hi
  have hi2 : i = (b : Int) + 1 := hi
  have q1 : (1 : Int) ≤ i := by omega
  have q2 : i ≤ 32 := by omega
  simp only [runN, sSeq, sIf, sRet, sRetN, sExpr, sAsg, sRaise, sPass, sAug, sPar, putAll, tName, tTup, tAll, goOn, R.out, R.bind_ok, R.bind_exc, R.bind_bad, R.of, R.nx, mC, mVar, m1, m2, mB, mT, mNot, mAnd, mOr, mIf, bNot, bAnd, bOr, bIf, truthR, truth, mTup, mkT, mLst, mkL, aNil, aCons, mCall, mB1, opBin, ipOp, ipAdd, ipMul, opAdd, opSub, opMul, opFdiv, opMod, unNeg, opC, opCmp, op_eq_int, op_in2, op_inl2, mChain, bYes, wVal, wRng, wOf, wR, wipeE, big, List.map_cons, List.map_nil, List.length_cons, List.length_nil, List.replicate, List.cons_append, List.nil_append, List.getElem?_cons_zero, List.getElem?_cons_succ, List.set_cons_zero, List.set_cons_succ, if_true, if_false, decide_true, decide_false, Bool.not_true, Bool.not_false, Bool.true_and, Bool.and_true, Bool.false_and, Bool.and_false, Bool.or_false, Bool.false_or, Bool.true_or, Bool.or_true, Bool.xor_false, Bool.xor_true, Bool.false_xor, Bool.true_xor, Bool.false_eq_true, Bool.true_eq_false, ite_true, ite_false, line, Nat.reduceSub, Nat.reduceAdd, Int.reduceNeg, Int.reducePow, Int.reduceLT, Int.reduceLE, Int.reduceMul, Int.reduceAdd, Int.reduceSub, Int.reduceDiv, Int.reduceMod, Int.reduceEq, Nat.reduceLeDiff, Nat.reduceLT, Nat.reduceEqDiff, and_true, true_and, and_false, false_and, and_self, gt_iff_lt, ge_iff_le, hp _, hp1 _, q1, q2, h0, h1, pw_pos (b + 1)]
theorem rolled_left (j : Nat) {a c : Int} (a0 : 0 ≤ a) (a1 : a ≤ 255) (hc : c = 0 ∨ c = 1) : Ev G (j + 2) 10 [.int a, .int c] (.tup [.int (a * 2 % 256 + c), .int (a / 128)]) := by
  refine ev_of (d := d15) rfl rfl sh15 rfl rfl (s' := []) ?_
  show runN 2 _ _ _ = _
  unfold s15
  have e1 : (0 : Int) < 256 := by decide
  have e2 : ((0 : Int) < 128 ∧ (128 : Int) < 1073741824) := by decide
  have bg : -(2 ^ 64) < (2 : Int) ∧ (2 : Int) < 2 ^ 64 := by decide
  simp only [runN, sSeq, sIf, sRet, sRetN, sExpr, sAsg, sRaise, sPass, sAug, sPar, putAll, tName, tTup, tAll, goOn, R.out, R.bind_ok, R.bind_exc, R.bind_bad, R.of, R.nx, mC, mVar, m1, m2, mB, mT, mNot, mAnd, mOr, mIf, bNot, bAnd, bOr, bIf, truthR, truth, mTup, mkT, mLst, mkL, aNil, aCons, mCall, mB1, opBin, ipOp, ipAdd, ipMul, opAdd, opSub, opMul, opFdiv, opMod, unNeg, opC, opCmp, op_eq_int, op_in2, op_inl2, mChain, bYes, wVal, wRng, wOf, wR, wipeE, big, List.map_cons, List.map_nil, List.length_cons, List.length_nil, List.replicate, List.cons_append, List.nil_append, List.getElem?_cons_zero, List.getElem?_cons_succ, List.set_cons_zero, List.set_cons_succ, if_true, if_false, decide_true, decide_false, Bool.not_true, Bool.not_false, Bool.true_and, Bool.and_true, Bool.false_and, Bool.and_false, Bool.or_false, Bool.false_or, Bool.true_or, Bool.or_true, Bool.xor_false, Bool.xor_true, Bool.false_xor, Bool.true_xor, Bool.false_eq_true, Bool.true_eq_false, ite_true, ite_false, line, Nat.reduceSub, Nat.reduceAdd, Int.reduceNeg, Int.reducePow, Int.reduceLT, Int.reduceLE, Int.reduceMul, Int.reduceAdd, Int.reduceSub, Int.reduceDiv, Int.reduceMod, Int.reduceEq, Nat.reduceLeDiff, Nat.reduceLT, Nat.reduceEqDiff, and_true, true_and, and_false, false_and, and_self, gt_iff_lt, ge_iff_le, check_byte j a0 a1 _, in01 hc, e1, e2, bg, and_self]
theorem rolled_right (j : Nat) {a c : Int} (a0 : 0 ≤ a) (a1 : a ≤ 255) (hc : c = 0 ∨ c = 1) : Ev G (j + 2) 11 [.int a, .int c] (.tup [.int (a / 2 + 128 * c), .int (a % 2)]) := by
  refine ev_of (d := d16) rfl rfl sh16 rfl rfl (s' := []) ?_
  show runN 2 _ _ _ = _
  unfold s16
  have e1 : (0 : Int) < 2 := by decide
  have e2 : ((0 : Int) < 2 ∧ (2 : Int) < 1073741824) := by decide
  have bg : -(2 ^ 64) < (128 : Int) ∧ (128 : Int) < 2 ^ 64 := by decide
  simp only [runN, sSeq, sIf, sRet, sRetN, sExpr, sAsg, sRaise, sPass, sAug, sPar, putAll, tName, tTup, tAll, goOn, R.out, R.bind_ok, R.bind_exc, R.bind_bad, R.of, R.nx, mC, mVar, m1, m2, mB, mT, mNot, mAnd, mOr, mIf, bNot, bAnd, bOr, bIf, truthR, truth, mTup, mkT, mLst, mkL, aNil, aCons, mCall, mB1, opBin, ipOp, ipAdd, ipMul, opAdd, opSub, opMul, opFdiv, opMod, unNeg, opC, opCmp, op_eq_int, op_in2, op_inl2, mChain, bYes, wVal, wRng, wOf, wR, wipeE, big, List.map_cons, List.map_nil, List.length_cons, List.length_nil, List.replicate, List.cons_append, List.nil_append, List.getElem?_cons_zero, List.getElem?_cons_succ, List.set_cons_zero, List.set_cons_succ, if_true, if_false, decide_true, decide_false, Bool.not_true, Bool.not_false, Bool.true_and, Bool.and_true, Bool.false_and, Bool.and_false, Bool.or_false, Bool.false_or, Bool.true_or, Bool.or_true, Bool.xor_false, Bool.xor_true, Bool.false_xor, Bool.true_xor, Bool.false_eq_true, Bool.true_eq_false, ite_true, ite_false, line, Nat.reduceSub, Nat.reduceAdd, Int.reduceNeg, Int.reducePow, Int.reduceLT, Int.reduceLE, Int.reduceMul, Int.reduceAdd, Int.reduceSub, Int.reduceDiv, Int.reduceMod, Int.reduceEq, Nat.reduceLeDiff, Nat.reduceLT, Nat.reduceEqDiff, and_true, true_and, and_false, false_and, and_self, gt_iff_lt, ge_iff_le, check_byte j a0 a1 _, in01 hc, e1, e2, bg, and_self]
theorem halves_of (j : Nat) {a : Int} (a0 : 0 ≤ a) (a1 : a ≤ 65535) : Ev G (j + 2) 12 [.int a] (.tup [.int (a / 256), .int (a % 256)]) := by
  refine ev_of (d := d17) rfl rfl sh17 rfl rfl (s' := []) ?_
  show runN 1 _ _ _ = _
  unfold s17
  have e1 : (0 : Int) < 256 := by decide
  have e2 : ((0 : Int) < 256 ∧ (256 : Int) < 1073741824) := by decide
  simp only [runN, sSeq, sIf, sRet, sRetN, sExpr, sAsg, sRaise, sPass, sAug, sPar, putAll, tName, tTup, tAll, goOn, R.out, R.bind_ok, R.bind_exc, R.bind_bad, R.of, R.nx, mC, mVar, m1, m2, mB, mT, mNot, mAnd, mOr, mIf, bNot, bAnd, bOr, bIf, truthR, truth, mTup, mkT, mLst, mkL, aNil, aCons, mCall, mB1, opBin, ipOp, ipAdd, ipMul, opAdd, opSub, opMul, opFdiv, opMod, unNeg, opC, opCmp, op_eq_int, op_in2, op_inl2, mChain, bYes, wVal, wRng, wOf, wR, wipeE, big, List.map_cons, List.map_nil, List.length_cons, List.length_nil, List.replicate, List.cons_append, List.nil_append, List.getElem?_cons_zero, List.getElem?_cons_succ, List.set_cons_zero, List.set_cons_succ, if_true, if_false, decide_true, decide_false, Bool.not_true, Bool.not_false, Bool.true_and, Bool.and_true, Bool.false_and, Bool.and_false, Bool.or_false, Bool.false_or, Bool.true_or, Bool.or_true, Bool.xor_false, Bool.xor_true, Bool.false_xor, Bool.true_xor, Bool.false_eq_true, Bool.true_eq_false, ite_true, ite_false, line, Nat.reduceSub, Nat.reduceAdd, Int.reduceNeg, Int.reducePow, Int.reduceLT, Int.reduceLE, Int.reduceMul, Int.reduceAdd, Int.reduceSub, Int.reduceDiv, Int.reduceMod, Int.reduceEq, Nat.reduceLeDiff, Nat.reduceLT, Nat.reduceEqDiff, and_true, true_and, and_false, false_and, and_self, gt_iff_lt, ge_iff_le, check_word j a0 a1 _, e1, e2, and_self]
theorem joined (j : Nat) {a b : Int} (a0 : 0 ≤ a) (a1 : a ≤ 255) (b0 : 0 ≤ b) (b1 : b ≤ 255) : Ev G (j + 2) 13 [.int a, .int b] (.int (a * 256 + b)) := by
  refine ev_of (d := d18) rfl rfl sh18 rfl rfl (s' := []) ?_
  show runN 2 _ _ _ = _
  unfold s18
  have bg : -(2 ^ 64) < (256 : Int) ∧ (256 : Int) < 2 ^ 64 := by decide
  simp only [runN, sSeq, sIf, sRet, sRetN, sExpr, sAsg, sRaise, sPass, sAug, sPar, putAll, tName, tTup, tAll, goOn, R.out, R.bind_ok, R.bind_exc, R.bind_bad, R.of, R.nx, mC, mVar, m1, m2, mB, mT, mNot, mAnd, mOr, mIf, bNot, bAnd, bOr, bIf, truthR, truth, mTup, mkT, mLst, mkL, aNil, aCons, mCall, mB1, opBin, ipOp, ipAdd, ipMul, opAdd, opSub, opMul, opFdiv, opMod, unNeg, opC, opCmp, op_eq_int, op_in2, op_inl2, mChain, bYes, wVal, wRng, wOf, wR, wipeE, big, List.map_cons, List.map_nil, List.length_cons, List.length_nil, List.replicate, List.cons_append, List.nil_append, List.getElem?_cons_zero, List.getElem?_cons_succ, List.set_cons_zero, List.set_cons_succ, if_true, if_false, decide_true, decide_false, Bool.not_true, Bool.not_false, Bool.true_and, Bool.and_true, Bool.false_and, Bool.and_false, Bool.or_false, Bool.false_or, Bool.true_or, Bool.or_true, Bool.xor_false, Bool.xor_true, Bool.false_xor, Bool.true_xor, Bool.false_eq_true, Bool.true_eq_false, ite_true, ite_false, line, Nat.reduceSub, Nat.reduceAdd, Int.reduceNeg, Int.reducePow, Int.reduceLT, Int.reduceLE, Int.reduceMul, Int.reduceAdd, Int.reduceSub, Int.reduceDiv, Int.reduceMod, Int.reduceEq, Nat.reduceLeDiff, Nat.reduceLT, Nat.reduceEqDiff, and_true, true_and, and_false, false_and, and_self, gt_iff_lt, ge_iff_le, check_byte j a0 a1 _, check_byte j b0 b1 _, bg, and_self]
theorem tens_byte (j : Nat) {a : Int} (a0 : 0 ≤ a) (a1 : a ≤ 99) : Ev G (j + 1) 16 [.int a] (.int (a / 10 * 16 + a % 10)) := by
  refine ev_of (d := d21) rfl rfl sh21 rfl rfl (s' := []) ?_
  show runN 1 _ _ _ = _
  unfold s21
  have e1 : (0 : Int) < 10 := by decide
  have e2 : ((0 : Int) < 10 ∧ (10 : Int) < 1073741824) := by decide
  have bg : -(2 ^ 64) < (16 : Int) ∧ (16 : Int) < 2 ^ 64 := by decide
  simp only [runN, sSeq, sIf, sRet, sRetN, sExpr, sAsg, sRaise, sPass, sAug, sPar, putAll, tName, tTup, tAll, goOn, R.out, R.bind_ok, R.bind_exc, R.bind_bad, R.of, R.nx, mC, mVar, m1, m2, mB, mT, mNot, mAnd, mOr, mIf, bNot, bAnd, bOr, bIf, truthR, truth, mTup, mkT, mLst, mkL, aNil, aCons, mCall, mB1, opBin, ipOp, ipAdd, ipMul, opAdd, opSub, opMul, opFdiv, opMod, unNeg, opC, opCmp, op_eq_int, op_in2, op_inl2, mChain, bYes, wVal, wRng, wOf, wR, wipeE, big, List.map_cons, List.map_nil, List.length_cons, List.length_nil, List.replicate, List.cons_append, List.nil_append, List.getElem?_cons_zero, List.getElem?_cons_succ, List.set_cons_zero, List.set_cons_succ, if_true, if_false, decide_true, decide_false, Bool.not_true, Bool.not_false, Bool.true_and, Bool.and_true, Bool.false_and, Bool.and_false, Bool.or_false, Bool.false_or, Bool.true_or, Bool.or_true, Bool.xor_false, Bool.xor_true, Bool.false_xor, Bool.true_xor, Bool.false_eq_true, Bool.true_eq_false, ite_true, ite_false, line, Nat.reduceSub, Nat.reduceAdd, Int.reduceNeg, Int.reducePow, Int.reduceLT, Int.reduceLE, Int.reduceMul, Int.reduceAdd, Int.reduceSub, Int.reduceDiv, Int.reduceMod, Int.reduceEq, Nat.reduceLeDiff, Nat.reduceLT, Nat.reduceEqDiff, and_true, true_and, and_false, false_and, and_self, gt_iff_lt, ge_iff_le, a0, a1, e1, e2, bg, and_self]
theorem from_tens (j : Nat) {a : Int} (a0 : 0 ≤ a) (a1 : a ≤ 255) (h1 : a / 16 ≤ 9) (h2 : a % 16 ≤ 9) : Ev G (j + 2) 17 [.int a] (.int (a / 16 * 10 + a % 16)) := by
  refine ev_of (d := d22) rfl rfl sh22 rfl rfl (s' := []) ?_
  show runN 1 _ _ _ = _
  unfold s22
  have e1 : (0 : Int) < 16 := by decide
  have e2 : ((0 : Int) < 16 ∧ (16 : Int) < 1073741824) := by decide
  have bg : -(2 ^ 64) < (10 : Int) ∧ (10 : Int) < 2 ^ 64 := by decide
  have g1 : ¬ (9 < a / 16) := by omega
  have g2 : ¬ (9 < a % 16) := by omega
  simp only [runN, sSeq, sIf, sRet, sRetN, sExpr, sAsg, sRaise, sPass, sAug, sPar, putAll, tName, tTup, tAll, goOn, R.out, R.bind_ok, R.bind_exc, R.bind_bad, R.of, R.nx, mC, mVar, m1, m2, mB, mT, mNot, mAnd, mOr, mIf, bNot, bAnd, bOr, bIf, truthR, truth, mTup, mkT, mLst, mkL, aNil, aCons, mCall, mB1, opBin, ipOp, ipAdd, ipMul, opAdd, opSub, opMul, opFdiv, opMod, unNeg, opC, opCmp, op_eq_int, op_in2, op_inl2, mChain, bYes, wVal, wRng, wOf, wR, wipeE, big, List.map_cons, List.map_nil, List.length_cons, List.length_nil, List.replicate, List.cons_append, List.nil_append, List.getElem?_cons_zero, List.getElem?_cons_succ, List.set_cons_zero, List.set_cons_succ, if_true, if_false, decide_true, decide_false, Bool.not_true, Bool.not_false, Bool.true_and, Bool.and_true, Bool.false_and, Bool.and_false, Bool.or_false, Bool.false_or, Bool.true_or, Bool.or_true, Bool.xor_false, Bool.xor_true, Bool.false_xor, Bool.true_xor, Bool.false_eq_true, Bool.true_eq_false, ite_true, ite_false, line, Nat.reduceSub, Nat.reduceAdd, Int.reduceNeg, Int.reducePow, Int.reduceLT, Int.reduceLE, Int.reduceMul, Int.reduceAdd, Int.reduceSub, Int.reduceDiv, Int.reduceMod, Int.reduceEq, Nat.reduceLeDiff, Nat.reduceLT, Nat.reduceEqDiff, and_true, true_and, and_false, false_and, and_self, gt_iff_lt, ge_iff_le, check_byte j a0 a1 _, g1, g2, e1, e2, bg, and_self]
theorem tens_added (j : Nat) {a b c : Int} (a0 : 0 ≤ a) (a1 : a ≤ 255) (b0 : 0 ≤ b) (b1 : b ≤ 255) (ha1 : a / 16 ≤ 9) (ha2 : a % 16 ≤ 9) (hb1 : b / 16 ≤ 9) (hb2 : b % 16 ≤ 9) (hc : c = 0 ∨ c = 1) :
    Ev G (j + 3) 18 [.int a, .int b, .int c] (.tup [.int ((a / 16 * 10 + a % 16 + (b / 16 * 10 + b % 16) + c) % 100 / 10 * 16 + (a / 16 * 10 + a % 16 + (b / 16 * 10 + b % 16) + c) % 100 % 10), .int ((a / 16 * 10 + a % 16 + (b / 16 * 10 + b % 16) + c) / 100)]) := by
  refine ev_of (d := d23) rfl rfl sh23 rfl rfl (s' := []) ?_
  show runN 4 _ _ _ = _
  unfold s23
  have e1 : (0 : Int) < 100 := by decide
  have e2 : ((0 : Int) < 100 ∧ (100 : Int) < 1073741824) := by decide
  have ht := tens_byte (j + 1) (a := (a / 16 * 10 + a % 16 + (b / 16 * 10 + b % 16) + c) % 100) (by omega) (by omega)
  simp only [runN, sSeq, sIf, sRet, sRetN, sExpr, sAsg, sRaise, sPass, sAug, sPar, putAll, tName, tTup, tAll, goOn, R.out, R.bind_ok, R.bind_exc, R.bind_bad, R.of, R.nx, mC, mVar, m1, m2, mB, mT, mNot, mAnd, mOr, mIf, bNot, bAnd, bOr, bIf, truthR, truth, mTup, mkT, mLst, mkL, aNil, aCons, mCall, mB1, opBin, ipOp, ipAdd, ipMul, opAdd, opSub, opMul, opFdiv, opMod, unNeg, opC, opCmp, op_eq_int, op_in2, op_inl2, mChain, bYes, wVal, wRng, wOf, wR, wipeE, big, List.map_cons, List.map_nil, List.length_cons, List.length_nil, List.replicate, List.cons_append, List.nil_append, List.getElem?_cons_zero, List.getElem?_cons_succ, List.set_cons_zero, List.set_cons_succ, if_true, if_false, decide_true, decide_false, Bool.not_true, Bool.not_false, Bool.true_and, Bool.and_true, Bool.false_and, Bool.and_false, Bool.or_false, Bool.false_or, Bool.true_or, Bool.or_true, Bool.xor_false, Bool.xor_true, Bool.false_xor, Bool.true_xor, Bool.false_eq_true, Bool.true_eq_false, ite_true, ite_false, line, Nat.reduceSub, Nat.reduceAdd, Int.reduceNeg, Int.reducePow, Int.reduceLT, Int.reduceLE, Int.reduceMul, Int.reduceAdd, Int.reduceSub, Int.reduceDiv, Int.reduceMod, Int.reduceEq, Nat.reduceLeDiff, Nat.reduceLT, Nat.reduceEqDiff, and_true, true_and, and_false, false_and, and_self, gt_iff_lt, ge_iff_le, from_tens j a0 a1 ha1 ha2 _, from_tens j b0 b1 hb1 hb2 _, in01 hc, ht _, e1, e2, and_self]
theorem step_noise (j : Nat) {a : Int} (a0 : 0 < a) (a1 : a < 32768) : Ev G (j + 3) 24 [.int a] (.tup [.int (a / 2 + 16384 * ((a + a / 2) % 2)), .int (a % 2)]) := by
  refine ev_of (d := d29) rfl rfl sh29 rfl rfl (s' := []) ?_
  show runN 2 _ _ _ = _
  unfold s29
  have e1 : (0 : Int) < 2 := by decide
  have e2 : ((0 : Int) < 2 ∧ (2 : Int) < 1073741824) := by decide
  have bg : -(2 ^ 64) < (16384 : Int) ∧ (16384 : Int) < 2 ^ 64 := by decide
  have hq : pw 15 = 32768 := by decide
  have hc := check_bits j (n := a) (i := 15) (b := 15) rfl (by decide) (by decide) (by omega) (by rw [hq]; exact a1)
  have hz : ¬ (a = 0) := by omega
  simp only [runN, sSeq, sIf, sRet, sRetN, sExpr, sAsg, sRaise, sPass, sAug, sPar, putAll, tName, tTup, tAll, goOn, R.out, R.bind_ok, R.bind_exc, R.bind_bad, R.of, R.nx, mC, mVar, m1, m2, mB, mT, mNot, mAnd, mOr, mIf, bNot, bAnd, bOr, bIf, truthR, truth, mTup, mkT, mLst, mkL, aNil, aCons, mCall, mB1, opBin, ipOp, ipAdd, ipMul, opAdd, opSub, opMul, opFdiv, opMod, unNeg, opC, opCmp, op_eq_int, op_in2, op_inl2, mChain, bYes, wVal, wRng, wOf, wR, wipeE, big, List.map_cons, List.map_nil, List.length_cons, List.length_nil, List.replicate, List.cons_append, List.nil_append, List.getElem?_cons_zero, List.getElem?_cons_succ, List.set_cons_zero, List.set_cons_succ, if_true, if_false, decide_true, decide_false, Bool.not_true, Bool.not_false, Bool.true_and, Bool.and_true, Bool.false_and, Bool.and_false, Bool.or_false, Bool.false_or, Bool.true_or, Bool.or_true, Bool.xor_false, Bool.xor_true, Bool.false_xor, Bool.true_xor, Bool.false_eq_true, Bool.true_eq_false, ite_true, ite_false, line, Nat.reduceSub, Nat.reduceAdd, Int.reduceNeg, Int.reducePow, Int.reduceLT, Int.reduceLE, Int.reduceMul, Int.reduceAdd, Int.reduceSub, Int.reduceDiv, Int.reduceMod, Int.reduceEq, Nat.reduceLeDiff, Nat.reduceLT, Nat.reduceEqDiff, and_true, true_and, and_false, false_and, and_self, gt_iff_lt, ge_iff_le, hc _, hz, e1, e2, bg, and_self]
end K01
end Z

set_option Elab.async false
set_option linter.all false
set_option maxRecDepth 100000
set_option maxHeartbeats 4000000
namespace Z
open PySem
namespace K01
/-- the bits, the highest first -/
def bitsL (n : Int) : Nat → List Int
  | 0 => []
  | b + 1 => n / pw b % 2 :: bitsL n b
theorem bitsL_len {n : Int} : ∀ b, (bitsL n b).length = b
  | 0 => rfl
  | b + 1 => by unfold bitsL; rw [List.length_cons, bitsL_len b]
theorem bitsL_01 {n : Int} : ∀ {b : Nat} {x : Int}, x ∈ bitsL n b → x = 0 ∨ x = 1
  | b + 1, x, h => by
    unfold bitsL at h
    rcases List.mem_cons.mp h with h | h
    · omega
    · exact bitsL_01 h
def down : Nat → List D
  | 0 => []
  | b + 1 => .int (Int.ofNat b) :: down b
theorem rng_down : ∀ b : Nat, rngL (Int.ofNat b - 1) (-1) b = down b
  | 0 => rfl
  | b + 1 => by
    have ih := rng_down b
    unfold rngL at ih ⊢
    unfold down
    rw [List.range_succ_eq_map, List.map_cons, List.map_map, ← ih]
    have e : (Int.ofNat (b + 1)) = (Int.ofNat b) + 1 := rfl
    congr 1
    · rw [e]
      congr 1
      show Int.ofNat b + 1 - 1 + ((0 : Nat) : Int) * -1 = Int.ofNat b
      omega
    · apply List.map_congr_left
      intro k hk
      show D.int (Int.ofNat (b + 1) - 1 + ((k + 1 : Nat) : Int) * -1) = D.int (Int.ofNat b - 1 + (k : Int) * -1)
      rw [e]
      congr 1
      omega
theorem rng_all : allTo (fun b => b == 0 || (decide ((-1 : Int) ≠ 0) && decide ((-1 : Int).natAbs < 1073741824) && Builtin.Range.small (Int.ofNat b - 1) (-1) (-1) && decide (Builtin.Range.rangeSize (Int.ofNat b - 1) (-1) (-1) = ((Builtin.Range.rangeSize (Int.ofNat b - 1) (-1) (-1)).toNat : Int)) && decide ((Builtin.Range.rangeSize (Int.ofNat b - 1) (-1) (-1)).toNat = b))) 31 = true := by decide +kernel
theorem rng_is {b : Nat} (h1 : 1 ≤ b) (h2 : b ≤ 30) : rng [.int (Int.ofNat b - 1), .int (-1), .int (-1)] = some (down b) := by
  have q := allTo_ok (k := b) rng_all (by omega)
  have q : (b == 0 || _) = true := q
  rw [Bool.or_eq_true] at q
  rcases q with q | q
  · have := beq_iff_eq.mp q
    omega
  · obtain ⟨q, q5⟩ := and_t q
    have q5 := of_decide_eq_true q5
    unfold rng
    show (if _ then some (rngL (Int.ofNat b - 1) (-1) (Builtin.Range.rangeSize (Int.ofNat b - 1) (-1) (-1)).toNat) else none) = _
    rw [if_pos q, q5, rng_down]
theorem down_len : ∀ b, (down b).length = b
  | 0 => rfl
  | b + 1 => by unfold down; rw [List.length_cons, down_len b]
theorem pw_lt30 {b : Nat} (h : b ≤ 29) : pw b < 1073741824 := by
  have := pw_le (a := b) (b := 29) h
  have e : pw 29 = 536870912 := by decide
  omega
theorem bit_one (j : Nat) {n i x P : Int} {s : Sto} (q1 : 0 < P) (q2 : P < 1073741824) (hp : Ev G (j + 1) 5 [.int x] (.int P)) : mChk okAny (m2 (opBin false .Mod) (m2 (opBin false .FloorDiv) (mVar 0) (mCall 1 ((prog G (j + 1)).1 5) (aCons (mVar 2) aNil))) (mC (.int 2))) [some (.int n), some (.int i), some (.int x)] s = .ok (.int (n / P % 2)) s := by
  have hp := hp s
  simp only [runN, sSeq, sIf, sRet, sRetN, sExpr, sAsg, sRaise, sPass, sAug, sPar, putAll, tName, tTup, tAll, goOn, R.out, R.bind_ok, R.bind_exc, R.bind_bad, R.of, R.nx, mC, mVar, m1, m2, mB, mT, mNot, mAnd, mOr, mIf, bNot, bAnd, bOr, bIf, truthR, truth, mTup, mkT, mLst, mkL, aNil, aCons, mCall, mB1, opBin, ipOp, ipAdd, ipMul, opAdd, opSub, opMul, opFdiv, opMod, unNeg, opC, opCmp, op_eq_int, op_in2, op_inl2, mChain, bYes, wVal, wRng, wOf, wR, wipeE, big, List.map_cons, List.map_nil, List.length_cons, List.length_nil, List.replicate, List.cons_append, List.nil_append, List.getElem?_cons_zero, List.getElem?_cons_succ, List.set_cons_zero, List.set_cons_succ, if_true, if_false, decide_true, decide_false, Bool.not_true, Bool.not_false, Bool.true_and, Bool.and_true, Bool.false_and, Bool.and_false, Bool.or_false, Bool.false_or, Bool.true_or, Bool.or_true, Bool.xor_false, Bool.xor_true, Bool.false_xor, Bool.true_xor, Bool.false_eq_true, Bool.true_eq_false, ite_true, ite_false, line, Nat.reduceSub, Nat.reduceAdd, Int.reduceNeg, Int.reducePow, Int.reduceLT, Int.reduceLE, Int.reduceMul, Int.reduceAdd, Int.reduceSub, Int.reduceDiv, Int.reduceMod, Int.reduceEq, Nat.reduceLeDiff, Nat.reduceLT, Nat.reduceEqDiff, and_true, true_and, and_false, false_and, and_self, gt_iff_lt, ge_iff_le, hp, q1, q2, mChk, okAny]
theorem bits_lc {n i : Int} {s : Sto} (el : ME) (hel : ∀ b, b ≤ 29 → el [some (.int n), some (.int i), some (.int (Int.ofNat b))] s = .ok (.int (n / pw b % 2)) s) : ∀ {b : Nat}, b ≤ 30 →
    lcF (tName 2) bYes el (down b) [some (.int n), some (.int i), none] s = .ok ((bitsL n b).map D.int) s := by
  intro b
  induction b with
  | zero => intro _; rfl
  | succ b ih =>
    intro h
    have ih := ih (by omega)
    have e := hel b (by omega)
    unfold down bitsL lcF lcT
    simp only [runN, sSeq, sIf, sRet, sRetN, sExpr, sAsg, sRaise, sPass, sAug, sPar, putAll, tName, tTup, tAll, goOn, R.out, R.bind_ok, R.bind_exc, R.bind_bad, R.of, R.nx, mC, mVar, m1, m2, mB, mT, mNot, mAnd, mOr, mIf, bNot, bAnd, bOr, bIf, truthR, truth, mTup, mkT, mLst, mkL, aNil, aCons, mCall, mB1, opBin, ipOp, ipAdd, ipMul, opAdd, opSub, opMul, opFdiv, opMod, unNeg, opC, opCmp, op_eq_int, op_in2, op_inl2, mChain, bYes, wVal, wRng, wOf, wR, wipeE, big, List.map_cons, List.map_nil, List.length_cons, List.length_nil, List.replicate, List.cons_append, List.nil_append, List.getElem?_cons_zero, List.getElem?_cons_succ, List.set_cons_zero, List.set_cons_succ, if_true, if_false, decide_true, decide_false, Bool.not_true, Bool.not_false, Bool.true_and, Bool.and_true, Bool.false_and, Bool.and_false, Bool.or_false, Bool.false_or, Bool.true_or, Bool.or_true, Bool.xor_false, Bool.xor_true, Bool.false_xor, Bool.true_xor, Bool.false_eq_true, Bool.true_eq_false, ite_true, ite_false, line, Nat.reduceSub, Nat.reduceAdd, Int.reduceNeg, Int.reducePow, Int.reduceLT, Int.reduceLE, Int.reduceMul, Int.reduceAdd, Int.reduceSub, Int.reduceDiv, Int.reduceMod, Int.reduceEq, Nat.reduceLeDiff, Nat.reduceLT, Nat.reduceEqDiff, and_true, true_and, and_false, false_and, and_self, gt_iff_lt, ge_iff_le, ih, e]
theorem bits_of (j : Nat) {n i : Int} {b : Nat} (hi : i = Int.ofNat b) (h1 : 1 ≤ b) (h2 : b ≤ 30) (h0 : 0 ≤ n) (h3 : n < pw b) : Ev G (j + 3) 8 [.int n, .int i] (.tup ((bitsL n b).map D.int)) := by
  subst hi
  refine ev_of (d := d13) rfl rfl sh13 rfl ?_ (s' := []) ?_
  · show (((bitsL n b).map D.int).all (pure? 11)) = true
    rw [List.all_map]
    exact List.all_eq_true.mpr fun x hx => rfl
  show runN 3 _ _ _ = _
  unfold s13
  have hc := check_bits j (n := n) (i := Int.ofNat b) rfl h1 (by omega) h0 h3
  have e0 : (0 : Int) - 1 = -1 := by decide
  have e1 := rng_is h1 h2
  have e2 := bits_lc (n := n) (i := Int.ofNat b) (s := []) _ (fun b hb => bit_one (j + 1) (pw_pos b) (pw_lt30 hb) (power_of (j + 1) (b := b) (i := Int.ofNat b) (by omega) rfl)) h2
  have e3 : b ≤ 16777216 := by omega
  simp only [opBin, opC] at e2
  simp only [runN, sSeq, sIf, sRet, sRetN, sExpr, sAsg, sRaise, sPass, sAug, sPar, putAll, tName, tTup, tAll, goOn, R.out, R.bind_ok, R.bind_exc, R.bind_bad, R.of, R.nx, mC, mVar, m1, m2, mB, mT, mNot, mAnd, mOr, mIf, bNot, bAnd, bOr, bIf, truthR, truth, mTup, mkT, mLst, mkL, aNil, aCons, mCall, mB1, opBin, ipOp, ipAdd, ipMul, opAdd, opSub, opMul, opFdiv, opMod, unNeg, opC, opCmp, op_eq_int, op_in2, op_inl2, mChain, bYes, wVal, wRng, wOf, wR, wipeE, big, List.map_cons, List.map_nil, List.length_cons, List.length_nil, List.replicate, List.cons_append, List.nil_append, List.getElem?_cons_zero, List.getElem?_cons_succ, List.set_cons_zero, List.set_cons_succ, if_true, if_false, decide_true, decide_false, Bool.not_true, Bool.not_false, Bool.true_and, Bool.and_true, Bool.false_and, Bool.and_false, Bool.or_false, Bool.false_or, Bool.true_or, Bool.or_true, Bool.xor_false, Bool.xor_true, Bool.false_xor, Bool.true_xor, Bool.false_eq_true, Bool.true_eq_false, ite_true, ite_false, line, Nat.reduceSub, Nat.reduceAdd, Int.reduceNeg, Int.reducePow, Int.reduceLT, Int.reduceLE, Int.reduceMul, Int.reduceAdd, Int.reduceSub, Int.reduceDiv, Int.reduceMod, Int.reduceEq, Nat.reduceLeDiff, Nat.reduceLT, Nat.reduceEqDiff, and_true, true_and, and_false, false_and, and_self, gt_iff_lt, ge_iff_le, hc _, e0, e1, mGx, lcS, down_len, Option.map, e2, finT, bitsL_len, List.length_map, e3]
/-! from_bits -/
def valB (l : List Int) (a : Int) : Int := l.foldl (fun a b => 2 * a + b) a
theorem emod_two {p n : Int} (hp : 0 < p) : n % (2 * p) = n % p + p * (n / p % 2) := by
  refine ((Int.ediv_emod_unique (a := n) (b := 2 * p) (r := n % p + p * (n / p % 2)) (q := n / p / 2) (by omega)).mpr ⟨?_, ?_, ?_⟩).2
  · have e1 := Int.emod_add_mul_ediv n p
    have e2 := Int.emod_add_mul_ediv (n / p) 2
    have e3 : p * (n / p) = p * (n / p % 2) + p * (2 * (n / p / 2)) := by rw [← Int.mul_add, e2]
    have e4 : 2 * p * (n / p / 2) = p * (2 * (n / p / 2)) := by rw [Int.mul_comm 2 p, Int.mul_assoc]
    omega
  · have h1 := Int.emod_nonneg n (show p ≠ 0 by omega)
    have h2 : 0 ≤ p * (n / p % 2) := Int.mul_nonneg (by omega) (by omega)
    omega
  · have h1 := Int.emod_lt_of_pos n hp
    rcases (show n / p % 2 = 0 ∨ n / p % 2 = 1 by omega) with e | e
    · rw [e]; omega
    · rw [e]; omega
theorem valB_bits {n : Int} : ∀ (b : Nat) (a : Int), valB (bitsL n b) a = a * pw b + n % pw b
  | 0, a => by
    show a = a * 1 + n % 1
    omega
  | b + 1, a => by
    show valB (bitsL n b) (2 * a + n / pw b % 2) = _
    rw [valB_bits b, pw_succ]
    have hp := pw_pos b
    have h1 : n % (2 * pw b) = n % pw b + pw b * (n / pw b % 2) := emod_two hp
    rw [h1, Int.add_mul, Int.mul_comm 2 a, Int.mul_assoc, Int.mul_comm (n / pw b % 2) (pw b), Int.add_assoc, Int.add_comm (n % pw b)]
theorem from_loop {row x : Option D} {s : Sto} : ∀ (l : List Int) (x : Option D) (a : Int), ∃ y, forF (tName 1) (sSeq (sAsg (tName 2) (m2 (opBin false .Add) (m2 (opBin false .Mult) (mC (.int 2)) (mVar 2)) (mVar 1))) sPass) (l.map D.int) [row, x, some (.int a)] s = .nx [row, y, some (.int (valB l a))] s
  | [], x, a => ⟨x, rfl⟩
  | b :: l, x, a => by
    obtain ⟨y, e⟩ := from_loop (row := row) (x := x) (s := s) l (some (.int b)) (2 * a + b)
    refine ⟨y, ?_⟩
    rw [List.map_cons, forF_cons (e1 := [row, some (.int b), some (.int a)]) (e2 := [row, some (.int b), some (.int (2 * a + b))]) (s1 := s) (s2 := s) rfl (by simp only [runN, sSeq, sIf, sRet, sRetN, sExpr, sAsg, sRaise, sPass, sAug, sPar, putAll, tName, tTup, tAll, goOn, R.out, R.bind_ok, R.bind_exc, R.bind_bad, R.of, R.nx, mC, mVar, m1, m2, mB, mT, mNot, mAnd, mOr, mIf, bNot, bAnd, bOr, bIf, truthR, truth, mTup, mkT, mLst, mkL, aNil, aCons, mCall, mB1, opBin, ipOp, ipAdd, ipMul, opAdd, opSub, opMul, opFdiv, opMod, unNeg, opC, opCmp, op_eq_int, op_in2, op_inl2, mChain, bYes, wVal, wRng, wOf, wR, wipeE, big, List.map_cons, List.map_nil, List.length_cons, List.length_nil, List.replicate, List.cons_append, List.nil_append, List.getElem?_cons_zero, List.getElem?_cons_succ, List.set_cons_zero, List.set_cons_succ, if_true, if_false, decide_true, decide_false, Bool.not_true, Bool.not_false, Bool.true_and, Bool.and_true, Bool.false_and, Bool.and_false, Bool.or_false, Bool.false_or, Bool.true_or, Bool.or_true, Bool.xor_false, Bool.xor_true, Bool.false_xor, Bool.true_xor, Bool.false_eq_true, Bool.true_eq_false, ite_true, ite_false, line, Nat.reduceSub, Nat.reduceAdd, Int.reduceNeg, Int.reducePow, Int.reduceLT, Int.reduceLE, Int.reduceMul, Int.reduceAdd, Int.reduceSub, Int.reduceDiv, Int.reduceMod, Int.reduceEq, Nat.reduceLeDiff, Nat.reduceLT, Nat.reduceEqDiff, and_true, true_and, and_false, false_and, and_self, gt_iff_lt, ge_iff_le]), e]
    rfl
theorem no_bad {row x : Option D} {s : Sto} {l : List Int} (h : ∀ b ∈ l, b = 0 ∨ b = 1) : qnF true (tName 1) bYes (m2 (opC .NotIn) (mVar 1) (mTup (aCons (mC (.int 0)) (aCons (mC (.int 1)) aNil)))) (l.map D.int) [row, none, x] s = .ok false s := by
  refine qnF_none (st := true) fun d hd => ?_
  obtain ⟨b, hb, rfl⟩ := List.mem_map.mp hd
  refine ⟨[row, some (.int b), x], rfl, rfl, ?_⟩
  simp only [runN, sSeq, sIf, sRet, sRetN, sExpr, sAsg, sRaise, sPass, sAug, sPar, putAll, tName, tTup, tAll, goOn, R.out, R.bind_ok, R.bind_exc, R.bind_bad, R.of, R.nx, mC, mVar, m1, m2, mB, mT, mNot, mAnd, mOr, mIf, bNot, bAnd, bOr, bIf, truthR, truth, mTup, mkT, mLst, mkL, aNil, aCons, mCall, mB1, opBin, ipOp, ipAdd, ipMul, opAdd, opSub, opMul, opFdiv, opMod, unNeg, opC, opCmp, op_eq_int, op_in2, op_inl2, mChain, bYes, wVal, wRng, wOf, wR, wipeE, big, List.map_cons, List.map_nil, List.length_cons, List.length_nil, List.replicate, List.cons_append, List.nil_append, List.getElem?_cons_zero, List.getElem?_cons_succ, List.set_cons_zero, List.set_cons_succ, if_true, if_false, decide_true, decide_false, Bool.not_true, Bool.not_false, Bool.true_and, Bool.and_true, Bool.false_and, Bool.and_false, Bool.or_false, Bool.false_or, Bool.true_or, Bool.or_true, Bool.xor_false, Bool.xor_true, Bool.false_xor, Bool.true_xor, Bool.false_eq_true, Bool.true_eq_false, ite_true, ite_false, line, Nat.reduceSub, Nat.reduceAdd, Int.reduceNeg, Int.reducePow, Int.reduceLT, Int.reduceLE, Int.reduceMul, Int.reduceAdd, Int.reduceSub, Int.reduceDiv, Int.reduceMod, Int.reduceEq, Nat.reduceLeDiff, Nat.reduceLT, Nat.reduceEqDiff, and_true, true_and, and_false, false_and, and_self, gt_iff_lt, ge_iff_le, in01 (h b hb)]
theorem from_bits (j : Nat) {l : List Int} {d : D} (hd : d = .tup (l.map D.int) ∨ d = .lst (l.map D.int)) (h1 : 1 ≤ l.length) (h2 : l.length ≤ 32) (h : ∀ b ∈ l, b = 0 ∨ b = 1) : Ev G (j + 1) 9 [d] (.int (valB l 0)) := by
  have hp : ([d] : List D).all (pure? 12) = true := by
    have : ((l.map D.int).all (pure? 11)) = true := by
      rw [List.all_map]
      exact List.all_eq_true.mpr fun x hx => rfl
    rcases hd with rfl | rfl <;> exact Bool.and_eq_true_iff.mpr ⟨this, rfl⟩
  refine ev_of (d := d14) rfl rfl sh14 hp rfl (s' := []) ?_
  show runN 3 _ _ _ = _
  unfold s14
  have q1 : (1 : Int) ≤ (l.length : Int) := by omega
  have q2 : (l.length : Int) ≤ 32 := by omega
  have q3 : l.length ≤ 16777216 := by omega
  obtain ⟨y, e⟩ := from_loop (row := some d) (x := none) (s := []) l none 0
  have hq := no_bad (row := some d) (x := none) (s := []) h
  simp only [opBin, opC] at e hq
  rcases hd with rfl | rfl
  · simp only [runN, sSeq, sIf, sRet, sRetN, sExpr, sAsg, sRaise, sPass, sAug, sPar, putAll, tName, tTup, tAll, goOn, R.out, R.bind_ok, R.bind_exc, R.bind_bad, R.of, R.nx, mC, mVar, m1, m2, mB, mT, mNot, mAnd, mOr, mIf, bNot, bAnd, bOr, bIf, truthR, truth, mTup, mkT, mLst, mkL, aNil, aCons, mCall, mB1, opBin, ipOp, ipAdd, ipMul, opAdd, opSub, opMul, opFdiv, opMod, unNeg, opC, opCmp, op_eq_int, op_in2, op_inl2, mChain, bYes, wVal, wRng, wOf, wR, wipeE, big, List.map_cons, List.map_nil, List.length_cons, List.length_nil, List.replicate, List.cons_append, List.nil_append, List.getElem?_cons_zero, List.getElem?_cons_succ, List.set_cons_zero, List.set_cons_succ, if_true, if_false, decide_true, decide_false, Bool.not_true, Bool.not_false, Bool.true_and, Bool.and_true, Bool.false_and, Bool.and_false, Bool.or_false, Bool.false_or, Bool.true_or, Bool.or_true, Bool.xor_false, Bool.xor_true, Bool.false_xor, Bool.true_xor, Bool.false_eq_true, Bool.true_eq_false, ite_true, ite_false, line, Nat.reduceSub, Nat.reduceAdd, Int.reduceNeg, Int.reducePow, Int.reduceLT, Int.reduceLE, Int.reduceMul, Int.reduceAdd, Int.reduceSub, Int.reduceDiv, Int.reduceMod, Int.reduceEq, Nat.reduceLeDiff, Nat.reduceLT, Nat.reduceEqDiff, and_true, true_and, and_false, false_and, and_self, gt_iff_lt, ge_iff_le, bLen, seqOf, List.length_map, q1, q2, q3, mQn, qnS, hq, sForW, forS, e]
  · simp only [runN, sSeq, sIf, sRet, sRetN, sExpr, sAsg, sRaise, sPass, sAug, sPar, putAll, tName, tTup, tAll, goOn, R.out, R.bind_ok, R.bind_exc, R.bind_bad, R.of, R.nx, mC, mVar, m1, m2, mB, mT, mNot, mAnd, mOr, mIf, bNot, bAnd, bOr, bIf, truthR, truth, mTup, mkT, mLst, mkL, aNil, aCons, mCall, mB1, opBin, ipOp, ipAdd, ipMul, opAdd, opSub, opMul, opFdiv, opMod, unNeg, opC, opCmp, op_eq_int, op_in2, op_inl2, mChain, bYes, wVal, wRng, wOf, wR, wipeE, big, List.map_cons, List.map_nil, List.length_cons, List.length_nil, List.replicate, List.cons_append, List.nil_append, List.getElem?_cons_zero, List.getElem?_cons_succ, List.set_cons_zero, List.set_cons_succ, if_true, if_false, decide_true, decide_false, Bool.not_true, Bool.not_false, Bool.true_and, Bool.and_true, Bool.false_and, Bool.and_false, Bool.or_false, Bool.false_or, Bool.true_or, Bool.or_true, Bool.xor_false, Bool.xor_true, Bool.false_xor, Bool.true_xor, Bool.false_eq_true, Bool.true_eq_false, ite_true, ite_false, line, Nat.reduceSub, Nat.reduceAdd, Int.reduceNeg, Int.reducePow, Int.reduceLT, Int.reduceLE, Int.reduceMul, Int.reduceAdd, Int.reduceSub, Int.reduceDiv, Int.reduceMod, Int.reduceEq, Nat.reduceLeDiff, Nat.reduceLT, Nat.reduceEqDiff, and_true, true_and, and_false, false_and, and_self, gt_iff_lt, ge_iff_le, bLen, seqOf, List.length_map, q1, q2, q3, mQn, qnS, hq, sForW, forS, e]
end K01
end Z

set_option Elab.async false
set_option linter.all false
set_option maxRecDepth 100000
set_option maxHeartbeats 4000000
namespace Z
open PySem
namespace K01
theorem bits8 (j : Nat) {n : Int} (h0 : 0 ≤ n) (h1 : n ≤ 255) : Ev G (j + 3) 8 [.int n, .int 8] (.tup ((bitsL n 8).map D.int)) := by
  have h : pw 8 = 256 := by decide
  exact bits_of j (b := 8) rfl (by decide) (by decide) h0 (by rw [h]; omega)
theorem rev_map (l : List Int) : (l.map D.int).reverse = l.reverse.map D.int := (List.map_reverse ..).symm
theorem turned_round (j : Nat) {n : Int} (h0 : 0 ≤ n) (h1 : n ≤ 255) : Ev G (j + 4) 14 [.int n] (.int (valB (bitsL n 8).reverse 0)) := by
  refine ev_of (d := d19) rfl rfl sh19 rfl rfl (s' := []) ?_
  show runN 1 _ _ _ = _
  unfold s19
  have hf := from_bits (j + 2) (l := (bitsL n 8).reverse) (.inl rfl) (by rw [List.length_reverse, bitsL_len]; decide) (by rw [List.length_reverse, bitsL_len]; decide) fun b hb => bitsL_01 (List.mem_reverse.mp hb)
  simp only [runN, sSeq, sIf, sRet, sRetN, sExpr, sAsg, sRaise, sPass, sAug, sPar, putAll, tName, tTup, tAll, goOn, R.out, R.bind_ok, R.bind_exc, R.bind_bad, R.of, R.nx, mC, mVar, m1, m2, mB, mT, mNot, mAnd, mOr, mIf, bNot, bAnd, bOr, bIf, truthR, truth, mTup, mkT, mLst, mkL, aNil, aCons, mCall, mB1, opBin, ipOp, ipAdd, ipMul, opAdd, opSub, opMul, opFdiv, opMod, unNeg, opC, opCmp, op_eq_int, op_in2, op_inl2, mChain, bYes, wVal, wRng, wOf, wR, wipeE, big, List.map_cons, List.map_nil, List.length_cons, List.length_nil, List.replicate, List.cons_append, List.nil_append, List.getElem?_cons_zero, List.getElem?_cons_succ, List.set_cons_zero, List.set_cons_succ, if_true, if_false, decide_true, decide_false, Bool.not_true, Bool.not_false, Bool.true_and, Bool.and_true, Bool.false_and, Bool.and_false, Bool.or_false, Bool.false_or, Bool.true_or, Bool.or_true, Bool.xor_false, Bool.xor_true, Bool.false_xor, Bool.true_xor, Bool.false_eq_true, Bool.true_eq_false, ite_true, ite_false, line, Nat.reduceSub, Nat.reduceAdd, Int.reduceNeg, Int.reducePow, Int.reduceLT, Int.reduceLE, Int.reduceMul, Int.reduceAdd, Int.reduceSub, Int.reduceDiv, Int.reduceMod, Int.reduceEq, Nat.reduceLeDiff, Nat.reduceLT, Nat.reduceEqDiff, and_true, true_and, and_false, false_and, and_self, gt_iff_lt, ge_iff_le, check_byte (j + 2) h0 h1 _, bits8 j h0 h1 _, opRev, rev_map, hf _]
theorem ints_of : ∀ l : List Int, intsOf (l.map D.int) = some l
  | [] => rfl
  | n :: r => by
    show (match intsOf (r.map D.int) with | some l => some (n :: l) | none => none) = _
    rw [ints_of r]
theorem ones_in (j : Nat) {n i : Int} {b : Nat} (hi : i = Int.ofNat b) (h1 : 1 ≤ b) (h2 : b ≤ 30) (h0 : 0 ≤ n) (h3 : n < pw b) : Ev G (j + 4) 15 [.int n, .int i] (.int (bitsL n b).sum) := by
  refine ev_of (d := d20) rfl rfl sh20 rfl rfl (s' := []) ?_
  show runN 2 _ _ _ = _
  unfold s20
  have hb := bits_of j hi h1 h2 h0 h3
  simp only [runN, sSeq, sIf, sRet, sRetN, sExpr, sAsg, sRaise, sPass, sAug, sPar, putAll, tName, tTup, tAll, goOn, R.out, R.bind_ok, R.bind_exc, R.bind_bad, R.of, R.nx, mC, mVar, m1, m2, mB, mT, mNot, mAnd, mOr, mIf, bNot, bAnd, bOr, bIf, truthR, truth, mTup, mkT, mLst, mkL, aNil, aCons, mCall, mB1, opBin, ipOp, ipAdd, ipMul, opAdd, opSub, opMul, opFdiv, opMod, unNeg, opC, opCmp, op_eq_int, op_in2, op_inl2, mChain, bYes, wVal, wRng, wOf, wR, wipeE, big, List.map_cons, List.map_nil, List.length_cons, List.length_nil, List.replicate, List.cons_append, List.nil_append, List.getElem?_cons_zero, List.getElem?_cons_succ, List.set_cons_zero, List.set_cons_succ, if_true, if_false, decide_true, decide_false, Bool.not_true, Bool.not_false, Bool.true_and, Bool.and_true, Bool.false_and, Bool.and_false, Bool.or_false, Bool.false_or, Bool.true_or, Bool.or_true, Bool.xor_false, Bool.xor_true, Bool.false_xor, Bool.true_xor, Bool.false_eq_true, Bool.true_eq_false, ite_true, ite_false, line, Nat.reduceSub, Nat.reduceAdd, Int.reduceNeg, Int.reducePow, Int.reduceLT, Int.reduceLE, Int.reduceMul, Int.reduceAdd, Int.reduceSub, Int.reduceDiv, Int.reduceMod, Int.reduceEq, Nat.reduceLeDiff, Nat.reduceLT, Nat.reduceEqDiff, and_true, true_and, and_false, false_and, and_self, gt_iff_lt, ge_iff_le, hb _, bSum, seqOf, ints_of]
/-! times_by_bits -/
def tb : List Int → Int × Int → Int × Int
  | [], q => q
  | b :: l, (f, m) => tb l (f + m * b, m * 2)
theorem tb_app : ∀ (l m : List Int) (q : Int × Int), tb (l ++ m) q = tb m (tb l q)
  | [], m, q => rfl
  | b :: l, m, (f, x) => tb_app l m (f + x * b, x * 2)
theorem tb_loop {a b : Option D} {s : Sto} : ∀ (l : List Int) (x : Option D) (f m : Int), (∀ z ∈ l, z = 0 ∨ z = 1) → ∃ y, forF (tName 4) (sSeq (sAug 2 (ipOp .Add) (m2 (opBin false .Mult) (mVar 3) (mVar 4))) (sSeq (sAug 3 (ipOp .Mult) (mC (.int 2))) sPass)) (l.map D.int) [a, b, some (.int f), some (.int m), x] s = .nx [a, b, some (.int (tb l (f, m)).1), some (.int (tb l (f, m)).2), y] s
  | [], x, f, m, _ => ⟨x, rfl⟩
  | z :: l, x, f, m, h => by
    obtain ⟨y, e⟩ := tb_loop (a := a) (b := b) (s := s) l (some (.int z)) (f + m * z) (m * 2) fun q hq => h q (List.mem_cons_of_mem _ hq)
    refine ⟨y, ?_⟩
    have hz : -18446744073709551616 < z ∧ z < 18446744073709551616 := by
      rcases h z (List.mem_cons_self ..) with rfl | rfl <;> decide
    rw [List.map_cons, forF_cons (e1 := [a, b, some (.int f), some (.int m), some (.int z)]) (e2 := [a, b, some (.int (f + m * z)), some (.int (m * 2)), some (.int z)]) (s1 := s) (s2 := s) rfl (by simp only [runN, sSeq, sIf, sRet, sRetN, sExpr, sAsg, sRaise, sPass, sAug, sPar, putAll, tName, tTup, tAll, goOn, R.out, R.bind_ok, R.bind_exc, R.bind_bad, R.of, R.nx, mC, mVar, m1, m2, mB, mT, mNot, mAnd, mOr, mIf, bNot, bAnd, bOr, bIf, truthR, truth, mTup, mkT, mLst, mkL, aNil, aCons, mCall, mB1, opBin, ipOp, ipAdd, ipMul, opAdd, opSub, opMul, opFdiv, opMod, unNeg, opC, opCmp, op_eq_int, op_in2, op_inl2, mChain, bYes, wVal, wRng, wOf, wR, wipeE, big, List.map_cons, List.map_nil, List.length_cons, List.length_nil, List.replicate, List.cons_append, List.nil_append, List.getElem?_cons_zero, List.getElem?_cons_succ, List.set_cons_zero, List.set_cons_succ, if_true, if_false, decide_true, decide_false, Bool.not_true, Bool.not_false, Bool.true_and, Bool.and_true, Bool.false_and, Bool.and_false, Bool.or_false, Bool.false_or, Bool.true_or, Bool.or_true, Bool.xor_false, Bool.xor_true, Bool.false_xor, Bool.true_xor, Bool.false_eq_true, Bool.true_eq_false, ite_true, ite_false, line, Nat.reduceSub, Nat.reduceAdd, Int.reduceNeg, Int.reducePow, Int.reduceLT, Int.reduceLE, Int.reduceMul, Int.reduceAdd, Int.reduceSub, Int.reduceDiv, Int.reduceMod, Int.reduceEq, Nat.reduceLeDiff, Nat.reduceLT, Nat.reduceEqDiff, and_true, true_and, and_false, false_and, and_self, gt_iff_lt, ge_iff_le, hz.1, hz.2]), e]
    rfl
theorem tb_bits {n : Int} : ∀ (b : Nat) (f m : Int), tb (bitsL n b).reverse (f, m) = (f + m * (n % pw b), m * pw b)
  | 0, f, m => by
    show (f, m) = (f + m * (n % 1), m * 1)
    rw [Int.emod_one, Int.mul_zero, Int.add_zero, Int.mul_one]
  | b + 1, f, m => by
    unfold bitsL
    rw [List.reverse_cons, tb_app, tb_bits b, pw_succ, emod_two (pw_pos b)]
    show (f + m * (n % pw b) + m * pw b * (n / pw b % 2), m * pw b * 2) = _
    rw [Int.mul_add, Int.mul_assoc, Int.mul_assoc, Int.mul_comm (pw b) 2, Int.add_assoc]
theorem times_by_bits (j : Nat) {a b : Int} (a0 : 0 ≤ a) (a1 : a ≤ 255) (b0 : 0 ≤ b) (b1 : b ≤ 255) : Ev G (j + 4) 19 [.int a, .int b] (.int (a * b)) := by
  refine ev_of (d := d24) rfl rfl sh24 rfl rfl (s' := []) ?_
  show runN 5 _ _ _ = _
  unfold s24
  obtain ⟨y, e⟩ := tb_loop (a := some (.int a)) (b := some (.int b)) (s := []) (bitsL b 8).reverse none 0 a fun z hz => bitsL_01 (List.mem_reverse.mp hz)
  rw [tb_bits] at e
  have hm : b % pw 8 = b := by
    have h : pw 8 = 256 := by decide
    rw [h]; omega
  rw [hm] at e
  simp only [opBin, ipOp, Int.zero_add] at e
  simp only [runN, sSeq, sIf, sRet, sRetN, sExpr, sAsg, sRaise, sPass, sAug, sPar, putAll, tName, tTup, tAll, goOn, R.out, R.bind_ok, R.bind_exc, R.bind_bad, R.of, R.nx, mC, mVar, m1, m2, mB, mT, mNot, mAnd, mOr, mIf, bNot, bAnd, bOr, bIf, truthR, truth, mTup, mkT, mLst, mkL, aNil, aCons, mCall, mB1, opBin, ipOp, ipAdd, ipMul, opAdd, opSub, opMul, opFdiv, opMod, unNeg, opC, opCmp, op_eq_int, op_in2, op_inl2, mChain, bYes, wVal, wRng, wOf, wR, wipeE, big, List.map_cons, List.map_nil, List.length_cons, List.length_nil, List.replicate, List.cons_append, List.nil_append, List.getElem?_cons_zero, List.getElem?_cons_succ, List.set_cons_zero, List.set_cons_succ, if_true, if_false, decide_true, decide_false, Bool.not_true, Bool.not_false, Bool.true_and, Bool.and_true, Bool.false_and, Bool.and_false, Bool.or_false, Bool.false_or, Bool.true_or, Bool.or_true, Bool.xor_false, Bool.xor_true, Bool.false_xor, Bool.true_xor, Bool.false_eq_true, Bool.true_eq_false, ite_true, ite_false, line, Nat.reduceSub, Nat.reduceAdd, Int.reduceNeg, Int.reducePow, Int.reduceLT, Int.reduceLE, Int.reduceMul, Int.reduceAdd, Int.reduceSub, Int.reduceDiv, Int.reduceMod, Int.reduceEq, Nat.reduceLeDiff, Nat.reduceLT, Nat.reduceEqDiff, and_true, true_and, and_false, false_and, and_self, gt_iff_lt, ge_iff_le, check_byte (j + 2) a0 a1 _, check_byte (j + 2) b0 b1 _, bits8 j b0 b1 _, opRev, rev_map, sForW, forS, e]
/-! parted_by_bits -/
def pb (y : Int) : List Int → Int × Int → Int × Int
  | [], q => q
  | b :: l, (f, r) => pb y l (if y ≤ 2 * r + b then (2 * f + 1, 2 * r + b - y) else (2 * f, 2 * r + b))
theorem pb_cons {y b f r : Int} {l : List Int} : pb y (b :: l) (f, r) = pb y l (if y ≤ 2 * r + b then (2 * f + 1, 2 * r + b - y) else (2 * f, 2 * r + b)) := rfl
theorem pb_loop {a : Option D} {w : Int} {s : Sto} : ∀ (l : List Int) (x z : Option D) (f r : Int), ∃ u v, forF (tName 4) (sSeq (sAsg (tName 3) (m2 (opBin false .Add) (m2 (opBin false .Mult) (mC (.int 2)) (mVar 3)) (mVar 4))) (sSeq (sAsg (tName 5) (mIf (mB (m2 (opC .GtE) (mVar 3) (mVar 1))) (mC (.int 1)) (mC (.int 0)))) (sSeq (sAug 3 (ipOp .Sub) (m2 (opBin false .Mult) (mVar 1) (mVar 5))) (sSeq (sAsg (tName 2) (m2 (opBin false .Add) (m2 (opBin false .Mult) (mC (.int 2)) (mVar 2)) (mVar 5))) sPass)))) (l.map D.int) [a, some (.int w), some (.int f), some (.int r), x, z] s = .nx [a, some (.int w), some (.int (pb w l (f, r)).1), some (.int (pb w l (f, r)).2), u, v] s
  | [], x, z, f, r => ⟨x, z, rfl⟩
  | b :: l, x, z, f, r => by
    by_cases h : w ≤ 2 * r + b
    · obtain ⟨u, v, e⟩ := pb_loop (a := a) (w := w) (s := s) l (some (.int b)) (some (.int 1)) (2 * f + 1) (2 * r + b - w)
      refine ⟨u, v, ?_⟩
      have hm : w * 1 = w := Int.mul_one w
      rw [List.map_cons, forF_cons (e1 := [a, some (.int w), some (.int f), some (.int r), some (.int b), z]) (e2 := [a, some (.int w), some (.int (2 * f + 1)), some (.int (2 * r + b - w)), some (.int b), some (.int 1)]) (s1 := s) (s2 := s) rfl (by simp only [runN, sSeq, sIf, sRet, sRetN, sExpr, sAsg, sRaise, sPass, sAug, sPar, putAll, tName, tTup, tAll, goOn, R.out, R.bind_ok, R.bind_exc, R.bind_bad, R.of, R.nx, mC, mVar, m1, m2, mB, mT, mNot, mAnd, mOr, mIf, bNot, bAnd, bOr, bIf, truthR, truth, mTup, mkT, mLst, mkL, aNil, aCons, mCall, mB1, opBin, ipOp, ipAdd, ipMul, opAdd, opSub, opMul, opFdiv, opMod, unNeg, opC, opCmp, op_eq_int, op_in2, op_inl2, mChain, bYes, wVal, wRng, wOf, wR, wipeE, big, List.map_cons, List.map_nil, List.length_cons, List.length_nil, List.replicate, List.cons_append, List.nil_append, List.getElem?_cons_zero, List.getElem?_cons_succ, List.set_cons_zero, List.set_cons_succ, if_true, if_false, decide_true, decide_false, Bool.not_true, Bool.not_false, Bool.true_and, Bool.and_true, Bool.false_and, Bool.and_false, Bool.or_false, Bool.false_or, Bool.true_or, Bool.or_true, Bool.xor_false, Bool.xor_true, Bool.false_xor, Bool.true_xor, Bool.false_eq_true, Bool.true_eq_false, ite_true, ite_false, line, Nat.reduceSub, Nat.reduceAdd, Int.reduceNeg, Int.reducePow, Int.reduceLT, Int.reduceLE, Int.reduceMul, Int.reduceAdd, Int.reduceSub, Int.reduceDiv, Int.reduceMod, Int.reduceEq, Nat.reduceLeDiff, Nat.reduceLT, Nat.reduceEqDiff, and_true, true_and, and_false, false_and, and_self, gt_iff_lt, ge_iff_le, h, hm, opSub]), e]
      rw [pb_cons, if_pos h]
    · obtain ⟨u, v, e⟩ := pb_loop (a := a) (w := w) (s := s) l (some (.int b)) (some (.int 0)) (2 * f) (2 * r + b)
      refine ⟨u, v, ?_⟩
      have hm : w * 0 = 0 := Int.mul_zero w
      rw [List.map_cons, forF_cons (e1 := [a, some (.int w), some (.int f), some (.int r), some (.int b), z]) (e2 := [a, some (.int w), some (.int (2 * f)), some (.int (2 * r + b)), some (.int b), some (.int 0)]) (s1 := s) (s2 := s) rfl (by simp only [runN, sSeq, sIf, sRet, sRetN, sExpr, sAsg, sRaise, sPass, sAug, sPar, putAll, tName, tTup, tAll, goOn, R.out, R.bind_ok, R.bind_exc, R.bind_bad, R.of, R.nx, mC, mVar, m1, m2, mB, mT, mNot, mAnd, mOr, mIf, bNot, bAnd, bOr, bIf, truthR, truth, mTup, mkT, mLst, mkL, aNil, aCons, mCall, mB1, opBin, ipOp, ipAdd, ipMul, opAdd, opSub, opMul, opFdiv, opMod, unNeg, opC, opCmp, op_eq_int, op_in2, op_inl2, mChain, bYes, wVal, wRng, wOf, wR, wipeE, big, List.map_cons, List.map_nil, List.length_cons, List.length_nil, List.replicate, List.cons_append, List.nil_append, List.getElem?_cons_zero, List.getElem?_cons_succ, List.set_cons_zero, List.set_cons_succ, if_true, if_false, decide_true, decide_false, Bool.not_true, Bool.not_false, Bool.true_and, Bool.and_true, Bool.false_and, Bool.and_false, Bool.or_false, Bool.false_or, Bool.true_or, Bool.or_true, Bool.xor_false, Bool.xor_true, Bool.false_xor, Bool.true_xor, Bool.false_eq_true, Bool.true_eq_false, ite_true, ite_false, line, Nat.reduceSub, Nat.reduceAdd, Int.reduceNeg, Int.reducePow, Int.reduceLT, Int.reduceLE, Int.reduceMul, Int.reduceAdd, Int.reduceSub, Int.reduceDiv, Int.reduceMod, Int.reduceEq, Nat.reduceLeDiff, Nat.reduceLT, Nat.reduceEqDiff, and_true, true_and, and_false, false_and, and_self, gt_iff_lt, ge_iff_le, h, hm, opSub, Int.sub_zero, Int.add_zero]), e]
      rw [pb_cons, if_neg h]
theorem pb_inv {y : Int} (hy : 0 < y) : ∀ (l : List Int) (f r a : Int), (∀ z ∈ l, z = 0 ∨ z = 1) → a = y * f + r → 0 ≤ r → r < y → valB l a = y * (pb y l (f, r)).1 + (pb y l (f, r)).2 ∧ 0 ≤ (pb y l (f, r)).2 ∧ (pb y l (f, r)).2 < y
  | [], f, r, a, _, ha, h0, h1 => ⟨ha, h0, h1⟩
  | b :: l, f, r, a, h, ha, h0, h1 => by
    have hb := h b (List.mem_cons_self ..)
    have hl : ∀ z ∈ l, z = 0 ∨ z = 1 := fun z hz => h z (List.mem_cons_of_mem _ hz)
    show valB l (2 * a + b) = _ ∧ _
    have ef : y * (2 * f) = 2 * (y * f) := by rw [← Int.mul_assoc, Int.mul_comm y 2, Int.mul_assoc]
    rw [pb_cons]
    by_cases hh : y ≤ 2 * r + b
    · rw [if_pos hh]
      refine pb_inv hy l _ _ _ hl ?_ (by omega) (by omega)
      rw [Int.mul_add, ef, Int.mul_one]
      omega
    · rw [if_neg hh]
      refine pb_inv hy l _ _ _ hl ?_ (by omega) (by omega)
      rw [ef]
      omega
theorem parted_by_bits (j : Nat) {a y : Int} (a0 : 0 ≤ a) (a1 : a ≤ 65535) (y0 : 0 < y) (y1 : y ≤ 255) : Ev G (j + 4) 20 [.int a, .int y] (.tup [.int (a / y), .int (a % y)]) := by
  refine ev_of (d := d25) rfl rfl sh25 rfl rfl (s' := []) ?_
  show runN 6 _ _ _ = _
  unfold s25
  have h16 : pw 16 = 65536 := by decide
  have hb := bits_of j (n := a) (i := 16) (b := 16) rfl (by decide) (by decide) a0 (by rw [h16]; omega)
  obtain ⟨u, v, e⟩ := pb_loop (a := some (.int a)) (w := y) (s := []) (bitsL a 16) none none 0 0
  have hi := pb_inv y0 (bitsL a 16) 0 0 0 (fun z hz => bitsL_01 hz) (by omega) (by omega) y0
  rw [valB_bits, h16] at hi
  obtain ⟨i1, i2, i3⟩ := hi
  have hq := (Int.ediv_emod_unique (a := a) (b := y) (r := (pb y (bitsL a 16) (0, 0)).2) (q := (pb y (bitsL a 16) (0, 0)).1) y0).mpr ⟨by omega, i2, i3⟩
  rw [← hq.1, ← hq.2] at e
  simp only [opBin, ipOp, opC] at e
  have hz : ¬ (y = 0) := by omega
  simp only [runN, sSeq, sIf, sRet, sRetN, sExpr, sAsg, sRaise, sPass, sAug, sPar, putAll, tName, tTup, tAll, goOn, R.out, R.bind_ok, R.bind_exc, R.bind_bad, R.of, R.nx, mC, mVar, m1, m2, mB, mT, mNot, mAnd, mOr, mIf, bNot, bAnd, bOr, bIf, truthR, truth, mTup, mkT, mLst, mkL, aNil, aCons, mCall, mB1, opBin, ipOp, ipAdd, ipMul, opAdd, opSub, opMul, opFdiv, opMod, unNeg, opC, opCmp, op_eq_int, op_in2, op_inl2, mChain, bYes, wVal, wRng, wOf, wR, wipeE, big, List.map_cons, List.map_nil, List.length_cons, List.length_nil, List.replicate, List.cons_append, List.nil_append, List.getElem?_cons_zero, List.getElem?_cons_succ, List.set_cons_zero, List.set_cons_succ, if_true, if_false, decide_true, decide_false, Bool.not_true, Bool.not_false, Bool.true_and, Bool.and_true, Bool.false_and, Bool.and_false, Bool.or_false, Bool.false_or, Bool.true_or, Bool.or_true, Bool.xor_false, Bool.xor_true, Bool.false_xor, Bool.true_xor, Bool.false_eq_true, Bool.true_eq_false, ite_true, ite_false, line, Nat.reduceSub, Nat.reduceAdd, Int.reduceNeg, Int.reducePow, Int.reduceLT, Int.reduceLE, Int.reduceMul, Int.reduceAdd, Int.reduceSub, Int.reduceDiv, Int.reduceMod, Int.reduceEq, Nat.reduceLeDiff, Nat.reduceLT, Nat.reduceEqDiff, and_true, true_and, and_false, false_and, and_self, gt_iff_lt, ge_iff_le, check_byte (j + 2) (show 0 ≤ y by omega) y1 _, hz, hb _, sForW, forS, e]
/-! check_sums -/
def cs : List Int → Int × Int → Int × Int
  | [], q => q
  | b :: l, (f, r) => cs l ((f + b) % 255, (r + (f + b) % 255) % 255)
theorem cs_loop (j : Nat) {a : Option D} {s : Sto} : ∀ (l : List Int) (x : Option D) (f r : Int), (∀ z ∈ l, 0 ≤ z ∧ z ≤ 255) → ∃ u, forF (tName 3) (sSeq (sExpr (mCall 1 ((prog G (j + 1)).1 0) (aCons (mVar 3) aNil))) (sSeq (sAsg (tName 1) (m2 (opBin false .Mod) (m2 (opBin false .Add) (mVar 1) (mVar 3)) (mC (.int 255)))) (sSeq (sAsg (tName 2) (m2 (opBin false .Mod) (m2 (opBin false .Add) (mVar 2) (mVar 1)) (mC (.int 255)))) sPass))) (l.map D.int) [a, some (.int f), some (.int r), x] s = .nx [a, some (.int (cs l (f, r)).1), some (.int (cs l (f, r)).2), u] s
  | [], x, f, r, _ => ⟨x, rfl⟩
  | b :: l, x, f, r, h => by
    obtain ⟨u, e⟩ := cs_loop j (a := a) (s := s) l (some (.int b)) ((f + b) % 255) ((r + (f + b) % 255) % 255) fun z hz => h z (List.mem_cons_of_mem _ hz)
    refine ⟨u, ?_⟩
    obtain ⟨h0, h1⟩ := h b (List.mem_cons_self ..)
    rw [List.map_cons, forF_cons (e1 := [a, some (.int f), some (.int r), some (.int b)]) (e2 := [a, some (.int ((f + b) % 255)), some (.int ((r + (f + b) % 255) % 255)), some (.int b)]) (s1 := s) (s2 := s) rfl (by simp only [runN, sSeq, sIf, sRet, sRetN, sExpr, sAsg, sRaise, sPass, sAug, sPar, putAll, tName, tTup, tAll, goOn, R.out, R.bind_ok, R.bind_exc, R.bind_bad, R.of, R.nx, mC, mVar, m1, m2, mB, mT, mNot, mAnd, mOr, mIf, bNot, bAnd, bOr, bIf, truthR, truth, mTup, mkT, mLst, mkL, aNil, aCons, mCall, mB1, opBin, ipOp, ipAdd, ipMul, opAdd, opSub, opMul, opFdiv, opMod, unNeg, opC, opCmp, op_eq_int, op_in2, op_inl2, mChain, bYes, wVal, wRng, wOf, wR, wipeE, big, List.map_cons, List.map_nil, List.length_cons, List.length_nil, List.replicate, List.cons_append, List.nil_append, List.getElem?_cons_zero, List.getElem?_cons_succ, List.set_cons_zero, List.set_cons_succ, if_true, if_false, decide_true, decide_false, Bool.not_true, Bool.not_false, Bool.true_and, Bool.and_true, Bool.false_and, Bool.and_false, Bool.or_false, Bool.false_or, Bool.true_or, Bool.or_true, Bool.xor_false, Bool.xor_true, Bool.false_xor, Bool.true_xor, Bool.false_eq_true, Bool.true_eq_false, ite_true, ite_false, line, Nat.reduceSub, Nat.reduceAdd, Int.reduceNeg, Int.reducePow, Int.reduceLT, Int.reduceLE, Int.reduceMul, Int.reduceAdd, Int.reduceSub, Int.reduceDiv, Int.reduceMod, Int.reduceEq, Nat.reduceLeDiff, Nat.reduceLT, Nat.reduceEqDiff, and_true, true_and, and_false, false_and, and_self, gt_iff_lt, ge_iff_le, check_byte j h0 h1 _]), e]
    rfl
theorem check_sums (j : Nat) {l : List Int} (hl : ∀ z ∈ l, 0 ≤ z ∧ z ≤ 255) : Ev G (j + 2) 23 [.lst (l.map D.int)] (.tup [.int (cs l (0, 0)).1, .int (cs l (0, 0)).2]) := by
  have hp : ([.lst (l.map D.int)] : List D).all (pure? 12) = true := by
    have : ((l.map D.int).all (pure? 11)) = true := by
      rw [List.all_map]
      exact List.all_eq_true.mpr fun x hx => rfl
    exact Bool.and_eq_true_iff.mpr ⟨this, rfl⟩
  refine ev_of (d := d28) rfl rfl sh28 hp rfl (s' := []) ?_
  show runN 4 _ _ _ = _
  unfold s28
  obtain ⟨u, e⟩ := cs_loop j (a := some (.lst (l.map D.int))) (s := []) l none 0 0 hl
  simp only [opBin] at e
  simp only [runN, sSeq, sIf, sRet, sRetN, sExpr, sAsg, sRaise, sPass, sAug, sPar, putAll, tName, tTup, tAll, goOn, R.out, R.bind_ok, R.bind_exc, R.bind_bad, R.of, R.nx, mC, mVar, m1, m2, mB, mT, mNot, mAnd, mOr, mIf, bNot, bAnd, bOr, bIf, truthR, truth, mTup, mkT, mLst, mkL, aNil, aCons, mCall, mB1, opBin, ipOp, ipAdd, ipMul, opAdd, opSub, opMul, opFdiv, opMod, unNeg, opC, opCmp, op_eq_int, op_in2, op_inl2, mChain, bYes, wVal, wRng, wOf, wR, wipeE, big, List.map_cons, List.map_nil, List.length_cons, List.length_nil, List.replicate, List.cons_append, List.nil_append, List.getElem?_cons_zero, List.getElem?_cons_succ, List.set_cons_zero, List.set_cons_succ, if_true, if_false, decide_true, decide_false, Bool.not_true, Bool.not_false, Bool.true_and, Bool.and_true, Bool.false_and, Bool.and_false, Bool.or_false, Bool.false_or, Bool.true_or, Bool.or_true, Bool.xor_false, Bool.xor_true, Bool.false_xor, Bool.true_xor, Bool.false_eq_true, Bool.true_eq_false, ite_true, ite_false, line, Nat.reduceSub, Nat.reduceAdd, Int.reduceNeg, Int.reducePow, Int.reduceLT, Int.reduceLE, Int.reduceMul, Int.reduceAdd, Int.reduceSub, Int.reduceDiv, Int.reduceMod, Int.reduceEq, Nat.reduceLeDiff, Nat.reduceLT, Nat.reduceEqDiff, and_true, true_and, and_false, false_and, and_self, gt_iff_lt, ge_iff_le, sForW, forS, e]
end K01
end Z

set_option Elab.async false
set_option linter.all false
set_option maxRecDepth 100000
set_option maxHeartbeats 4000000
namespace Z
open PySem
namespace K01
/-! the law's own helpers (they see the store) -/
theorem fn25 (j : Nat) : (prog G (j + 1)).1 25 = runN 1 (s31 (prog G j).1) := fn_of_sh (d := d31) rfl sh31 j
theorem fn26 (j : Nat) : (prog G (j + 1)).1 26 = runN 3 (s32 (prog G j).1) := fn_of_sh (d := d32) rfl sh32 j
theorem fn27 (j : Nat) : (prog G (j + 1)).1 27 = runN 4 (s33 (prog G j).1) := fn_of_sh (d := d33) rfl sh33 j
theorem fn29 (j : Nat) : (prog G (j + 1)).1 29 = runN 1 (s35 (prog G j).1) := fn_of_sh (d := d35) rfl sh35 j
theorem fn32 (j : Nat) : (prog G (j + 1)).1 32 = runN 29 (s38 (prog G j).1) := fn_of_sh (d := d38) rfl sh38 j
theorem law_signed (j : Nat) {n : Int} : Ev G (j + 1) 29 [.int n] (.int (sg n)) := fun s => by
  rw [fn29]
  unfold s35 sg
  by_cases h : 127 < n
  · have h2 : 128 ≤ n := by omega
    simp only [runN, sSeq, sIf, sRet, sRetN, sExpr, sAsg, sRaise, sPass, sAug, sPar, putAll, tName, tTup, tAll, goOn, R.out, R.bind_ok, R.bind_exc, R.bind_bad, R.of, R.nx, mC, mVar, m1, m2, mB, mT, mNot, mAnd, mOr, mIf, bNot, bAnd, bOr, bIf, truthR, truth, mTup, mkT, mLst, mkL, aNil, aCons, mCall, mB1, opBin, ipOp, ipAdd, ipMul, opAdd, opSub, opMul, opFdiv, opMod, unNeg, opC, opCmp, op_eq_int, op_in2, op_inl2, mChain, bYes, wVal, wRng, wOf, wR, wipeE, big, List.map_cons, List.map_nil, List.length_cons, List.length_nil, List.replicate, List.cons_append, List.nil_append, List.getElem?_cons_zero, List.getElem?_cons_succ, List.set_cons_zero, List.set_cons_succ, if_true, if_false, decide_true, decide_false, Bool.not_true, Bool.not_false, Bool.true_and, Bool.and_true, Bool.false_and, Bool.and_false, Bool.or_false, Bool.false_or, Bool.true_or, Bool.or_true, Bool.xor_false, Bool.xor_true, Bool.false_xor, Bool.true_xor, Bool.false_eq_true, Bool.true_eq_false, ite_true, ite_false, line, Nat.reduceSub, Nat.reduceAdd, Int.reduceNeg, Int.reducePow, Int.reduceLT, Int.reduceLE, Int.reduceMul, Int.reduceAdd, Int.reduceSub, Int.reduceDiv, Int.reduceMod, Int.reduceEq, Nat.reduceLeDiff, Nat.reduceLT, Nat.reduceEqDiff, and_true, true_and, and_false, false_and, and_self, gt_iff_lt, ge_iff_le, h, h2]
  · have h2 : ¬ (128 ≤ n) := by omega
    simp only [runN, sSeq, sIf, sRet, sRetN, sExpr, sAsg, sRaise, sPass, sAug, sPar, putAll, tName, tTup, tAll, goOn, R.out, R.bind_ok, R.bind_exc, R.bind_bad, R.of, R.nx, mC, mVar, m1, m2, mB, mT, mNot, mAnd, mOr, mIf, bNot, bAnd, bOr, bIf, truthR, truth, mTup, mkT, mLst, mkL, aNil, aCons, mCall, mB1, opBin, ipOp, ipAdd, ipMul, opAdd, opSub, opMul, opFdiv, opMod, unNeg, opC, opCmp, op_eq_int, op_in2, op_inl2, mChain, bYes, wVal, wRng, wOf, wR, wipeE, big, List.map_cons, List.map_nil, List.length_cons, List.length_nil, List.replicate, List.cons_append, List.nil_append, List.getElem?_cons_zero, List.getElem?_cons_succ, List.set_cons_zero, List.set_cons_succ, if_true, if_false, decide_true, decide_false, Bool.not_true, Bool.not_false, Bool.true_and, Bool.and_true, Bool.false_and, Bool.and_false, Bool.or_false, Bool.false_or, Bool.true_or, Bool.or_true, Bool.xor_false, Bool.xor_true, Bool.false_xor, Bool.true_xor, Bool.false_eq_true, Bool.true_eq_false, ite_true, ite_false, line, Nat.reduceSub, Nat.reduceAdd, Int.reduceNeg, Int.reducePow, Int.reduceLT, Int.reduceLE, Int.reduceMul, Int.reduceAdd, Int.reduceSub, Int.reduceDiv, Int.reduceMod, Int.reduceEq, Nat.reduceLeDiff, Nat.reduceLT, Nat.reduceEqDiff, and_true, true_and, and_false, false_and, and_self, gt_iff_lt, ge_iff_le, h, h2]
/-- the store of one dice -/
def sd (x y z : Int) : Sto := [.lst [.int x, .int y, .int z]]
theorem sd_ix {x y z : Int} : opIx (.ref 0) (.int 0) (sd x y z) = some (.int x, sd x y z) ∧ opIx (.ref 0) (.int 1) (sd x y z) = some (.int y, sd x y z) ∧ opIx (.ref 0) (.int 2) (sd x y z) = some (.int z, sd x y z) := ⟨rfl, rfl, rfl⟩
theorem sd_set {x y z v : Int} : setIx (.ref 0) (.int 0) (.int v) (sd x y z) = some (sd v y z) ∧ setIx (.ref 0) (.int 1) (.int v) (sd x y z) = some (sd x v z) ∧ setIx (.ref 0) (.int 2) (.int v) (sd x y z) = some (sd x y v) := ⟨rfl, rfl, rfl⟩
theorem roll (j : Nat) (x y z : Int) {m : Int} (h0 : 0 < m) (h1 : m ≤ 65536) : ∃ v x' y' z', 0 ≤ v ∧ v < m ∧ (prog G (j + 1)).1 26 [.ref 0, .int m] (sd x y z) = .ok (.int v) (sd x' y' z') := by
  rw [fn26]
  have q1 : m < 1073741824 := by omega
  have q2 : ¬ (100000000 < m) := by omega
  by_cases hc : z = 2 ∨ (z = 1 ∧ 0 < x)
  · refine ⟨x % m, x / m, y, z, Int.emod_nonneg _ (by omega), Int.emod_lt_of_pos _ h0, ?_⟩
    unfold s32
    by_cases hz : z = 2
    · simp only [runN, sSeq, sIf, sRet, sRetN, sExpr, sAsg, sRaise, sPass, sAug, sPar, putAll, tName, tTup, tAll, goOn, R.out, R.bind_ok, R.bind_exc, R.bind_bad, R.of, R.nx, mC, mVar, m1, m2, mB, mT, mNot, mAnd, mOr, mIf, bNot, bAnd, bOr, bIf, truthR, truth, mTup, mkT, mLst, mkL, aNil, aCons, mCall, mB1, opBin, ipOp, ipAdd, ipMul, opAdd, opSub, opMul, opFdiv, opMod, unNeg, opC, opCmp, op_eq_int, op_in2, op_inl2, mChain, bYes, wVal, wRng, wOf, wR, wipeE, big, List.map_cons, List.map_nil, List.length_cons, List.length_nil, List.replicate, List.cons_append, List.nil_append, List.getElem?_cons_zero, List.getElem?_cons_succ, List.set_cons_zero, List.set_cons_succ, if_true, if_false, decide_true, decide_false, Bool.not_true, Bool.not_false, Bool.true_and, Bool.and_true, Bool.false_and, Bool.and_false, Bool.or_false, Bool.false_or, Bool.true_or, Bool.or_true, Bool.xor_false, Bool.xor_true, Bool.false_xor, Bool.true_xor, Bool.false_eq_true, Bool.true_eq_false, ite_true, ite_false, line, Nat.reduceSub, Nat.reduceAdd, Int.reduceNeg, Int.reducePow, Int.reduceLT, Int.reduceLE, Int.reduceMul, Int.reduceAdd, Int.reduceSub, Int.reduceDiv, Int.reduceMod, Int.reduceEq, Nat.reduceLeDiff, Nat.reduceLT, Nat.reduceEqDiff, and_true, true_and, and_false, false_and, and_self, gt_iff_lt, ge_iff_le, sd_ix, sd_set, tSub, hz, bInt, h0, q1]
    · have hx : z = 1 ∧ 0 < x := hc.resolve_left hz
      simp only [runN, sSeq, sIf, sRet, sRetN, sExpr, sAsg, sRaise, sPass, sAug, sPar, putAll, tName, tTup, tAll, goOn, R.out, R.bind_ok, R.bind_exc, R.bind_bad, R.of, R.nx, mC, mVar, m1, m2, mB, mT, mNot, mAnd, mOr, mIf, bNot, bAnd, bOr, bIf, truthR, truth, mTup, mkT, mLst, mkL, aNil, aCons, mCall, mB1, opBin, ipOp, ipAdd, ipMul, opAdd, opSub, opMul, opFdiv, opMod, unNeg, opC, opCmp, op_eq_int, op_in2, op_inl2, mChain, bYes, wVal, wRng, wOf, wR, wipeE, big, List.map_cons, List.map_nil, List.length_cons, List.length_nil, List.replicate, List.cons_append, List.nil_append, List.getElem?_cons_zero, List.getElem?_cons_succ, List.set_cons_zero, List.set_cons_succ, if_true, if_false, decide_true, decide_false, Bool.not_true, Bool.not_false, Bool.true_and, Bool.and_true, Bool.false_and, Bool.and_false, Bool.or_false, Bool.false_or, Bool.true_or, Bool.or_true, Bool.xor_false, Bool.xor_true, Bool.false_xor, Bool.true_xor, Bool.false_eq_true, Bool.true_eq_false, ite_true, ite_false, line, Nat.reduceSub, Nat.reduceAdd, Int.reduceNeg, Int.reducePow, Int.reduceLT, Int.reduceLE, Int.reduceMul, Int.reduceAdd, Int.reduceSub, Int.reduceDiv, Int.reduceMod, Int.reduceEq, Nat.reduceLeDiff, Nat.reduceLT, Nat.reduceEqDiff, and_true, true_and, and_false, false_and, and_self, gt_iff_lt, ge_iff_le, sd_ix, sd_set, tSub, hz, hx.1, hx.2, bInt, h0, q1]
  · refine ⟨(x * 48271 + y * 69621 + 11) % 2147483647 / 7 % m, (x * 48271 + y * 69621 + 11) % 2147483647, y + 1, 0, Int.emod_nonneg _ (by omega), Int.emod_lt_of_pos _ h0, ?_⟩
    unfold s32
    have hz : ¬ (z = 2) := fun h => hc (.inl h)
    by_cases h1 : z = 1
    · have hx : ¬ (0 < x) := fun h => hc (.inr ⟨h1, h⟩)
      simp only [runN, sSeq, sIf, sRet, sRetN, sExpr, sAsg, sRaise, sPass, sAug, sPar, putAll, tName, tTup, tAll, goOn, R.out, R.bind_ok, R.bind_exc, R.bind_bad, R.of, R.nx, mC, mVar, m1, m2, mB, mT, mNot, mAnd, mOr, mIf, bNot, bAnd, bOr, bIf, truthR, truth, mTup, mkT, mLst, mkL, aNil, aCons, mCall, mB1, opBin, ipOp, ipAdd, ipMul, opAdd, opSub, opMul, opFdiv, opMod, unNeg, opC, opCmp, op_eq_int, op_in2, op_inl2, mChain, bYes, wVal, wRng, wOf, wR, wipeE, big, List.map_cons, List.map_nil, List.length_cons, List.length_nil, List.replicate, List.cons_append, List.nil_append, List.getElem?_cons_zero, List.getElem?_cons_succ, List.set_cons_zero, List.set_cons_succ, if_true, if_false, decide_true, decide_false, Bool.not_true, Bool.not_false, Bool.true_and, Bool.and_true, Bool.false_and, Bool.and_false, Bool.or_false, Bool.false_or, Bool.true_or, Bool.or_true, Bool.xor_false, Bool.xor_true, Bool.false_xor, Bool.true_xor, Bool.false_eq_true, Bool.true_eq_false, ite_true, ite_false, line, Nat.reduceSub, Nat.reduceAdd, Int.reduceNeg, Int.reducePow, Int.reduceLT, Int.reduceLE, Int.reduceMul, Int.reduceAdd, Int.reduceSub, Int.reduceDiv, Int.reduceMod, Int.reduceEq, Nat.reduceLeDiff, Nat.reduceLT, Nat.reduceEqDiff, and_true, true_and, and_false, false_and, and_self, gt_iff_lt, ge_iff_le, sd_ix, sd_set, tSub, hz, h1, hx, bInt, h0, q1, q2]
    · simp only [runN, sSeq, sIf, sRet, sRetN, sExpr, sAsg, sRaise, sPass, sAug, sPar, putAll, tName, tTup, tAll, goOn, R.out, R.bind_ok, R.bind_exc, R.bind_bad, R.of, R.nx, mC, mVar, m1, m2, mB, mT, mNot, mAnd, mOr, mIf, bNot, bAnd, bOr, bIf, truthR, truth, mTup, mkT, mLst, mkL, aNil, aCons, mCall, mB1, opBin, ipOp, ipAdd, ipMul, opAdd, opSub, opMul, opFdiv, opMod, unNeg, opC, opCmp, op_eq_int, op_in2, op_inl2, mChain, bYes, wVal, wRng, wOf, wR, wipeE, big, List.map_cons, List.map_nil, List.length_cons, List.length_nil, List.replicate, List.cons_append, List.nil_append, List.getElem?_cons_zero, List.getElem?_cons_succ, List.set_cons_zero, List.set_cons_succ, if_true, if_false, decide_true, decide_false, Bool.not_true, Bool.not_false, Bool.true_and, Bool.and_true, Bool.false_and, Bool.and_false, Bool.or_false, Bool.false_or, Bool.true_or, Bool.or_true, Bool.xor_false, Bool.xor_true, Bool.false_xor, Bool.true_xor, Bool.false_eq_true, Bool.true_eq_false, ite_true, ite_false, line, Nat.reduceSub, Nat.reduceAdd, Int.reduceNeg, Int.reducePow, Int.reduceLT, Int.reduceLE, Int.reduceMul, Int.reduceAdd, Int.reduceSub, Int.reduceDiv, Int.reduceMod, Int.reduceEq, Nat.reduceLeDiff, Nat.reduceLT, Nat.reduceEqDiff, and_true, true_and, and_false, false_and, and_self, gt_iff_lt, ge_iff_le, sd_ix, sd_set, tSub, hz, h1, bInt, h0, q1, q2]
theorem pow18 {s : Sto} : opPow (.int 10) (.int 18) s = some (.int 1000000000000000000, s) := by
  unfold opPow
  show (if _ then _ else _) = _
  rw [if_pos (by decide)]
  rfl
theorem dice (j : Nat) (c : Int) : ∃ x y z, (prog G (j + 1)).1 25 [.int c] [] = .ok (.ref 0) (sd x y z) := by
  rw [fn25]
  unfold s31
  by_cases h : -10 < c ∧ c < 10
  · refine ⟨if c < 0 then -c else c, 0, 2, ?_⟩
    simp only [runN, sSeq, sIf, sRet, sRetN, sExpr, sAsg, sRaise, sPass, sAug, sPar, putAll, tName, tTup, tAll, goOn, R.out, R.bind_ok, R.bind_exc, R.bind_bad, R.of, R.nx, mC, mVar, m1, m2, mB, mT, mNot, mAnd, mOr, mIf, bNot, bAnd, bOr, bIf, truthR, truth, mTup, mkT, mLst, mkL, aNil, aCons, mCall, mB1, opBin, ipOp, ipAdd, ipMul, opAdd, opSub, opMul, opFdiv, opMod, unNeg, opC, opCmp, op_eq_int, op_in2, op_inl2, mChain, bYes, wVal, wRng, wOf, wR, wipeE, big, List.map_cons, List.map_nil, List.length_cons, List.length_nil, List.replicate, List.cons_append, List.nil_append, List.getElem?_cons_zero, List.getElem?_cons_succ, List.set_cons_zero, List.set_cons_succ, if_true, if_false, decide_true, decide_false, Bool.not_true, Bool.not_false, Bool.true_and, Bool.and_true, Bool.false_and, Bool.and_false, Bool.or_false, Bool.false_or, Bool.true_or, Bool.or_true, Bool.xor_false, Bool.xor_true, Bool.false_xor, Bool.true_xor, Bool.false_eq_true, Bool.true_eq_false, ite_true, ite_false, line, Nat.reduceSub, Nat.reduceAdd, Int.reduceNeg, Int.reducePow, Int.reduceLT, Int.reduceLE, Int.reduceMul, Int.reduceAdd, Int.reduceSub, Int.reduceDiv, Int.reduceMod, Int.reduceEq, Nat.reduceLeDiff, Nat.reduceLT, Nat.reduceEqDiff, and_true, true_and, and_false, false_and, and_self, gt_iff_lt, ge_iff_le, h.1, h.2, bAbs]
    rfl
  · refine ⟨c, 1 + c % 1009, if 1000000000000000000 ≤ c then 1 else 0, ?_⟩
    have h' : ¬ (-10 < c) ∨ (-10 < c ∧ ¬ (c < 10)) := by omega
    rcases h' with h1 | ⟨h1, h2⟩
    · have hh : ¬ (1000000000000000000 ≤ c) := by omega
      simp only [runN, sSeq, sIf, sRet, sRetN, sExpr, sAsg, sRaise, sPass, sAug, sPar, putAll, tName, tTup, tAll, goOn, R.out, R.bind_ok, R.bind_exc, R.bind_bad, R.of, R.nx, mC, mVar, m1, m2, mB, mT, mNot, mAnd, mOr, mIf, bNot, bAnd, bOr, bIf, truthR, truth, mTup, mkT, mLst, mkL, aNil, aCons, mCall, mB1, opBin, ipOp, ipAdd, ipMul, opAdd, opSub, opMul, opFdiv, opMod, unNeg, opC, opCmp, op_eq_int, op_in2, op_inl2, mChain, bYes, wVal, wRng, wOf, wR, wipeE, big, List.map_cons, List.map_nil, List.length_cons, List.length_nil, List.replicate, List.cons_append, List.nil_append, List.getElem?_cons_zero, List.getElem?_cons_succ, List.set_cons_zero, List.set_cons_succ, if_true, if_false, decide_true, decide_false, Bool.not_true, Bool.not_false, Bool.true_and, Bool.and_true, Bool.false_and, Bool.and_false, Bool.or_false, Bool.false_or, Bool.true_or, Bool.or_true, Bool.xor_false, Bool.xor_true, Bool.false_xor, Bool.true_xor, Bool.false_eq_true, Bool.true_eq_false, ite_true, ite_false, line, Nat.reduceSub, Nat.reduceAdd, Int.reduceNeg, Int.reducePow, Int.reduceLT, Int.reduceLE, Int.reduceMul, Int.reduceAdd, Int.reduceSub, Int.reduceDiv, Int.reduceMod, Int.reduceEq, Nat.reduceLeDiff, Nat.reduceLT, Nat.reduceEqDiff, and_true, true_and, and_false, false_and, and_self, gt_iff_lt, ge_iff_le, h1, hh, bInt, pow18]
      rfl
    · by_cases hh : 1000000000000000000 ≤ c
      · simp only [runN, sSeq, sIf, sRet, sRetN, sExpr, sAsg, sRaise, sPass, sAug, sPar, putAll, tName, tTup, tAll, goOn, R.out, R.bind_ok, R.bind_exc, R.bind_bad, R.of, R.nx, mC, mVar, m1, m2, mB, mT, mNot, mAnd, mOr, mIf, bNot, bAnd, bOr, bIf, truthR, truth, mTup, mkT, mLst, mkL, aNil, aCons, mCall, mB1, opBin, ipOp, ipAdd, ipMul, opAdd, opSub, opMul, opFdiv, opMod, unNeg, opC, opCmp, op_eq_int, op_in2, op_inl2, mChain, bYes, wVal, wRng, wOf, wR, wipeE, big, List.map_cons, List.map_nil, List.length_cons, List.length_nil, List.replicate, List.cons_append, List.nil_append, List.getElem?_cons_zero, List.getElem?_cons_succ, List.set_cons_zero, List.set_cons_succ, if_true, if_false, decide_true, decide_false, Bool.not_true, Bool.not_false, Bool.true_and, Bool.and_true, Bool.false_and, Bool.and_false, Bool.or_false, Bool.false_or, Bool.true_or, Bool.or_true, Bool.xor_false, Bool.xor_true, Bool.false_xor, Bool.true_xor, Bool.false_eq_true, Bool.true_eq_false, ite_true, ite_false, line, Nat.reduceSub, Nat.reduceAdd, Int.reduceNeg, Int.reducePow, Int.reduceLT, Int.reduceLE, Int.reduceMul, Int.reduceAdd, Int.reduceSub, Int.reduceDiv, Int.reduceMod, Int.reduceEq, Nat.reduceLeDiff, Nat.reduceLT, Nat.reduceEqDiff, and_true, true_and, and_false, false_and, and_self, gt_iff_lt, ge_iff_le, h1, h2, hh, bInt, pow18]
        rfl
      · simp only [runN, sSeq, sIf, sRet, sRetN, sExpr, sAsg, sRaise, sPass, sAug, sPar, putAll, tName, tTup, tAll, goOn, R.out, R.bind_ok, R.bind_exc, R.bind_bad, R.of, R.nx, mC, mVar, m1, m2, mB, mT, mNot, mAnd, mOr, mIf, bNot, bAnd, bOr, bIf, truthR, truth, mTup, mkT, mLst, mkL, aNil, aCons, mCall, mB1, opBin, ipOp, ipAdd, ipMul, opAdd, opSub, opMul, opFdiv, opMod, unNeg, opC, opCmp, op_eq_int, op_in2, op_inl2, mChain, bYes, wVal, wRng, wOf, wR, wipeE, big, List.map_cons, List.map_nil, List.length_cons, List.length_nil, List.replicate, List.cons_append, List.nil_append, List.getElem?_cons_zero, List.getElem?_cons_succ, List.set_cons_zero, List.set_cons_succ, if_true, if_false, decide_true, decide_false, Bool.not_true, Bool.not_false, Bool.true_and, Bool.and_true, Bool.false_and, Bool.and_false, Bool.or_false, Bool.false_or, Bool.true_or, Bool.or_true, Bool.xor_false, Bool.xor_true, Bool.false_xor, Bool.true_xor, Bool.false_eq_true, Bool.true_eq_false, ite_true, ite_false, line, Nat.reduceSub, Nat.reduceAdd, Int.reduceNeg, Int.reducePow, Int.reduceLT, Int.reduceLE, Int.reduceMul, Int.reduceAdd, Int.reduceSub, Int.reduceDiv, Int.reduceMod, Int.reduceEq, Nat.reduceLeDiff, Nat.reduceLT, Nat.reduceEqDiff, and_true, true_and, and_false, false_and, and_self, gt_iff_lt, ge_iff_le, h1, h2, hh, bInt, pow18]
        rfl
end K01
end Z

set_option Elab.async false
set_option linter.all false
set_option maxRecDepth 100000
set_option maxHeartbeats 4000000
namespace Z
open PySem
namespace K01
/-! texts of sixteens -/
def FIG : Str := "0123456789abcdef"
def figs : List Nat := [48, 49, 50, 51, 52, 53, 54, 55, 56, 57, 97, 98, 99, 100, 101, 102]
def hexc (k : Int) : Nat := figs.getD k.toNat 0
theorem dig {k : Int} (h0 : 0 ≤ k) (h1 : k < 16) : k = 0 ∨ k = 1 ∨ k = 2 ∨ k = 3 ∨ k = 4 ∨ k = 5 ∨ k = 6 ∨ k = 7 ∨ k = 8 ∨ k = 9 ∨ k = 10 ∨ k = 11 ∨ k = 12 ∨ k = 13 ∨ k = 14 ∨ k = 15 := by omega
theorem fig_len : FIG.length ≤ 16777216 := by decide +kernel
theorem fig_cps : FIG.cps.toList = figs := by decide +kernel
theorem fig_at {k : Int} (h0 : 0 ≤ k) (h1 : k < 16) (s : Sto) : opIx (.str FIG) (.int k) s = some (.str ⟨#[hexc k]⟩, s) := by
  unfold opIx
  show (if FIG.length ≤ line then (match L2.atI FIG.cps.toList k with | some c => some (D.str ⟨#[c]⟩, s) | none => none) else none) = _
  rw [if_pos fig_len, fig_cps]
  rcases dig h0 h1 with rfl | rfl | rfl | rfl | rfl | rfl | rfl | rfl | rfl | rfl | rfl | rfl | rfl | rfl | rfl | rfl <;> rfl
theorem fig_in {k : Int} (h0 : 0 ≤ k) (h1 : k < 16) (s : Sto) : opIn true (.str ⟨#[hexc k]⟩) (.str FIG) s = some (.bl false, s) := by
  unfold opIn
  show (some ((D.bl (xor true (decide (hexc k ∈ FIG.cps.toList)))), s)) = _
  rw [fig_cps]
  rcases dig h0 h1 with rfl | rfl | rfl | rfl | rfl | rfl | rfl | rfl | rfl | rfl | rfl | rfl | rfl | rfl | rfl | rfl <;> rfl
def ixB (k : Nat) : Bool := match Txt.index0 FIG ⟨#[hexc (Int.ofNat k)]⟩ with
  | some j => decide (j = k)
  | none => false
theorem ix_all : allTo ixB 16 = true := by decide +kernel
theorem fig_ix {k : Int} (h0 : 0 ≤ k) (h1 : k < 16) (s : Sto) : mtIndex (.str FIG) [.str ⟨#[hexc k]⟩] s = some (.int k, s) := by
  have q := allTo_ok (k := k.toNat) ix_all (by omega)
  unfold ixB at q
  have e : Int.ofNat k.toNat = k := Int.toNat_of_nonneg h0
  rw [e] at q
  unfold mtIndex
  show (match Txt.index0 FIG ⟨#[hexc k]⟩ with | some k => some (D.int (k : Nat), s) | none => none) = _
  split at q
  · rename_i j hj
    have q := of_decide_eq_true q
    rw [q]
    show some (D.int (Int.ofNat k.toNat), s) = _
    rw [e]
  · cases q
/-- the digits, the highest first -/
def digL (w : Int) : Nat → List Int
  | 0 => []
  | m + 1 => w / pw (4 * m) % 16 :: digL w m
theorem digL_len {w : Int} : ∀ m, (digL w m).length = m
  | 0 => rfl
  | m + 1 => by unfold digL; rw [List.length_cons, digL_len m]
theorem digL_in {w : Int} : ∀ {m : Nat} {x : Int}, x ∈ digL w m → 0 ≤ x ∧ x < 16
  | m + 1, x, h => by
    unfold digL at h
    rcases List.mem_cons.mp h with h | h
    · omega
    · exact digL_in h
def txt (l : List Int) : Str := mkS (l.map hexc)
theorem txt_len {l : List Int} : (txt l).length = l.length := by
  unfold txt Str.length mkS
  simp
theorem txt_cons {k : Int} {l : List Int} : (⟨#[hexc k]⟩ : Str) ++ txt l = txt (k :: l) := by
  unfold txt mkS
  show (Str.mk (#[hexc k] ++ (l.map hexc).toArray)) = _
  congr 1
  simp
theorem pw4 {m : Nat} : pw (4 * (m + 1)) = pw (4 * m) * 16 := by
  have e : 4 * (m + 1) = 4 * m + 1 + 1 + 1 + 1 := by omega
  rw [e, pw_succ, pw_succ, pw_succ, pw_succ]
  omega
theorem div4 {w : Int} {m : Nat} : w / pw (4 * m) / 16 = w / pw (4 * (m + 1)) := by
  rw [pw4, Int.ediv_ediv_of_nonneg (Int.le_of_lt (pw_pos _))]
/-- the loop that tells -/
theorem tell_step {a b x : Option D} {s : Sto} {q : Int} {t : Str} {d : D} (h0 : 0 ≤ q) (ht : t.length + 1 ≤ 16777216) : (sSeq (sAsg (tName 2) (m2 (opBin false .Add) (m2 opIx (mC (.str FIG)) (m2 (opBin false .Mod) (mVar 3) (mC (.int 16)))) (mVar 2))) (sSeq (sAug 3 (ipOp .FloorDiv) (mC (.int 16))) sPass)) [a, b, some (.str t), some (.int q), some d] s = .nx [a, b, some (.str (⟨#[hexc (q % 16)]⟩ ++ t)), some (.int (q / 16)), some d] s := by
  have e := fig_at (k := q % 16) (by omega) (by omega) s
  have hl : (⟨#[hexc (q % 16)]⟩ : Str).length + t.length ≤ 16777216 := by
    have : (⟨#[hexc (q % 16)]⟩ : Str).length = 1 := rfl
    omega
  simp only [runN, sSeq, sIf, sRet, sRetN, sExpr, sAsg, sRaise, sPass, sAug, sPar, putAll, tName, tTup, tAll, goOn, R.out, R.bind_ok, R.bind_exc, R.bind_bad, R.of, R.nx, mC, mVar, m1, m2, mB, mT, mNot, mAnd, mOr, mIf, bNot, bAnd, bOr, bIf, truthR, truth, mTup, mkT, mLst, mkL, aNil, aCons, mCall, mB1, opBin, ipOp, ipAdd, ipMul, opAdd, opSub, opMul, opFdiv, opMod, unNeg, opC, opCmp, op_eq_int, op_in2, op_inl2, mChain, bYes, wVal, wRng, wOf, wR, wipeE, big, List.map_cons, List.map_nil, List.length_cons, List.length_nil, List.replicate, List.cons_append, List.nil_append, List.getElem?_cons_zero, List.getElem?_cons_succ, List.set_cons_zero, List.set_cons_succ, if_true, if_false, decide_true, decide_false, Bool.not_true, Bool.not_false, Bool.true_and, Bool.and_true, Bool.false_and, Bool.and_false, Bool.or_false, Bool.false_or, Bool.true_or, Bool.or_true, Bool.xor_false, Bool.xor_true, Bool.false_xor, Bool.true_xor, Bool.false_eq_true, Bool.true_eq_false, ite_true, ite_false, line, Nat.reduceSub, Nat.reduceAdd, Int.reduceNeg, Int.reducePow, Int.reduceLT, Int.reduceLE, Int.reduceMul, Int.reduceAdd, Int.reduceSub, Int.reduceDiv, Int.reduceMod, Int.reduceEq, Nat.reduceLeDiff, Nat.reduceLT, Nat.reduceEqDiff, and_true, true_and, and_false, false_and, and_self, gt_iff_lt, ge_iff_le, e, hl]
theorem tell_loop {a b : Option D} {s : Sto} {w : Int} (hw : 0 ≤ w) : ∀ (ds : List D) (x : Option D) (m : Nat), m + ds.length ≤ 1000 → ∃ y, forF (tName 4) (sSeq (sAsg (tName 2) (m2 (opBin false .Add) (m2 opIx (mC (.str FIG)) (m2 (opBin false .Mod) (mVar 3) (mC (.int 16)))) (mVar 2))) (sSeq (sAug 3 (ipOp .FloorDiv) (mC (.int 16))) sPass)) ds [a, b, some (.str (txt (digL w m))), some (.int (w / pw (4 * m))), x] s = .nx [a, b, some (.str (txt (digL w (m + ds.length)))), some (.int (w / pw (4 * (m + ds.length)))), y] s
  | [], x, m, _ => ⟨x, rfl⟩
  | d :: ds, x, m, h => by
    rw [List.length_cons] at h
    obtain ⟨y, e⟩ := tell_loop (a := a) (b := b) (s := s) hw ds (some d) (m + 1) (by omega)
    refine ⟨y, ?_⟩
    have hq : 0 ≤ w / pw (4 * m) := Int.ediv_nonneg hw (Int.le_of_lt (pw_pos _))
    have q := tell_step (a := a) (b := b) (x := x) (s := s) (d := d) (t := txt (digL w m)) hq (by rw [txt_len, digL_len]; omega)
    rw [txt_cons, div4] at q
    have e2 : m + (d :: ds).length = m + 1 + ds.length := by rw [List.length_cons]; omega
    rw [forF_cons (e1 := [a, b, some (.str (txt (digL w m))), some (.int (w / pw (4 * m))), some d]) (s1 := s) rfl q, e2]
    exact e
theorem told_sixteens (j : Nat) {w i : Int} {m : Nat} (hi : i = Int.ofNat m) (h1 : 1 ≤ m) (h2 : m ≤ 8) (w0 : 0 ≤ w) (w1 : w < pw (4 * m)) : Ev G (j + 2) 21 [.int w, .int i] (.str (txt (digL w m))) := by
  refine ev_of (d := d26) rfl rfl sh26 rfl rfl (s' := []) ?_
  show runN 5 _ _ _ = _
  unfold s26
  have hi2 : i = (m : Int) := hi
  have q1 : (1 : Int) ≤ i := by omega
  have q2 : i ≤ 8 := by omega
  have hp := power_of j (b := 4 * m) (i := 4 * i) (by omega) (by subst hi2; rfl)
  have bg : -18446744073709551616 < i ∧ i < 18446744073709551616 := by omega
  have hr : rng [.int i] = some (rngL 0 1 m) := by
    unfold rng
    show (if decide (-(2 ^ 62) ≤ i) && decide (i < 2 ^ 62) then some (rngL 0 1 i.toNat) else none) = _
    rw [if_pos (by rw [decide_eq_true (show -(2 ^ 62) ≤ i by omega), decide_eq_true (show i < 2 ^ 62 by omega)]; rfl)]
    have : i.toNat = m := by omega
    rw [this]
  have hlen : (rngL 0 1 m).length = m := by unfold rngL; rw [List.length_map, List.length_range]
  obtain ⟨y, e⟩ := tell_loop (a := some (.int w)) (b := some (.int i)) (s := []) w0 (rngL 0 1 m) none 0 (by omega)
  have e0 : w / pw (4 * 0) = w := Int.ediv_one w
  have e1 : txt (digL w 0) = ("" : Str) := rfl
  rw [e0, e1, hlen, Nat.zero_add] at e
  simp only [opBin, ipOp] at e
  have hF : ("0123456789abcdef" : Str) = FIG := rfl
  simp only [runN, sSeq, sIf, sRet, sRetN, sExpr, sAsg, sRaise, sPass, sAug, sPar, putAll, tName, tTup, tAll, goOn, R.out, R.bind_ok, R.bind_exc, R.bind_bad, R.of, R.nx, mC, mVar, m1, m2, mB, mT, mNot, mAnd, mOr, mIf, bNot, bAnd, bOr, bIf, truthR, truth, mTup, mkT, mLst, mkL, aNil, aCons, mCall, mB1, opBin, ipOp, ipAdd, ipMul, opAdd, opSub, opMul, opFdiv, opMod, unNeg, opC, opCmp, op_eq_int, op_in2, op_inl2, mChain, bYes, wVal, wRng, wOf, wR, wipeE, big, List.map_cons, List.map_nil, List.length_cons, List.length_nil, List.replicate, List.cons_append, List.nil_append, List.getElem?_cons_zero, List.getElem?_cons_succ, List.set_cons_zero, List.set_cons_succ, if_true, if_false, decide_true, decide_false, Bool.not_true, Bool.not_false, Bool.true_and, Bool.and_true, Bool.false_and, Bool.and_false, Bool.or_false, Bool.false_or, Bool.true_or, Bool.or_true, Bool.xor_false, Bool.xor_true, Bool.false_xor, Bool.true_xor, Bool.false_eq_true, Bool.true_eq_false, ite_true, ite_false, line, Nat.reduceSub, Nat.reduceAdd, Int.reduceNeg, Int.reducePow, Int.reduceLT, Int.reduceLE, Int.reduceMul, Int.reduceAdd, Int.reduceSub, Int.reduceDiv, Int.reduceMod, Int.reduceEq, Nat.reduceLeDiff, Nat.reduceLT, Nat.reduceEqDiff, and_true, true_and, and_false, false_and, and_self, gt_iff_lt, ge_iff_le, q1, q2, hp _, bg, w0, w1, hr, Option.map, sForW, forS, hF, e]
end K01
end Z

set_option Elab.async false
set_option linter.all false
set_option maxRecDepth 100000
set_option maxHeartbeats 4000000
namespace Z
open PySem
namespace K01
def chs (l : List Int) : List D := l.map fun k => .str ⟨#[hexc k]⟩
theorem txt_items {l : List Int} : ((txt l).cps.toList.map fun c => D.str ⟨#[c]⟩) = chs l := by
  unfold txt chs
  rw [mkS_cps, List.map_map]
  rfl
def valH (l : List Int) (a : Int) : Int := l.foldl (fun a b => 16 * a + b) a
theorem valH_dig {w : Int} : ∀ (m : Nat) (a : Int), valH (digL w m) a = a * pw (4 * m) + w % pw (4 * m)
  | 0, a => by
    show a = a * 1 + w % 1
    omega
  | m + 1, a => by
    show valH (digL w m) (16 * a + w / pw (4 * m) % 16) = _
    rw [valH_dig m, pw4]
    have hp := pw_pos (4 * m)
    have h1 : w % (pw (4 * m) * 16) = w % pw (4 * m) + pw (4 * m) * (w / pw (4 * m) % 16) := by
      refine ((Int.ediv_emod_unique (a := w) (b := pw (4 * m) * 16) (r := w % pw (4 * m) + pw (4 * m) * (w / pw (4 * m) % 16)) (q := w / pw (4 * m) / 16) (by omega)).mpr ⟨?_, ?_, ?_⟩).2
      · have e1 := Int.emod_add_mul_ediv w (pw (4 * m))
        have e2 := Int.emod_add_mul_ediv (w / pw (4 * m)) 16
        have e3 : pw (4 * m) * (w / pw (4 * m)) = pw (4 * m) * (w / pw (4 * m) % 16) + pw (4 * m) * (16 * (w / pw (4 * m) / 16)) := by rw [← Int.mul_add, e2]
        have e4 : pw (4 * m) * 16 * (w / pw (4 * m) / 16) = pw (4 * m) * (16 * (w / pw (4 * m) / 16)) := Int.mul_assoc ..
        omega
      · have h1 := Int.emod_nonneg w (show pw (4 * m) ≠ 0 by omega)
        have h2 : 0 ≤ pw (4 * m) * (w / pw (4 * m) % 16) := Int.mul_nonneg (by omega) (by omega)
        omega
      · have h1 := Int.emod_lt_of_pos w hp
        have h3 : w / pw (4 * m) % 16 ≤ 15 := by omega
        have h4 : pw (4 * m) * (w / pw (4 * m) % 16) ≤ pw (4 * m) * 15 := Int.mul_le_mul_of_nonneg_left h3 (by omega)
        omega
    rw [h1, Int.add_mul, Int.mul_comm 16 a, Int.mul_assoc, Int.mul_comm (w / pw (4 * m) % 16) (pw (4 * m)), Int.add_assoc, Int.add_comm (w % pw (4 * m)), Int.mul_comm 16 (pw (4 * m))]
theorem read_loop {a : Option D} {s : Sto} : ∀ (l : List Int) (x : Option D) (v : Int), (∀ z ∈ l, 0 ≤ z ∧ z < 16) → ∃ y, forF (tName 1) (sSeq (sAsg (tName 2) (m2 (opBin false .Add) (m2 (opBin false .Mult) (mC (.int 16)) (mVar 2)) (mMt .str mtIndex (mC (.str FIG)) (aCons (mVar 1) aNil)))) sPass) (chs l) [a, x, some (.int v)] s = .nx [a, y, some (.int (valH l v))] s
  | [], x, v, _ => ⟨x, rfl⟩
  | k :: l, x, v, h => by
    obtain ⟨y, e⟩ := read_loop (a := a) (s := s) l (some (.str ⟨#[hexc k]⟩)) (16 * v + k) fun z hz => h z (List.mem_cons_of_mem _ hz)
    refine ⟨y, ?_⟩
    obtain ⟨h0, h1⟩ := h k (List.mem_cons_self ..)
    have q := fig_ix h0 h1 s
    show forF _ _ (.str ⟨#[hexc k]⟩ :: chs l) _ _ = _
    rw [forF_cons (e1 := [a, some (.str ⟨#[hexc k]⟩), some (.int v)]) (e2 := [a, some (.str ⟨#[hexc k]⟩), some (.int (16 * v + k))]) (s1 := s) (s2 := s) rfl (by simp only [runN, sSeq, sIf, sRet, sRetN, sExpr, sAsg, sRaise, sPass, sAug, sPar, putAll, tName, tTup, tAll, goOn, R.out, R.bind_ok, R.bind_exc, R.bind_bad, R.of, R.nx, mC, mVar, m1, m2, mB, mT, mNot, mAnd, mOr, mIf, bNot, bAnd, bOr, bIf, truthR, truth, mTup, mkT, mLst, mkL, aNil, aCons, mCall, mB1, opBin, ipOp, ipAdd, ipMul, opAdd, opSub, opMul, opFdiv, opMod, unNeg, opC, opCmp, op_eq_int, op_in2, op_inl2, mChain, bYes, wVal, wRng, wOf, wR, wipeE, big, List.map_cons, List.map_nil, List.length_cons, List.length_nil, List.replicate, List.cons_append, List.nil_append, List.getElem?_cons_zero, List.getElem?_cons_succ, List.set_cons_zero, List.set_cons_succ, if_true, if_false, decide_true, decide_false, Bool.not_true, Bool.not_false, Bool.true_and, Bool.and_true, Bool.false_and, Bool.and_false, Bool.or_false, Bool.false_or, Bool.true_or, Bool.or_true, Bool.xor_false, Bool.xor_true, Bool.false_xor, Bool.true_xor, Bool.false_eq_true, Bool.true_eq_false, ite_true, ite_false, line, Nat.reduceSub, Nat.reduceAdd, Int.reduceNeg, Int.reducePow, Int.reduceLT, Int.reduceLE, Int.reduceMul, Int.reduceAdd, Int.reduceSub, Int.reduceDiv, Int.reduceMod, Int.reduceEq, Nat.reduceLeDiff, Nat.reduceLT, Nat.reduceEqDiff, and_true, true_and, and_false, false_and, and_self, gt_iff_lt, ge_iff_le, mMt, isTy, isStr, q]), e]
    rfl
theorem strB_txt (l : List Int) (h : ∀ z ∈ l, 0 ≤ z ∧ z < 16) : True := trivial
theorem read_sixteens (j : Nat) {l : List Int} (h1 : 1 ≤ l.length) (h2 : l.length ≤ 8) (h : ∀ z ∈ l, 0 ≤ z ∧ z < 16) : Ev G (j + 1) 22 [.str (txt l)] (.int (valH l 0)) := by
  refine ev_of (d := d27) rfl rfl sh27 rfl rfl (s' := []) ?_
  show runN 3 _ _ _ = _
  unfold s27
  have q1 : (1 : Int) ≤ ((txt l).length : Int) := by rw [txt_len]; omega
  have q2 : ((txt l).length : Int) ≤ 8 := by rw [txt_len]; omega
  have q3 : (txt l).length ≤ 16777216 := by rw [txt_len]; omega
  have q4 : (chs l).length ≤ 16777216 := by unfold chs; rw [List.length_map]; omega
  obtain ⟨y, e⟩ := read_loop (a := some (.str (txt l))) (s := []) l none 0 h
  have hq : qnF true (tName 1) bYes (m2 (opC .NotIn) (mVar 1) (mC (.str FIG))) (chs l) [some (.str (txt l)), none, none] [] = .ok false [] := by
    refine qnF_none (st := true) fun d hd => ?_
    obtain ⟨k, hk, rfl⟩ := List.mem_map.mp hd
    obtain ⟨h0, h1⟩ := h k hk
    refine ⟨[some (.str (txt l)), some (.str ⟨#[hexc k]⟩), none], rfl, rfl, ?_⟩
    have q := fig_in h0 h1 ([] : Sto)
    simp only [runN, sSeq, sIf, sRet, sRetN, sExpr, sAsg, sRaise, sPass, sAug, sPar, putAll, tName, tTup, tAll, goOn, R.out, R.bind_ok, R.bind_exc, R.bind_bad, R.of, R.nx, mC, mVar, m1, m2, mB, mT, mNot, mAnd, mOr, mIf, bNot, bAnd, bOr, bIf, truthR, truth, mTup, mkT, mLst, mkL, aNil, aCons, mCall, mB1, opBin, ipOp, ipAdd, ipMul, opAdd, opSub, opMul, opFdiv, opMod, unNeg, opC, opCmp, op_eq_int, op_in2, op_inl2, mChain, bYes, wVal, wRng, wOf, wR, wipeE, big, List.map_cons, List.map_nil, List.length_cons, List.length_nil, List.replicate, List.cons_append, List.nil_append, List.getElem?_cons_zero, List.getElem?_cons_succ, List.set_cons_zero, List.set_cons_succ, if_true, if_false, decide_true, decide_false, Bool.not_true, Bool.not_false, Bool.true_and, Bool.and_true, Bool.false_and, Bool.and_false, Bool.or_false, Bool.false_or, Bool.true_or, Bool.or_true, Bool.xor_false, Bool.xor_true, Bool.false_xor, Bool.true_xor, Bool.false_eq_true, Bool.true_eq_false, ite_true, ite_false, line, Nat.reduceSub, Nat.reduceAdd, Int.reduceNeg, Int.reducePow, Int.reduceLT, Int.reduceLE, Int.reduceMul, Int.reduceAdd, Int.reduceSub, Int.reduceDiv, Int.reduceMod, Int.reduceEq, Nat.reduceLeDiff, Nat.reduceLT, Nat.reduceEqDiff, and_true, true_and, and_false, false_and, and_self, gt_iff_lt, ge_iff_le, q]
  simp only [opBin, opC] at e hq
  have hF : ("0123456789abcdef" : Str) = FIG := rfl
  simp only [runN, sSeq, sIf, sRet, sRetN, sExpr, sAsg, sRaise, sPass, sAug, sPar, putAll, tName, tTup, tAll, goOn, R.out, R.bind_ok, R.bind_exc, R.bind_bad, R.of, R.nx, mC, mVar, m1, m2, mB, mT, mNot, mAnd, mOr, mIf, bNot, bAnd, bOr, bIf, truthR, truth, mTup, mkT, mLst, mkL, aNil, aCons, mCall, mB1, opBin, ipOp, ipAdd, ipMul, opAdd, opSub, opMul, opFdiv, opMod, unNeg, opC, opCmp, op_eq_int, op_in2, op_inl2, mChain, bYes, wVal, wRng, wOf, wR, wipeE, big, List.map_cons, List.map_nil, List.length_cons, List.length_nil, List.replicate, List.cons_append, List.nil_append, List.getElem?_cons_zero, List.getElem?_cons_succ, List.set_cons_zero, List.set_cons_succ, if_true, if_false, decide_true, decide_false, Bool.not_true, Bool.not_false, Bool.true_and, Bool.and_true, Bool.false_and, Bool.and_false, Bool.or_false, Bool.false_or, Bool.true_or, Bool.or_true, Bool.xor_false, Bool.xor_true, Bool.false_xor, Bool.true_xor, Bool.false_eq_true, Bool.true_eq_false, ite_true, ite_false, line, Nat.reduceSub, Nat.reduceAdd, Int.reduceNeg, Int.reducePow, Int.reduceLT, Int.reduceLE, Int.reduceMul, Int.reduceAdd, Int.reduceSub, Int.reduceDiv, Int.reduceMod, Int.reduceEq, Nat.reduceLeDiff, Nat.reduceLT, Nat.reduceEqDiff, and_true, true_and, and_false, false_and, and_self, gt_iff_lt, ge_iff_le, hF, bLen, q1, q2, q3, txt_items, mQn, qnS, q4, hq, sForW, forS, e]
/-! sums over counted items -/
def dn {α : Type} (x : Nat → α) : Nat → List α
  | 0 => []
  | b + 1 => x b :: dn x b
theorem bits_dn {n : Int} : ∀ b, (bitsL n b).map D.int = dn (fun b => D.int (n / pw b % 2)) b
  | 0 => rfl
  | b + 1 => by
    unfold bitsL dn
    rw [List.map_cons, bits_dn b]
theorem chs_dn {w : Int} : ∀ b, chs (digL w b) = dn (fun b => D.str ⟨#[hexc (w / pw (4 * b) % 16)]⟩) b
  | 0 => rfl
  | b + 1 => by
    have ih := chs_dn (w := w) b
    unfold chs at ih ⊢
    unfold digL dn
    rw [List.map_cons, ih]
theorem cnt_lc {el : ME} {e : Env} {s : Sto} {i1 i2 B : Nat} (x : Nat → D) (y : Nat → Int) (he : ∀ b k : Nat, k + (b + 1) = B → el ((e.set i1 (some (.int (k : Nat)))).set i2 (some (x b))) s = .ok (.int (y b)) s) : ∀ (b k : Nat), k + b = B →
    lcF (tTup [tName i1, tName i2]) bYes el (enumD k (dn x b)) e s = .ok ((dn y b).map D.int) s := by
  intro b
  induction b with
  | zero => intro k _; rfl
  | succ b ih =>
    intro k hk
    have ih := ih (k + 1) (by omega)
    have h := he b k hk
    show lcT _ _ _ (.tup [.int (k : Nat), x b]) e s (lcF (tTup [tName i1, tName i2]) bYes el (enumD (k + 1) (dn x b)) e) = _
    unfold lcT
    show ((el ((e.set i1 (some (.int (k : Nat)))).set i2 (some (x b))) s).nx.bind fun v s3 => (lcF (tTup [tName i1, tName i2]) bYes el (enumD (k + 1) (dn x b)) e s3).bind fun r s4 => R.ok (v :: r) s4) = _
    rw [h]
    show ((lcF (tTup [tName i1, tName i2]) bYes el (enumD (k + 1) (dn x b)) e s).bind fun r s4 => R.ok (D.int (y b) :: r) s4) = _
    rw [ih]
    rfl
theorem sum_bits {n : Int} : ∀ b, (dn (fun b => n / pw b % 2 * pw b) b).sum = n % pw b
  | 0 => by
    show (0 : Int) = n % 1
    omega
  | b + 1 => by
    show n / pw b % 2 * pw b + (dn (fun b => n / pw b % 2 * pw b) b).sum = _
    rw [sum_bits b, pw_succ, emod_two (pw_pos b), Int.mul_comm, Int.add_comm]
theorem emod_sixteen {p w : Int} (hp : 0 < p) : w % (p * 16) = w % p + p * (w / p % 16) := by
  refine ((Int.ediv_emod_unique (a := w) (b := p * 16) (r := w % p + p * (w / p % 16)) (q := w / p / 16) (by omega)).mpr ⟨?_, ?_, ?_⟩).2
  · have e1 := Int.emod_add_mul_ediv w p
    have e2 := Int.emod_add_mul_ediv (w / p) 16
    have e3 : p * (w / p) = p * (w / p % 16) + p * (16 * (w / p / 16)) := by rw [← Int.mul_add, e2]
    have e4 : p * 16 * (w / p / 16) = p * (16 * (w / p / 16)) := Int.mul_assoc ..
    omega
  · have h1 := Int.emod_nonneg w (show p ≠ 0 by omega)
    have h2 : 0 ≤ p * (w / p % 16) := Int.mul_nonneg (by omega) (by omega)
    omega
  · have h1 := Int.emod_lt_of_pos w hp
    have h3 : w / p % 16 ≤ 15 := by omega
    have h4 : p * (w / p % 16) ≤ p * 15 := Int.mul_le_mul_of_nonneg_left h3 (by omega)
    omega
theorem sum_digs {w : Int} : ∀ b, (dn (fun b => w / pw (4 * b) % 16 * pw (4 * b)) b).sum = w % pw (4 * b)
  | 0 => by
    show (0 : Int) = w % 1
    omega
  | b + 1 => by
    show w / pw (4 * b) % 16 * pw (4 * b) + (dn (fun b => w / pw (4 * b) % 16 * pw (4 * b)) b).sum = _
    rw [sum_digs b, pw4, emod_sixteen (pw_pos (4 * b)), Int.mul_comm, Int.add_comm]
end K01
end Z

set_option Elab.async false
set_option linter.all false
set_option maxRecDepth 100000
set_option maxHeartbeats 4000000
namespace Z
open PySem
namespace K01
theorem cut1 (c : Int) (r : List Int) : cutD ((c :: r).map D.int) none (some 1) = [.int c] := by
  unfold cutD HT.sIx
  simp
  try omega
theorem cut0 : cutD ([] : List D) none (some 1) = [] := by
  unfold cutD
  simp
theorem eq_nil {s : Sto} : opEq false (.lst []) (.lst []) s = some (.bl true, s) := rfl
theorem eq_one {s : Sto} {c : Int} : opEq false (.lst [.int c]) (.lst []) s = some (.bl false, s) := by
  have := op_eq_ll (s := s) (n := false) (i := [c]) (j := [])
  simpa using this
theorem rounds (j : Nat) (ns : List Int) : ∃ x y z, (prog G (j + 2)).1 27 [.scr (ns.map D.int), .int 1] [] = .ok (.lst [.ref 0]) (sd x y z) := by
  rw [fn27]
  unfold s33
  cases ns with
  | nil =>
    obtain ⟨x, y, z, h⟩ := dice j 0
    refine ⟨x, y, z, ?_⟩
    simp only [runN, sSeq, sIf, sRet, sRetN, sExpr, sAsg, sRaise, sPass, sAug, sPar, putAll, tName, tTup, tAll, goOn, R.out, R.bind_ok, R.bind_exc, R.bind_bad, R.of, R.nx, mC, mVar, m1, m2, mB, mT, mNot, mAnd, mOr, mIf, bNot, bAnd, bOr, bIf, truthR, truth, mTup, mkT, mLst, mkL, aNil, aCons, mCall, mB1, opBin, ipOp, ipAdd, ipMul, opAdd, opSub, opMul, opFdiv, opMod, unNeg, opC, opCmp, op_eq_int, op_in2, op_inl2, mChain, bYes, wVal, wRng, wOf, wR, wipeE, big, List.map_cons, List.map_nil, List.length_cons, List.length_nil, List.replicate, List.cons_append, List.nil_append, List.getElem?_cons_zero, List.getElem?_cons_succ, List.set_cons_zero, List.set_cons_succ, if_true, if_false, decide_true, decide_false, Bool.not_true, Bool.not_false, Bool.true_and, Bool.and_true, Bool.false_and, Bool.and_false, Bool.or_false, Bool.false_or, Bool.true_or, Bool.or_true, Bool.xor_false, Bool.xor_true, Bool.false_xor, Bool.true_xor, Bool.false_eq_true, Bool.true_eq_false, ite_true, ite_false, line, Nat.reduceSub, Nat.reduceAdd, Int.reduceNeg, Int.reducePow, Int.reduceLT, Int.reduceLE, Int.reduceMul, Int.reduceAdd, Int.reduceSub, Int.reduceDiv, Int.reduceMod, Int.reduceEq, Nat.reduceLeDiff, Nat.reduceLT, Nat.reduceEqDiff, and_true, true_and, and_false, false_and, and_self, gt_iff_lt, ge_iff_le, mSl, oNone, oSome, opSl, cut0, eq_nil, mLc, lcS, lcF, lcT, h]
  | cons c r =>
    obtain ⟨x, y, z, h⟩ := dice j c
    refine ⟨x, y, z, ?_⟩
    have hc := cut1 c r
    rw [List.map_cons] at hc
    simp only [runN, sSeq, sIf, sRet, sRetN, sExpr, sAsg, sRaise, sPass, sAug, sPar, putAll, tName, tTup, tAll, goOn, R.out, R.bind_ok, R.bind_exc, R.bind_bad, R.of, R.nx, mC, mVar, m1, m2, mB, mT, mNot, mAnd, mOr, mIf, bNot, bAnd, bOr, bIf, truthR, truth, mTup, mkT, mLst, mkL, aNil, aCons, mCall, mB1, opBin, ipOp, ipAdd, ipMul, opAdd, opSub, opMul, opFdiv, opMod, unNeg, opC, opCmp, op_eq_int, op_in2, op_inl2, mChain, bYes, wVal, wRng, wOf, wR, wipeE, big, List.map_cons, List.map_nil, List.length_cons, List.length_nil, List.replicate, List.cons_append, List.nil_append, List.getElem?_cons_zero, List.getElem?_cons_succ, List.set_cons_zero, List.set_cons_succ, if_true, if_false, decide_true, decide_false, Bool.not_true, Bool.not_false, Bool.true_and, Bool.and_true, Bool.false_and, Bool.and_false, Bool.or_false, Bool.false_or, Bool.true_or, Bool.or_true, Bool.xor_false, Bool.xor_true, Bool.false_xor, Bool.true_xor, Bool.false_eq_true, Bool.true_eq_false, ite_true, ite_false, line, Nat.reduceSub, Nat.reduceAdd, Int.reduceNeg, Int.reducePow, Int.reduceLT, Int.reduceLE, Int.reduceMul, Int.reduceAdd, Int.reduceSub, Int.reduceDiv, Int.reduceMod, Int.reduceEq, Nat.reduceLeDiff, Nat.reduceLT, Nat.reduceEqDiff, and_true, true_and, and_false, false_and, and_self, gt_iff_lt, ge_iff_le, mSl, oNone, oSome, opSl, hc, eq_one, mLc, lcS, lcF, lcT, h]
end K01
end Z

set_option Elab.async false
set_option linter.all false
set_option maxRecDepth 100000
set_option maxHeartbeats 4000000
namespace Z
open PySem
namespace K01
-- 'one, other, carry, word = (_law_roll(dice, 256), _law_roll(dice, 256), _law_roll(dice, 2), _law_roll(dice, 65536))'
def lb0 (F : Nat → FM) : MS := (sAsg (tTup [(tName 2), (tName 3), (tName 4), (tName 5)]) (mTup (aCons (mCall 2 (F 26) (aCons (mVar 1) (aCons (mC (.int 256)) aNil))) (aCons (mCall 2 (F 26) (aCons (mVar 1) (aCons (mC (.int 256)) aNil))) (aCons (mCall 2 (F 26) (aCons (mVar 1) (aCons (mC (.int 2)) aNil))) (aCons (mCall 2 (F 26) (aCons (mVar 1) (aCons (mC (.int 65536)) aNil))) aNil))))))
-- 'whole, signed = (one + other + carry, _law_signed(one) + _law_signed(other) + carry)'
def lb1 (F : Nat → FM) : MS := (sPar [6, 7] (aCons (m2 (opBin false .Add) (m2 (opBin false .Add) (mVar 2) (mVar 3)) (mVar 4)) (aCons (m2 (opBin false .Add) (m2 (opBin false .Add) (mCall 1 (F 29) (aCons (mVar 2) aNil)) (mCall 1 (F 29) (aCons (mVar 3) aNil))) (mVar 4)) aNil)))
-- 'if added(one, other, carry) != (whole % 256, whole // 256, signed > 127 or signed < -128):\n    return False'
def lb2 (F : Nat → FM) : MS := (sIf (mB (m2 (opC .NotEq) (mCall 3 (F 2) (aCons (mVar 2) (aCons (mVar 3) (aCons (mVar 4) aNil)))) (mTup (aCons (m2 (opBin false .Mod) (mVar 6) (mC (.int 256))) (aCons (m2 (opBin false .FloorDiv) (mVar 6) (mC (.int 256))) (aCons (mOr (m2 (opC .Gt) (mVar 7) (mC (.int 127))) (m2 (opC .Lt) (mVar 7) (m1 unNeg (mC (.int 128))))) aNil)))))) (sSeq (sRet (mC (.bl false))) sPass) sPass)
-- 'less, signed = (one - other - carry, _law_signed(one) - _law_signed(other) - carry)'
def lb3 (F : Nat → FM) : MS := (sPar [8, 7] (aCons (m2 (opBin false .Sub) (m2 (opBin false .Sub) (mVar 2) (mVar 3)) (mVar 4)) (aCons (m2 (opBin false .Sub) (m2 (opBin false .Sub) (mCall 1 (F 29) (aCons (mVar 2) aNil)) (mCall 1 (F 29) (aCons (mVar 3) aNil))) (mVar 4)) aNil)))
-- 'if taken(one, other, carry) != (less % 256, int(less < 0), signed > 127 or signed < -128):\n    return False'
def lb4 (F : Nat → FM) : MS := (sIf (mB (m2 (opC .NotEq) (mCall 3 (F 3) (aCons (mVar 2) (aCons (mVar 3) (aCons (mVar 4) aNil)))) (mTup (aCons (m2 (opBin false .Mod) (mVar 8) (mC (.int 256))) (aCons (mB1 bInt (aCons (m2 (opC .Lt) (mVar 8) (mC (.int 0))) aNil)) (aCons (mOr (m2 (opC .Gt) (mVar 7) (mC (.int 127))) (m2 (opC .Lt) (mVar 7) (m1 unNeg (mC (.int 128))))) aNil)))))) (sSeq (sRet (mC (.bl false))) sPass) sPass)
-- 'byte, out, far = added(one, other, carry)'
def lb5 (F : Nat → FM) : MS := (sAsg (tTup [(tName 9), (tName 10), (tName 11)]) (mCall 3 (F 2) (aCons (mVar 2) (aCons (mVar 3) (aCons (mVar 4) aNil)))))
-- 'back, borrow, far = taken(byte, other, carry)'
def lb6 (F : Nat → FM) : MS := (sAsg (tTup [(tName 12), (tName 13), (tName 11)]) (mCall 3 (F 3) (aCons (mVar 9) (aCons (mVar 3) (aCons (mVar 4) aNil)))))
-- 'if back != one or borrow != out or signed_of(one, 8) != _law_signed(one) or (plain_of(_law_signed(one), 8) != one):\n    return False'
def lb7 (F : Nat → FM) : MS := (sIf (bOr (mB (m2 (opC .NotEq) (mVar 12) (mVar 2))) (bOr (mB (m2 (opC .NotEq) (mVar 13) (mVar 10))) (bOr (mB (m2 (opC .NotEq) (mCall 2 (F 6) (aCons (mVar 2) (aCons (mC (.int 8)) aNil))) (mCall 1 (F 29) (aCons (mVar 2) aNil)))) (mB (m2 (opC .NotEq) (mCall 2 (F 7) (aCons (mCall 1 (F 29) (aCons (mVar 2) aNil)) (aCons (mC (.int 8)) aNil))) (mVar 2)))))) (sSeq (sRet (mC (.bl false))) sPass) sPass)
-- 'if rolled_left(one, carry) != ((2 * one + carry) % 256, one // 128) or rolled_right(one, carry) != ((one + 256 * carry) // 2, one % 2):\n    return Fal'
def lb8 (F : Nat → FM) : MS := (sIf (bOr (mB (m2 (opC .NotEq) (mCall 2 (F 10) (aCons (mVar 2) (aCons (mVar 4) aNil))) (mTup (aCons (m2 (opBin false .Mod) (m2 (opBin false .Add) (m2 (opBin false .Mult) (mC (.int 2)) (mVar 2)) (mVar 4)) (mC (.int 256))) (aCons (m2 (opBin false .FloorDiv) (mVar 2) (mC (.int 128))) aNil))))) (mB (m2 (opC .NotEq) (mCall 2 (F 11) (aCons (mVar 2) (aCons (mVar 4) aNil))) (mTup (aCons (m2 (opBin false .FloorDiv) (m2 (opBin false .Add) (mVar 2) (m2 (opBin false .Mult) (mC (.int 256)) (mVar 4))) (mC (.int 2))) (aCons (m2 (opBin false .Mod) (mVar 2) (mC (.int 2))) aNil)))))) (sSeq (sRet (mC (.bl false))) sPass) sPass)
-- 'up, out = rolled_left(one, carry)'
def lb9 (F : Nat → FM) : MS := (sAsg (tTup [(tName 14), (tName 10)]) (mCall 2 (F 10) (aCons (mVar 2) (aCons (mVar 4) aNil))))
-- 'if rolled_right(up, out) != (one, carry) or halves_of(word) != (word // 256, word % 256) or joined(word // 256, word % 256) != word:\n    return False'
def lb10 (F : Nat → FM) : MS := (sIf (bOr (mB (m2 (opC .NotEq) (mCall 2 (F 11) (aCons (mVar 14) (aCons (mVar 10) aNil))) (mTup (aCons (mVar 2) (aCons (mVar 4) aNil))))) (bOr (mB (m2 (opC .NotEq) (mCall 1 (F 12) (aCons (mVar 5) aNil)) (mTup (aCons (m2 (opBin false .FloorDiv) (mVar 5) (mC (.int 256))) (aCons (m2 (opBin false .Mod) (mVar 5) (mC (.int 256))) aNil))))) (mB (m2 (opC .NotEq) (mCall 2 (F 13) (aCons (m2 (opBin false .FloorDiv) (mVar 5) (mC (.int 256))) (aCons (m2 (opBin false .Mod) (mVar 5) (mC (.int 256))) aNil))) (mVar 5))))) (sSeq (sRet (mC (.bl false))) sPass) sPass)
-- 'bits = 1 + _law_roll(dice, 16)'
def lb11 (F : Nat → FM) : MS := (sAsg (tName 15) (m2 (opBin false .Add) (mC (.int 1)) (mCall 2 (F 26) (aCons (mVar 1) (aCons (mC (.int 16)) aNil)))))
-- 'number = word % power_of(bits)'
def lb12 (F : Nat → FM) : MS := (sAsg (tName 16) (m2 (opBin false .Mod) (mVar 5) (mCall 1 (F 5) (aCons (mVar 15) aNil))))
-- 'row = list(bits_of(number, bits))'
def lb13 (F : Nat → FM) : MS := (sAsg (tName 17) (mB1 (bList false) (aCons (mCall 2 (F 8) (aCons (mVar 16) (aCons (mVar 15) aNil))) aNil)))
-- 'if len(row) != bits or sum([bit * power_of(bits - 1 - k) for k, bit in enumerate(row)]) != number or from_bits(row) != number or (ones_in(number, bits'
def lb14 (F : Nat → FM) : MS := (sIf (bOr (mB (m2 (opC .NotEq) (mB1 bLen (aCons (mVar 17) aNil)) (mVar 15))) (bOr (mB (m2 (opC .NotEq) (mB1 bSum (aCons (mLc false [18, 19] (tTup [(tName 18), (tName 19)]) (wEnuC (mVar 17)) bYes (m2 (opBin false .Mult) (mVar 19) (mCall 1 (F 5) (aCons (m2 (opBin false .Sub) (m2 (opBin false .Sub) (mVar 15) (mC (.int 1))) (mVar 18)) aNil)))) aNil)) (mVar 16))) (bOr (mB (m2 (opC .NotEq) (mCall 1 (F 9) (aCons (mVar 17) aNil)) (mVar 16))) (mB (m2 (opC .NotEq) (mCall 2 (F 15) (aCons (mVar 16) (aCons (mVar 15) aNil))) (mB1 bSum (aCons (mVar 17) aNil))))))) (sSeq (sRet (mC (.bl false))) sPass) sPass)
-- 'if power_of(bits) != 2 * power_of(bits - 1) or [bit for bit in row if bit not in [0, 1]] != [] or list(bits_of(turned_round(one), 8)) != list(bits_of('
def lb15 (F : Nat → FM) : MS := (sIf (bOr (mB (m2 (opC .NotEq) (mCall 1 (F 5) (aCons (mVar 15) aNil)) (m2 (opBin false .Mult) (mC (.int 2)) (mCall 1 (F 5) (aCons (m2 (opBin false .Sub) (mVar 15) (mC (.int 1))) aNil))))) (bOr (mB (m2 (opC .NotEq) (mLc false [19] (tName 19) (wVal (mVar 17)) (mB (m2 (opC .NotIn) (mVar 19) (mLst false (aCons (mC (.int 0)) (aCons (mC (.int 1)) aNil))))) (mVar 19)) (mLst false aNil))) (mB (m2 (opC .NotEq) (mB1 (bList false) (aCons (mCall 2 (F 8) (aCons (mCall 1 (F 14) (aCons (mVar 2) aNil)) (aCons (mC (.int 8)) aNil))) aNil)) (m1 (opRev false) (mB1 (bList false) (aCons (mCall 2 (F 8) (aCons (mVar 2) (aCons (mC (.int 8)) aNil))) aNil))))))) (sSeq (sRet (mC (.bl false))) sPass) sPass)
-- 'half = power_of(bits - 1)'
def lb16 (F : Nat → FM) : MS := (sAsg (tName 20) (mCall 1 (F 5) (aCons (m2 (opBin false .Sub) (mVar 15) (mC (.int 1))) aNil)))
-- 'if signed_of(number, bits) != (number - 2 * half if number >= half else number) or plain_of(signed_of(number, bits), bits) != number:\n    return False'
def lb17 (F : Nat → FM) : MS := (sIf (bOr (mB (m2 (opC .NotEq) (mCall 2 (F 6) (aCons (mVar 16) (aCons (mVar 15) aNil))) (mIf (mB (m2 (opC .GtE) (mVar 16) (mVar 20))) (m2 (opBin false .Sub) (mVar 16) (m2 (opBin false .Mult) (mC (.int 2)) (mVar 20))) (mVar 16)))) (mB (m2 (opC .NotEq) (mCall 2 (F 7) (aCons (mCall 2 (F 6) (aCons (mVar 16) (aCons (mVar 15) aNil))) (aCons (mVar 15) aNil))) (mVar 16)))) (sSeq (sRet (mC (.bl false))) sPass) sPass)
-- 'mine, theirs = (one % 100, other % 100)'
def lb18 (F : Nat → FM) : MS := (sPar [21, 22] (aCons (m2 (opBin false .Mod) (mVar 2) (mC (.int 100))) (aCons (m2 (opBin false .Mod) (mVar 3) (mC (.int 100))) aNil)))
-- 'if from_tens(tens_byte(mine)) != mine or tens_byte(mine) != mine // 10 * 16 + mine % 10 or tens_added(tens_byte(mine), tens_byte(theirs), carry) != (t'
def lb19 (F : Nat → FM) : MS := (sIf (bOr (mB (m2 (opC .NotEq) (mCall 1 (F 17) (aCons (mCall 1 (F 16) (aCons (mVar 21) aNil)) aNil)) (mVar 21))) (bOr (mB (m2 (opC .NotEq) (mCall 1 (F 16) (aCons (mVar 21) aNil)) (m2 (opBin false .Add) (m2 (opBin false .Mult) (m2 (opBin false .FloorDiv) (mVar 21) (mC (.int 10))) (mC (.int 16))) (m2 (opBin false .Mod) (mVar 21) (mC (.int 10)))))) (mB (m2 (opC .NotEq) (mCall 3 (F 18) (aCons (mCall 1 (F 16) (aCons (mVar 21) aNil)) (aCons (mCall 1 (F 16) (aCons (mVar 22) aNil)) (aCons (mVar 4) aNil)))) (mTup (aCons (mCall 1 (F 16) (aCons (m2 (opBin false .Mod) (m2 (opBin false .Add) (m2 (opBin false .Add) (mVar 21) (mVar 22)) (mVar 4)) (mC (.int 100))) aNil)) (aCons (m2 (opBin false .FloorDiv) (m2 (opBin false .Add) (m2 (opBin false .Add) (mVar 21) (mVar 22)) (mVar 4)) (mC (.int 100))) aNil))))))) (sSeq (sRet (mC (.bl false))) sPass) sPass)
-- 'if times_by_bits(one, other) != one * other or (other > 0 and parted_by_bits(word, other) != (word // other, word % other)):\n    return False'
def lb20 (F : Nat → FM) : MS := (sIf (bOr (mB (m2 (opC .NotEq) (mCall 2 (F 19) (aCons (mVar 2) (aCons (mVar 3) aNil))) (m2 (opBin false .Mult) (mVar 2) (mVar 3)))) (bAnd (mB (m2 (opC .Gt) (mVar 3) (mC (.int 0)))) (mB (m2 (opC .NotEq) (mCall 2 (F 20) (aCons (mVar 5) (aCons (mVar 3) aNil))) (mTup (aCons (m2 (opBin false .FloorDiv) (mVar 5) (mVar 3)) (aCons (m2 (opBin false .Mod) (mVar 5) (mVar 3)) aNil))))))) (sSeq (sRet (mC (.bl false))) sPass) sPass)
-- 'many = 4 + _law_roll(dice, 3)'
def lb21 (F : Nat → FM) : MS := (sAsg (tName 23) (m2 (opBin false .Add) (mC (.int 4)) (mCall 2 (F 26) (aCons (mVar 1) (aCons (mC (.int 3)) aNil)))))
-- 'text = told_sixteens(word, many)'
def lb22 (F : Nat → FM) : MS := (sAsg (tName 24) (mCall 2 (F 21) (aCons (mVar 5) (aCons (mVar 23) aNil))))
-- 'if len(text) != many or sum([FIGURES.index(sign) * power_of(4 * (many - 1 - k)) for k, sign in enumerate(text)]) != word or read_sixteens(text) != wor'
def lb23 (F : Nat → FM) : MS := (sIf (bOr (mB (m2 (opC .NotEq) (mB1 bLen (aCons (mVar 24) aNil)) (mVar 23))) (bOr (mB (m2 (opC .NotEq) (mB1 bSum (aCons (mLc false [18, 25] (tTup [(tName 18), (tName 25)]) (wEnuC (mVar 24)) bYes (m2 (opBin false .Mult) (mMt .str mtIndex (mC (.str "0123456789abcdef")) (aCons (mVar 25) aNil)) (mCall 1 (F 5) (aCons (m2 (opBin false .Mult) (mC (.int 4)) (m2 (opBin false .Sub) (m2 (opBin false .Sub) (mVar 23) (mC (.int 1))) (mVar 18))) aNil)))) aNil)) (mVar 5))) (mB (m2 (opC .NotEq) (mCall 1 (F 22) (aCons (mVar 24) aNil)) (mVar 5))))) (sSeq (sRet (mC (.bl false))) sPass) sPass)
-- 'row, first, second = ([_law_roll(dice, 256) for k in range(_law_roll(dice, 9))], 0, 0)'
def lb24 (F : Nat → FM) : MS := (sPar [17, 26, 27] (aCons (mLc false [18] (tName 18) (wRng (aCons (mCall 2 (F 26) (aCons (mVar 1) (aCons (mC (.int 9)) aNil))) aNil)) bYes (mCall 2 (F 26) (aCons (mVar 1) (aCons (mC (.int 256)) aNil)))) (aCons (mC (.int 0)) (aCons (mC (.int 0)) aNil))))
-- 'for number in row:\n    first, second = (first + number, second + first + number)'
def lb25 (F : Nat → FM) : MS := (sForW (tName 16) (wVal (mVar 17)) (sSeq (sPar [26, 27] (aCons (m2 (opBin false .Add) (mVar 26) (mVar 16)) (aCons (m2 (opBin false .Add) (m2 (opBin false .Add) (mVar 27) (mVar 26)) (mVar 16)) aNil))) sPass))
-- 'if check_sums(row) != (first % 255, second % 255):\n    return False'
def lb26 (F : Nat → FM) : MS := (sIf (mB (m2 (opC .NotEq) (mCall 1 (F 23) (aCons (mVar 17) aNil)) (mTup (aCons (m2 (opBin false .Mod) (mVar 26) (mC (.int 255))) (aCons (m2 (opBin false .Mod) (mVar 27) (mC (.int 255))) aNil))))) (sSeq (sRet (mC (.bl false))) sPass) sPass)
-- 'noise = 1 + word % 32767'
def lb27 (F : Nat → FM) : MS := (sAsg (tName 28) (m2 (opBin false .Add) (mC (.int 1)) (m2 (opBin false .Mod) (mVar 5) (mC (.int 32767)))))
-- 'bit = int(noise % 2 != noise // 2 % 2)'
def lb28 (F : Nat → FM) : MS := (sAsg (tName 19) (mB1 bInt (aCons (m2 (opC .NotEq) (m2 (opBin false .Mod) (mVar 28) (mC (.int 2))) (m2 (opBin false .Mod) (m2 (opBin false .FloorDiv) (mVar 28) (mC (.int 2))) (mC (.int 2)))) aNil)))
-- 'if step_noise(noise) != (noise // 2 + 16384 * bit, noise % 2):\n    return False'
def lb29 (F : Nat → FM) : MS := (sIf (mB (m2 (opC .NotEq) (mCall 1 (F 24) (aCons (mVar 28) aNil)) (mTup (aCons (m2 (opBin false .Add) (m2 (opBin false .FloorDiv) (mVar 28) (mC (.int 2))) (m2 (opBin false .Mult) (mC (.int 16384)) (mVar 19))) (aCons (m2 (opBin false .Mod) (mVar 28) (mC (.int 2))) aNil))))) (sSeq (sRet (mC (.bl false))) sPass) sPass)
def lawBody (F : Nat → FM) : MS := (sSeq (lb0 F) (sSeq (lb1 F) (sSeq (lb2 F) (sSeq (lb3 F) (sSeq (lb4 F) (sSeq (lb5 F) (sSeq (lb6 F) (sSeq (lb7 F) (sSeq (lb8 F) (sSeq (lb9 F) (sSeq (lb10 F) (sSeq (lb11 F) (sSeq (lb12 F) (sSeq (lb13 F) (sSeq (lb14 F) (sSeq (lb15 F) (sSeq (lb16 F) (sSeq (lb17 F) (sSeq (lb18 F) (sSeq (lb19 F) (sSeq (lb20 F) (sSeq (lb21 F) (sSeq (lb22 F) (sSeq (lb23 F) (sSeq (lb24 F) (sSeq (lb25 F) (sSeq (lb26 F) (sSeq (lb27 F) (sSeq (lb28 F) (sSeq (lb29 F) sPass))))))))))))))))))))))))))))))
theorem law_split (F : Nat → FM) : s38 F = sSeq (sForW (tName 1) (wVal (mCall 2 (F 27) (aCons (mVar 0) (aCons (mC (.int 1)) aNil)))) (lawBody F)) (sSeq (sRet (mCall 0 (F 31) aNil)) sPass) := rfl
-- slots [(0, 'script'), (1, 'dice'), (2, 'one'), (3, 'other'), (4, 'carry'), (5, 'word'), (6, 'whole'), (7, 'signed'), (8, 'less'), (9, 'byte'), (10, 'out'), (11, 'far'), (12, 'back'), (13, 'borrow'), (14, 'up'), (15, 'bits'), (16, 'number'), (17, 'row'), (18, 'k'), (19, 'bit'), (20, 'half'), (21, 'mine'), (22, 'theirs'), (23, 'many'), (24, 'text'), (25, 'sign'), (26, 'first'), (27, 'second'), (28, 'noise')]
end K01
end Z

set_option Elab.async false
set_option linter.all false
set_option maxRecDepth 100000
set_option maxHeartbeats 4000000
namespace Z
open PySem
namespace K01
theorem eq_t3 {n : Bool} {a b a' b' : Int} {c c' : Bool} {s : Sto} (h1 : a = a') (h2 : b = b') (h3 : c = c') : opEq n (.tup [.int a, .int b, .bl c]) (.tup [.int a', .int b', .bl c']) s = some (.bl (xor n true), s) := by
  subst h1 h2 h3
  unfold opEq
  show some (D.bl (xor n (PyData.eqv (.tuple [.int a, .int b, .bool c]) (.tuple [.int a, .int b, .bool c]))), s) = _
  rw [eqv_tup, eqvA_cons, eqvA_cons, eqvA_cons, eqvA_nil, eqv_int, eqv_int, eqv_bl]
  simp
theorem eq_t2 {n : Bool} {a b a' b' : Int} {s : Sto} (h1 : a = a') (h2 : b = b') : opEq n (.tup [.int a, .int b]) (.tup [.int a', .int b']) s = some (.bl (xor n true), s) := by
  subst h1 h2
  unfold opEq
  show some (D.bl (xor n (PyData.eqv (.tuple [.int a, .int b]) (.tuple [.int a, .int b]))), s) = _
  rw [eqv_tup, eqvA_cons, eqvA_cons, eqvA_nil, eqv_int, eqv_int]
  simp
variable {a0 a6 a7 a8 a9 a10 a11 a12 a13 a14 a15 a16 a17 a18 a19 a20 a21 a22 a23 a24 a25 a26 a27 a28 : Option D}
theorem l0 (j : Nat) (x y z : Int) {a2 a3 a4 a5 : Option D} : ∃ a b c w x' y' z' : Int, (0 ≤ a ∧ a ≤ 255) ∧ (0 ≤ b ∧ b ≤ 255) ∧ (c = 0 ∨ c = 1) ∧ (0 ≤ w ∧ w ≤ 65535) ∧
    lb0 (prog G (j + 1)).1 [a0, some (.ref 0), a2, a3, a4, a5, a6, a7, a8, a9, a10, a11, a12, a13, a14, a15, a16, a17, a18, a19, a20, a21, a22, a23, a24, a25, a26, a27, a28] (sd x y z) = .nx [a0, some (.ref 0), some (.int a), some (.int b), some (.int c), some (.int w), a6, a7, a8, a9, a10, a11, a12, a13, a14, a15, a16, a17, a18, a19, a20, a21, a22, a23, a24, a25, a26, a27, a28] (sd x' y' z') := by
  obtain ⟨a, x1, y1, z1, ha0, ha1, e1⟩ := roll j x y z (m := 256) (by decide) (by decide)
  obtain ⟨b, x2, y2, z2, hb0, hb1, e2⟩ := roll j x1 y1 z1 (m := 256) (by decide) (by decide)
  obtain ⟨c, x3, y3, z3, hc0, hc1, e3⟩ := roll j x2 y2 z2 (m := 2) (by decide) (by decide)
  obtain ⟨w, x4, y4, z4, hw0, hw1, e4⟩ := roll j x3 y3 z3 (m := 65536) (by decide) (by decide)
  refine ⟨a, b, c, w, x4, y4, z4, ⟨ha0, by omega⟩, ⟨hb0, by omega⟩, by omega, ⟨hw0, by omega⟩, ?_⟩
  unfold lb0
  simp only [runN, sSeq, sIf, sRet, sRetN, sExpr, sAsg, sRaise, sPass, sAug, sPar, putAll, tName, tTup, tAll, goOn, R.out, R.bind_ok, R.bind_exc, R.bind_bad, R.of, R.nx, mC, mVar, m1, m2, mB, mT, mNot, mAnd, mOr, mIf, bNot, bAnd, bOr, bIf, truthR, truth, mTup, mkT, mLst, mkL, aNil, aCons, mCall, mB1, opBin, ipOp, ipAdd, ipMul, opAdd, opSub, opMul, opFdiv, opMod, unNeg, opC, opCmp, op_eq_int, op_in2, op_inl2, mChain, bYes, wVal, wRng, wOf, wR, wipeE, big, List.map_cons, List.map_nil, List.length_cons, List.length_nil, List.replicate, List.cons_append, List.nil_append, List.getElem?_cons_zero, List.getElem?_cons_succ, List.set_cons_zero, List.set_cons_succ, if_true, if_false, decide_true, decide_false, Bool.not_true, Bool.not_false, Bool.true_and, Bool.and_true, Bool.false_and, Bool.and_false, Bool.or_false, Bool.false_or, Bool.true_or, Bool.or_true, Bool.xor_false, Bool.xor_true, Bool.false_xor, Bool.true_xor, Bool.false_eq_true, Bool.true_eq_false, ite_true, ite_false, line, Nat.reduceSub, Nat.reduceAdd, Int.reduceNeg, Int.reducePow, Int.reduceLT, Int.reduceLE, Int.reduceMul, Int.reduceAdd, Int.reduceSub, Int.reduceDiv, Int.reduceMod, Int.reduceEq, Nat.reduceLeDiff, Nat.reduceLT, Nat.reduceEqDiff, and_true, true_and, and_false, false_and, and_self, gt_iff_lt, ge_iff_le, e1, e2, e3, e4]
section
variable {a b c w : Int} {s : Sto} (ha : 0 ≤ a ∧ a ≤ 255) (hb : 0 ≤ b ∧ b ≤ 255) (hc : c = 0 ∨ c = 1) (hw : 0 ≤ w ∧ w ≤ 65535)
theorem l1 (j : Nat) : lb1 (prog G (j + 1)).1 [a0, some (.ref 0), some (.int a), some (.int b), some (.int c), some (.int w), a6, a7, a8, a9, a10, a11, a12, a13, a14, a15, a16, a17, a18, a19, a20, a21, a22, a23, a24, a25, a26, a27, a28] s = .nx [a0, some (.ref 0), some (.int a), some (.int b), some (.int c), some (.int w), some (.int (a + b + c)), some (.int (sg a + sg b + c)), a8, a9, a10, a11, a12, a13, a14, a15, a16, a17, a18, a19, a20, a21, a22, a23, a24, a25, a26, a27, a28] s := by
  unfold lb1
  simp only [runN, sSeq, sIf, sRet, sRetN, sExpr, sAsg, sRaise, sPass, sAug, sPar, putAll, tName, tTup, tAll, goOn, R.out, R.bind_ok, R.bind_exc, R.bind_bad, R.of, R.nx, mC, mVar, m1, m2, mB, mT, mNot, mAnd, mOr, mIf, bNot, bAnd, bOr, bIf, truthR, truth, mTup, mkT, mLst, mkL, aNil, aCons, mCall, mB1, opBin, ipOp, ipAdd, ipMul, opAdd, opSub, opMul, opFdiv, opMod, unNeg, opC, opCmp, op_eq_int, op_in2, op_inl2, mChain, bYes, wVal, wRng, wOf, wR, wipeE, big, List.map_cons, List.map_nil, List.length_cons, List.length_nil, List.replicate, List.cons_append, List.nil_append, List.getElem?_cons_zero, List.getElem?_cons_succ, List.set_cons_zero, List.set_cons_succ, if_true, if_false, decide_true, decide_false, Bool.not_true, Bool.not_false, Bool.true_and, Bool.and_true, Bool.false_and, Bool.and_false, Bool.or_false, Bool.false_or, Bool.true_or, Bool.or_true, Bool.xor_false, Bool.xor_true, Bool.false_xor, Bool.true_xor, Bool.false_eq_true, Bool.true_eq_false, ite_true, ite_false, line, Nat.reduceSub, Nat.reduceAdd, Int.reduceNeg, Int.reducePow, Int.reduceLT, Int.reduceLE, Int.reduceMul, Int.reduceAdd, Int.reduceSub, Int.reduceDiv, Int.reduceMod, Int.reduceEq, Nat.reduceLeDiff, Nat.reduceLT, Nat.reduceEqDiff, and_true, true_and, and_false, false_and, and_self, gt_iff_lt, ge_iff_le, law_signed j _]
include ha hb hc in
theorem l2 (j : Nat) : lb2 (prog G (j + 4)).1 [a0, some (.ref 0), some (.int a), some (.int b), some (.int c), some (.int w), some (.int (a + b + c)), some (.int (sg a + sg b + c)), a8, a9, a10, a11, a12, a13, a14, a15, a16, a17, a18, a19, a20, a21, a22, a23, a24, a25, a26, a27, a28] s = .nx [a0, some (.ref 0), some (.int a), some (.int b), some (.int c), some (.int w), some (.int (a + b + c)), some (.int (sg a + sg b + c)), a8, a9, a10, a11, a12, a13, a14, a15, a16, a17, a18, a19, a20, a21, a22, a23, a24, a25, a26, a27, a28] s := by
  unfold lb2
  have q := added j ha.1 ha.2 hb.1 hb.2 hc
  generalize hS : sg a + sg b + c = S at q ⊢
  have q := q s
  by_cases h1 : 127 < S
  · have e := eq_t3 (n := true) (s := s) (a := (a + b + c) % 256) (b := (a + b + c) / 256) (c := !decide (-128 ≤ S ∧ S ≤ 127)) (c' := true) rfl rfl (by simp; omega)
    simp only [runN, sSeq, sIf, sRet, sRetN, sExpr, sAsg, sRaise, sPass, sAug, sPar, putAll, tName, tTup, tAll, goOn, R.out, R.bind_ok, R.bind_exc, R.bind_bad, R.of, R.nx, mC, mVar, m1, m2, mB, mT, mNot, mAnd, mOr, mIf, bNot, bAnd, bOr, bIf, truthR, truth, mTup, mkT, mLst, mkL, aNil, aCons, mCall, mB1, opBin, ipOp, ipAdd, ipMul, opAdd, opSub, opMul, opFdiv, opMod, unNeg, opC, opCmp, op_eq_int, op_in2, op_inl2, mChain, bYes, wVal, wRng, wOf, wR, wipeE, big, List.map_cons, List.map_nil, List.length_cons, List.length_nil, List.replicate, List.cons_append, List.nil_append, List.getElem?_cons_zero, List.getElem?_cons_succ, List.set_cons_zero, List.set_cons_succ, if_true, if_false, decide_true, decide_false, Bool.not_true, Bool.not_false, Bool.true_and, Bool.and_true, Bool.false_and, Bool.and_false, Bool.or_false, Bool.false_or, Bool.true_or, Bool.or_true, Bool.xor_false, Bool.xor_true, Bool.false_xor, Bool.true_xor, Bool.false_eq_true, Bool.true_eq_false, ite_true, ite_false, line, Nat.reduceSub, Nat.reduceAdd, Int.reduceNeg, Int.reducePow, Int.reduceLT, Int.reduceLE, Int.reduceMul, Int.reduceAdd, Int.reduceSub, Int.reduceDiv, Int.reduceMod, Int.reduceEq, Nat.reduceLeDiff, Nat.reduceLT, Nat.reduceEqDiff, and_true, true_and, and_false, false_and, and_self, gt_iff_lt, ge_iff_le, q, h1, e]
  · by_cases h2 : S < -128
    · have e := eq_t3 (n := true) (s := s) (a := (a + b + c) % 256) (b := (a + b + c) / 256) (c := !decide (-128 ≤ S ∧ S ≤ 127)) (c' := true) rfl rfl (by simp; omega)
      simp only [runN, sSeq, sIf, sRet, sRetN, sExpr, sAsg, sRaise, sPass, sAug, sPar, putAll, tName, tTup, tAll, goOn, R.out, R.bind_ok, R.bind_exc, R.bind_bad, R.of, R.nx, mC, mVar, m1, m2, mB, mT, mNot, mAnd, mOr, mIf, bNot, bAnd, bOr, bIf, truthR, truth, mTup, mkT, mLst, mkL, aNil, aCons, mCall, mB1, opBin, ipOp, ipAdd, ipMul, opAdd, opSub, opMul, opFdiv, opMod, unNeg, opC, opCmp, op_eq_int, op_in2, op_inl2, mChain, bYes, wVal, wRng, wOf, wR, wipeE, big, List.map_cons, List.map_nil, List.length_cons, List.length_nil, List.replicate, List.cons_append, List.nil_append, List.getElem?_cons_zero, List.getElem?_cons_succ, List.set_cons_zero, List.set_cons_succ, if_true, if_false, decide_true, decide_false, Bool.not_true, Bool.not_false, Bool.true_and, Bool.and_true, Bool.false_and, Bool.and_false, Bool.or_false, Bool.false_or, Bool.true_or, Bool.or_true, Bool.xor_false, Bool.xor_true, Bool.false_xor, Bool.true_xor, Bool.false_eq_true, Bool.true_eq_false, ite_true, ite_false, line, Nat.reduceSub, Nat.reduceAdd, Int.reduceNeg, Int.reducePow, Int.reduceLT, Int.reduceLE, Int.reduceMul, Int.reduceAdd, Int.reduceSub, Int.reduceDiv, Int.reduceMod, Int.reduceEq, Nat.reduceLeDiff, Nat.reduceLT, Nat.reduceEqDiff, and_true, true_and, and_false, false_and, and_self, gt_iff_lt, ge_iff_le, q, h1, h2, e]
    · have e := eq_t3 (n := true) (s := s) (a := (a + b + c) % 256) (b := (a + b + c) / 256) (c := !decide (-128 ≤ S ∧ S ≤ 127)) (c' := false) rfl rfl (by simp; omega)
      simp only [runN, sSeq, sIf, sRet, sRetN, sExpr, sAsg, sRaise, sPass, sAug, sPar, putAll, tName, tTup, tAll, goOn, R.out, R.bind_ok, R.bind_exc, R.bind_bad, R.of, R.nx, mC, mVar, m1, m2, mB, mT, mNot, mAnd, mOr, mIf, bNot, bAnd, bOr, bIf, truthR, truth, mTup, mkT, mLst, mkL, aNil, aCons, mCall, mB1, opBin, ipOp, ipAdd, ipMul, opAdd, opSub, opMul, opFdiv, opMod, unNeg, opC, opCmp, op_eq_int, op_in2, op_inl2, mChain, bYes, wVal, wRng, wOf, wR, wipeE, big, List.map_cons, List.map_nil, List.length_cons, List.length_nil, List.replicate, List.cons_append, List.nil_append, List.getElem?_cons_zero, List.getElem?_cons_succ, List.set_cons_zero, List.set_cons_succ, if_true, if_false, decide_true, decide_false, Bool.not_true, Bool.not_false, Bool.true_and, Bool.and_true, Bool.false_and, Bool.and_false, Bool.or_false, Bool.false_or, Bool.true_or, Bool.or_true, Bool.xor_false, Bool.xor_true, Bool.false_xor, Bool.true_xor, Bool.false_eq_true, Bool.true_eq_false, ite_true, ite_false, line, Nat.reduceSub, Nat.reduceAdd, Int.reduceNeg, Int.reducePow, Int.reduceLT, Int.reduceLE, Int.reduceMul, Int.reduceAdd, Int.reduceSub, Int.reduceDiv, Int.reduceMod, Int.reduceEq, Nat.reduceLeDiff, Nat.reduceLT, Nat.reduceEqDiff, and_true, true_and, and_false, false_and, and_self, gt_iff_lt, ge_iff_le, q, h1, h2, e]
end
end K01
end Z

set_option Elab.async false
set_option linter.all false
set_option maxRecDepth 100000
set_option maxHeartbeats 4000000
namespace Z
open PySem
namespace K01
variable {a0 a6 a7 a8 a9 a10 a11 a12 a13 a14 a15 a16 a17 a18 a19 a20 a21 a22 a23 a24 a25 a26 a27 a28 : Option D}
variable {a b c w : Int} {s : Sto} (ha : 0 ≤ a ∧ a ≤ 255) (hb : 0 ≤ b ∧ b ≤ 255) (hc : c = 0 ∨ c = 1) (hw : 0 ≤ w ∧ w ≤ 65535)
theorem l3 (j : Nat) : lb3 (prog G (j + 1)).1 [a0, some (.ref 0), some (.int a), some (.int b), some (.int c), some (.int w), a6, a7, a8, a9, a10, a11, a12, a13, a14, a15, a16, a17, a18, a19, a20, a21, a22, a23, a24, a25, a26, a27, a28] s = .nx [a0, some (.ref 0), some (.int a), some (.int b), some (.int c), some (.int w), a6, some (.int (sg a - sg b - c)), some (.int (a - b - c)), a9, a10, a11, a12, a13, a14, a15, a16, a17, a18, a19, a20, a21, a22, a23, a24, a25, a26, a27, a28] s := by
  unfold lb3
  simp only [runN, sSeq, sIf, sRet, sRetN, sExpr, sAsg, sRaise, sPass, sAug, sPar, putAll, tName, tTup, tAll, goOn, R.out, R.bind_ok, R.bind_exc, R.bind_bad, R.of, R.nx, mC, mVar, m1, m2, mB, mT, mNot, mAnd, mOr, mIf, bNot, bAnd, bOr, bIf, truthR, truth, mTup, mkT, mLst, mkL, aNil, aCons, mCall, mB1, opBin, ipOp, ipAdd, ipMul, opAdd, opSub, opMul, opFdiv, opMod, unNeg, opC, opCmp, op_eq_int, op_in2, op_inl2, mChain, bYes, wVal, wRng, wOf, wR, wipeE, big, List.map_cons, List.map_nil, List.length_cons, List.length_nil, List.replicate, List.cons_append, List.nil_append, List.getElem?_cons_zero, List.getElem?_cons_succ, List.set_cons_zero, List.set_cons_succ, if_true, if_false, decide_true, decide_false, Bool.not_true, Bool.not_false, Bool.true_and, Bool.and_true, Bool.false_and, Bool.and_false, Bool.or_false, Bool.false_or, Bool.true_or, Bool.or_true, Bool.xor_false, Bool.xor_true, Bool.false_xor, Bool.true_xor, Bool.false_eq_true, Bool.true_eq_false, ite_true, ite_false, line, Nat.reduceSub, Nat.reduceAdd, Int.reduceNeg, Int.reducePow, Int.reduceLT, Int.reduceLE, Int.reduceMul, Int.reduceAdd, Int.reduceSub, Int.reduceDiv, Int.reduceMod, Int.reduceEq, Nat.reduceLeDiff, Nat.reduceLT, Nat.reduceEqDiff, and_true, true_and, and_false, false_and, and_self, gt_iff_lt, ge_iff_le, law_signed j _]

include ha hb hc in
theorem l4 (j : Nat) : lb4 (prog G (j + 4)).1 [a0, some (.ref 0), some (.int a), some (.int b), some (.int c), some (.int w), a6, some (.int (sg a - sg b - c)), some (.int (a - b - c)), a9, a10, a11, a12, a13, a14, a15, a16, a17, a18, a19, a20, a21, a22, a23, a24, a25, a26, a27, a28] s = .nx [a0, some (.ref 0), some (.int a), some (.int b), some (.int c), some (.int w), a6, some (.int (sg a - sg b - c)), some (.int (a - b - c)), a9, a10, a11, a12, a13, a14, a15, a16, a17, a18, a19, a20, a21, a22, a23, a24, a25, a26, a27, a28] s := by
  unfold lb4
  have q := taken j ha.1 ha.2 hb.1 hb.2 hc
  generalize hS : sg a - sg b - c = S at q ⊢
  have q := q s
  by_cases h0 : a - b - c < 0
  all_goals by_cases h1 : 127 < S
  all_goals by_cases h2 : S < -128
  all_goals have e := eq_t3 (n := true) (s := s) (a := (a - b - c) % 256) (b := if a - b - c < 0 then 1 else 0) (b' := if a - b - c < 0 then 1 else 0) (c := !decide (-128 ≤ S ∧ S ≤ 127)) (c' := decide (127 < S) || decide (S < -128)) rfl rfl (by by_cases z1 : 127 < S <;> by_cases z2 : S < -128 <;> simp [z1, z2] <;> omega)
  all_goals simp only [h0, h1, h2, if_true, if_false, decide_true, decide_false, Bool.or_true, Bool.true_or, Bool.or_false] at e q
  all_goals simp only [runN, sSeq, sIf, sRet, sRetN, sExpr, sAsg, sRaise, sPass, sAug, sPar, putAll, tName, tTup, tAll, goOn, R.out, R.bind_ok, R.bind_exc, R.bind_bad, R.of, R.nx, mC, mVar, m1, m2, mB, mT, mNot, mAnd, mOr, mIf, bNot, bAnd, bOr, bIf, truthR, truth, mTup, mkT, mLst, mkL, aNil, aCons, mCall, mB1, opBin, ipOp, ipAdd, ipMul, opAdd, opSub, opMul, opFdiv, opMod, unNeg, opC, opCmp, op_eq_int, op_in2, op_inl2, mChain, bYes, wVal, wRng, wOf, wR, wipeE, big, List.map_cons, List.map_nil, List.length_cons, List.length_nil, List.replicate, List.cons_append, List.nil_append, List.getElem?_cons_zero, List.getElem?_cons_succ, List.set_cons_zero, List.set_cons_succ, if_true, if_false, decide_true, decide_false, Bool.not_true, Bool.not_false, Bool.true_and, Bool.and_true, Bool.false_and, Bool.and_false, Bool.or_false, Bool.false_or, Bool.true_or, Bool.or_true, Bool.xor_false, Bool.xor_true, Bool.false_xor, Bool.true_xor, Bool.false_eq_true, Bool.true_eq_false, ite_true, ite_false, line, Nat.reduceSub, Nat.reduceAdd, Int.reduceNeg, Int.reducePow, Int.reduceLT, Int.reduceLE, Int.reduceMul, Int.reduceAdd, Int.reduceSub, Int.reduceDiv, Int.reduceMod, Int.reduceEq, Nat.reduceLeDiff, Nat.reduceLT, Nat.reduceEqDiff, and_true, true_and, and_false, false_and, and_self, gt_iff_lt, ge_iff_le, q, h0, h1, h2, bInt, e]

include ha hb hc in
theorem l5 (j : Nat) : lb5 (prog G (j + 4)).1 [a0, some (.ref 0), some (.int a), some (.int b), some (.int c), some (.int w), a6, a7, a8, a9, a10, a11, a12, a13, a14, a15, a16, a17, a18, a19, a20, a21, a22, a23, a24, a25, a26, a27, a28] s = .nx [a0, some (.ref 0), some (.int a), some (.int b), some (.int c), some (.int w), a6, a7, a8, some (.int ((a + b + c) % 256)), some (.int ((a + b + c) / 256)), some (.bl (!decide (-128 ≤ sg a + sg b + c ∧ sg a + sg b + c ≤ 127))), a12, a13, a14, a15, a16, a17, a18, a19, a20, a21, a22, a23, a24, a25, a26, a27, a28] s := by
  unfold lb5
  simp only [runN, sSeq, sIf, sRet, sRetN, sExpr, sAsg, sRaise, sPass, sAug, sPar, putAll, tName, tTup, tAll, goOn, R.out, R.bind_ok, R.bind_exc, R.bind_bad, R.of, R.nx, mC, mVar, m1, m2, mB, mT, mNot, mAnd, mOr, mIf, bNot, bAnd, bOr, bIf, truthR, truth, mTup, mkT, mLst, mkL, aNil, aCons, mCall, mB1, opBin, ipOp, ipAdd, ipMul, opAdd, opSub, opMul, opFdiv, opMod, unNeg, opC, opCmp, op_eq_int, op_in2, op_inl2, mChain, bYes, wVal, wRng, wOf, wR, wipeE, big, List.map_cons, List.map_nil, List.length_cons, List.length_nil, List.replicate, List.cons_append, List.nil_append, List.getElem?_cons_zero, List.getElem?_cons_succ, List.set_cons_zero, List.set_cons_succ, if_true, if_false, decide_true, decide_false, Bool.not_true, Bool.not_false, Bool.true_and, Bool.and_true, Bool.false_and, Bool.and_false, Bool.or_false, Bool.false_or, Bool.true_or, Bool.or_true, Bool.xor_false, Bool.xor_true, Bool.false_xor, Bool.true_xor, Bool.false_eq_true, Bool.true_eq_false, ite_true, ite_false, line, Nat.reduceSub, Nat.reduceAdd, Int.reduceNeg, Int.reducePow, Int.reduceLT, Int.reduceLE, Int.reduceMul, Int.reduceAdd, Int.reduceSub, Int.reduceDiv, Int.reduceMod, Int.reduceEq, Nat.reduceLeDiff, Nat.reduceLT, Nat.reduceEqDiff, and_true, true_and, and_false, false_and, and_self, gt_iff_lt, ge_iff_le, added j ha.1 ha.2 hb.1 hb.2 hc s]

include hb hc in
theorem l6 (j : Nat) : lb6 (prog G (j + 4)).1 [a0, some (.ref 0), some (.int a), some (.int b), some (.int c), some (.int w), a6, a7, a8, some (.int ((a + b + c) % 256)), some (.int ((a + b + c) / 256)), some (.bl (!decide (-128 ≤ sg a + sg b + c ∧ sg a + sg b + c ≤ 127))), a12, a13, a14, a15, a16, a17, a18, a19, a20, a21, a22, a23, a24, a25, a26, a27, a28] s = .nx [a0, some (.ref 0), some (.int a), some (.int b), some (.int c), some (.int w), a6, a7, a8, some (.int ((a + b + c) % 256)), some (.int ((a + b + c) / 256)), some (.bl (!decide (-128 ≤ sg ((a + b + c) % 256) - sg b - c ∧ sg ((a + b + c) % 256) - sg b - c ≤ 127))), some (.int (((a + b + c) % 256 - b - c) % 256)), some (.int (if (a + b + c) % 256 - b - c < 0 then 1 else 0)), a14, a15, a16, a17, a18, a19, a20, a21, a22, a23, a24, a25, a26, a27, a28] s := by
  unfold lb6
  simp only [runN, sSeq, sIf, sRet, sRetN, sExpr, sAsg, sRaise, sPass, sAug, sPar, putAll, tName, tTup, tAll, goOn, R.out, R.bind_ok, R.bind_exc, R.bind_bad, R.of, R.nx, mC, mVar, m1, m2, mB, mT, mNot, mAnd, mOr, mIf, bNot, bAnd, bOr, bIf, truthR, truth, mTup, mkT, mLst, mkL, aNil, aCons, mCall, mB1, opBin, ipOp, ipAdd, ipMul, opAdd, opSub, opMul, opFdiv, opMod, unNeg, opC, opCmp, op_eq_int, op_in2, op_inl2, mChain, bYes, wVal, wRng, wOf, wR, wipeE, big, List.map_cons, List.map_nil, List.length_cons, List.length_nil, List.replicate, List.cons_append, List.nil_append, List.getElem?_cons_zero, List.getElem?_cons_succ, List.set_cons_zero, List.set_cons_succ, if_true, if_false, decide_true, decide_false, Bool.not_true, Bool.not_false, Bool.true_and, Bool.and_true, Bool.false_and, Bool.and_false, Bool.or_false, Bool.false_or, Bool.true_or, Bool.or_true, Bool.xor_false, Bool.xor_true, Bool.false_xor, Bool.true_xor, Bool.false_eq_true, Bool.true_eq_false, ite_true, ite_false, line, Nat.reduceSub, Nat.reduceAdd, Int.reduceNeg, Int.reducePow, Int.reduceLT, Int.reduceLE, Int.reduceMul, Int.reduceAdd, Int.reduceSub, Int.reduceDiv, Int.reduceMod, Int.reduceEq, Nat.reduceLeDiff, Nat.reduceLT, Nat.reduceEqDiff, and_true, true_and, and_false, false_and, and_self, gt_iff_lt, ge_iff_le, taken j (a := (a + b + c) % 256) (by omega) (by omega) hb.1 hb.2 hc s]

include ha hb hc in
theorem l7 (j : Nat) : lb7 (prog G (j + 3)).1 [a0, some (.ref 0), some (.int a), some (.int b), some (.int c), some (.int w), a6, a7, a8, a9, some (.int ((a + b + c) / 256)), a11, some (.int (((a + b + c) % 256 - b - c) % 256)), some (.int (if (a + b + c) % 256 - b - c < 0 then 1 else 0)), a14, a15, a16, a17, a18, a19, a20, a21, a22, a23, a24, a25, a26, a27, a28] s = .nx [a0, some (.ref 0), some (.int a), some (.int b), some (.int c), some (.int w), a6, a7, a8, a9, some (.int ((a + b + c) / 256)), a11, some (.int (((a + b + c) % 256 - b - c) % 256)), some (.int (if (a + b + c) % 256 - b - c < 0 then 1 else 0)), a14, a15, a16, a17, a18, a19, a20, a21, a22, a23, a24, a25, a26, a27, a28] s := by
  unfold lb7
  have g1 : ((a + b + c) % 256 - b - c) % 256 = a := by omega
  have g2 : (if (a + b + c) % 256 - b - c < 0 then (1 : Int) else 0) = (a + b + c) / 256 := by
    split <;> omega
  have p8 : pw 8 = 256 := by decide
  have p7 : pw 7 = 128 := by decide
  have q1 := signed8 j ha.1 ha.2 s
  have hs : 0 - 128 ≤ sg a ∧ sg a < 128 := by unfold sg; split <;> omega
  have q2 := plain_of (j + 1) (n := sg a) (i := 8) (b := 7) rfl (by decide) (by rw [p7]; exact hs.1) (by rw [p7]; exact hs.2) s
  have g3 : sg a % 256 = a := by unfold sg; split <;> omega
  rw [show (7 : Nat) + 1 = 8 from rfl, p8, g3] at q2
  rw [g1, g2]
  simp only [runN, sSeq, sIf, sRet, sRetN, sExpr, sAsg, sRaise, sPass, sAug, sPar, putAll, tName, tTup, tAll, goOn, R.out, R.bind_ok, R.bind_exc, R.bind_bad, R.of, R.nx, mC, mVar, m1, m2, mB, mT, mNot, mAnd, mOr, mIf, bNot, bAnd, bOr, bIf, truthR, truth, mTup, mkT, mLst, mkL, aNil, aCons, mCall, mB1, opBin, ipOp, ipAdd, ipMul, opAdd, opSub, opMul, opFdiv, opMod, unNeg, opC, opCmp, op_eq_int, op_in2, op_inl2, mChain, bYes, wVal, wRng, wOf, wR, wipeE, big, List.map_cons, List.map_nil, List.length_cons, List.length_nil, List.replicate, List.cons_append, List.nil_append, List.getElem?_cons_zero, List.getElem?_cons_succ, List.set_cons_zero, List.set_cons_succ, if_true, if_false, decide_true, decide_false, Bool.not_true, Bool.not_false, Bool.true_and, Bool.and_true, Bool.false_and, Bool.and_false, Bool.or_false, Bool.false_or, Bool.true_or, Bool.or_true, Bool.xor_false, Bool.xor_true, Bool.false_xor, Bool.true_xor, Bool.false_eq_true, Bool.true_eq_false, ite_true, ite_false, line, Nat.reduceSub, Nat.reduceAdd, Int.reduceNeg, Int.reducePow, Int.reduceLT, Int.reduceLE, Int.reduceMul, Int.reduceAdd, Int.reduceSub, Int.reduceDiv, Int.reduceMod, Int.reduceEq, Nat.reduceLeDiff, Nat.reduceLT, Nat.reduceEqDiff, and_true, true_and, and_false, false_and, and_self, gt_iff_lt, ge_iff_le, q1, law_signed (j + 2) _, q2]

include ha hc in
theorem l8 (j : Nat) : lb8 (prog G (j + 2)).1 [a0, some (.ref 0), some (.int a), some (.int b), some (.int c), some (.int w), a6, a7, a8, a9, a10, a11, a12, a13, a14, a15, a16, a17, a18, a19, a20, a21, a22, a23, a24, a25, a26, a27, a28] s = .nx [a0, some (.ref 0), some (.int a), some (.int b), some (.int c), some (.int w), a6, a7, a8, a9, a10, a11, a12, a13, a14, a15, a16, a17, a18, a19, a20, a21, a22, a23, a24, a25, a26, a27, a28] s := by
  unfold lb8
  have q1 := rolled_left j ha.1 ha.2 hc s
  have q2 := rolled_right j ha.1 ha.2 hc s
  have e1 := eq_t2 (n := true) (s := s) (a := a * 2 % 256 + c) (b := a / 128) (a' := (2 * a + c) % 256) (b' := a / 128) (by omega) rfl
  have e2 := eq_t2 (n := true) (s := s) (a := a / 2 + 128 * c) (b := a % 2) (a' := (a + 256 * c) / 2) (b' := a % 2) (by omega) rfl
  simp only [runN, sSeq, sIf, sRet, sRetN, sExpr, sAsg, sRaise, sPass, sAug, sPar, putAll, tName, tTup, tAll, goOn, R.out, R.bind_ok, R.bind_exc, R.bind_bad, R.of, R.nx, mC, mVar, m1, m2, mB, mT, mNot, mAnd, mOr, mIf, bNot, bAnd, bOr, bIf, truthR, truth, mTup, mkT, mLst, mkL, aNil, aCons, mCall, mB1, opBin, ipOp, ipAdd, ipMul, opAdd, opSub, opMul, opFdiv, opMod, unNeg, opC, opCmp, op_eq_int, op_in2, op_inl2, mChain, bYes, wVal, wRng, wOf, wR, wipeE, big, List.map_cons, List.map_nil, List.length_cons, List.length_nil, List.replicate, List.cons_append, List.nil_append, List.getElem?_cons_zero, List.getElem?_cons_succ, List.set_cons_zero, List.set_cons_succ, if_true, if_false, decide_true, decide_false, Bool.not_true, Bool.not_false, Bool.true_and, Bool.and_true, Bool.false_and, Bool.and_false, Bool.or_false, Bool.false_or, Bool.true_or, Bool.or_true, Bool.xor_false, Bool.xor_true, Bool.false_xor, Bool.true_xor, Bool.false_eq_true, Bool.true_eq_false, ite_true, ite_false, line, Nat.reduceSub, Nat.reduceAdd, Int.reduceNeg, Int.reducePow, Int.reduceLT, Int.reduceLE, Int.reduceMul, Int.reduceAdd, Int.reduceSub, Int.reduceDiv, Int.reduceMod, Int.reduceEq, Nat.reduceLeDiff, Nat.reduceLT, Nat.reduceEqDiff, and_true, true_and, and_false, false_and, and_self, gt_iff_lt, ge_iff_le, q1, q2, e1, e2]

include ha hc in
theorem l9 (j : Nat) : lb9 (prog G (j + 2)).1 [a0, some (.ref 0), some (.int a), some (.int b), some (.int c), some (.int w), a6, a7, a8, a9, a10, a11, a12, a13, a14, a15, a16, a17, a18, a19, a20, a21, a22, a23, a24, a25, a26, a27, a28] s = .nx [a0, some (.ref 0), some (.int a), some (.int b), some (.int c), some (.int w), a6, a7, a8, a9, some (.int (a / 128)), a11, a12, a13, some (.int (a * 2 % 256 + c)), a15, a16, a17, a18, a19, a20, a21, a22, a23, a24, a25, a26, a27, a28] s := by
  unfold lb9
  simp only [runN, sSeq, sIf, sRet, sRetN, sExpr, sAsg, sRaise, sPass, sAug, sPar, putAll, tName, tTup, tAll, goOn, R.out, R.bind_ok, R.bind_exc, R.bind_bad, R.of, R.nx, mC, mVar, m1, m2, mB, mT, mNot, mAnd, mOr, mIf, bNot, bAnd, bOr, bIf, truthR, truth, mTup, mkT, mLst, mkL, aNil, aCons, mCall, mB1, opBin, ipOp, ipAdd, ipMul, opAdd, opSub, opMul, opFdiv, opMod, unNeg, opC, opCmp, op_eq_int, op_in2, op_inl2, mChain, bYes, wVal, wRng, wOf, wR, wipeE, big, List.map_cons, List.map_nil, List.length_cons, List.length_nil, List.replicate, List.cons_append, List.nil_append, List.getElem?_cons_zero, List.getElem?_cons_succ, List.set_cons_zero, List.set_cons_succ, if_true, if_false, decide_true, decide_false, Bool.not_true, Bool.not_false, Bool.true_and, Bool.and_true, Bool.false_and, Bool.and_false, Bool.or_false, Bool.false_or, Bool.true_or, Bool.or_true, Bool.xor_false, Bool.xor_true, Bool.false_xor, Bool.true_xor, Bool.false_eq_true, Bool.true_eq_false, ite_true, ite_false, line, Nat.reduceSub, Nat.reduceAdd, Int.reduceNeg, Int.reducePow, Int.reduceLT, Int.reduceLE, Int.reduceMul, Int.reduceAdd, Int.reduceSub, Int.reduceDiv, Int.reduceMod, Int.reduceEq, Nat.reduceLeDiff, Nat.reduceLT, Nat.reduceEqDiff, and_true, true_and, and_false, false_and, and_self, gt_iff_lt, ge_iff_le, rolled_left j ha.1 ha.2 hc s]

include ha hc hw in
theorem l10 (j : Nat) : lb10 (prog G (j + 2)).1 [a0, some (.ref 0), some (.int a), some (.int b), some (.int c), some (.int w), a6, a7, a8, a9, some (.int (a / 128)), a11, a12, a13, some (.int (a * 2 % 256 + c)), a15, a16, a17, a18, a19, a20, a21, a22, a23, a24, a25, a26, a27, a28] s = .nx [a0, some (.ref 0), some (.int a), some (.int b), some (.int c), some (.int w), a6, a7, a8, a9, some (.int (a / 128)), a11, a12, a13, some (.int (a * 2 % 256 + c)), a15, a16, a17, a18, a19, a20, a21, a22, a23, a24, a25, a26, a27, a28] s := by
  unfold lb10
  have q1 := rolled_right j (a := a * 2 % 256 + c) (c := a / 128) (by omega) (by omega) (by omega) s
  have q2 := halves_of j hw.1 hw.2 s
  have q3 := joined j (a := w / 256) (b := w % 256) (by omega) (by omega) (by omega) (by omega) s
  have e1 := eq_t2 (n := true) (s := s) (a := (a * 2 % 256 + c) / 2 + 128 * (a / 128)) (b := (a * 2 % 256 + c) % 2) (a' := a) (b' := c) (by omega) (by omega)
  have e2 := eq_t2 (n := true) (s := s) (a := w / 256) (b := w % 256) (a' := w / 256) (b' := w % 256) rfl rfl
  have e3 : w / 256 * 256 + w % 256 = w := by omega
  rw [e3] at q3
  simp only [runN, sSeq, sIf, sRet, sRetN, sExpr, sAsg, sRaise, sPass, sAug, sPar, putAll, tName, tTup, tAll, goOn, R.out, R.bind_ok, R.bind_exc, R.bind_bad, R.of, R.nx, mC, mVar, m1, m2, mB, mT, mNot, mAnd, mOr, mIf, bNot, bAnd, bOr, bIf, truthR, truth, mTup, mkT, mLst, mkL, aNil, aCons, mCall, mB1, opBin, ipOp, ipAdd, ipMul, opAdd, opSub, opMul, opFdiv, opMod, unNeg, opC, opCmp, op_eq_int, op_in2, op_inl2, mChain, bYes, wVal, wRng, wOf, wR, wipeE, big, List.map_cons, List.map_nil, List.length_cons, List.length_nil, List.replicate, List.cons_append, List.nil_append, List.getElem?_cons_zero, List.getElem?_cons_succ, List.set_cons_zero, List.set_cons_succ, if_true, if_false, decide_true, decide_false, Bool.not_true, Bool.not_false, Bool.true_and, Bool.and_true, Bool.false_and, Bool.and_false, Bool.or_false, Bool.false_or, Bool.true_or, Bool.or_true, Bool.xor_false, Bool.xor_true, Bool.false_xor, Bool.true_xor, Bool.false_eq_true, Bool.true_eq_false, ite_true, ite_false, line, Nat.reduceSub, Nat.reduceAdd, Int.reduceNeg, Int.reducePow, Int.reduceLT, Int.reduceLE, Int.reduceMul, Int.reduceAdd, Int.reduceSub, Int.reduceDiv, Int.reduceMod, Int.reduceEq, Nat.reduceLeDiff, Nat.reduceLT, Nat.reduceEqDiff, and_true, true_and, and_false, false_and, and_self, gt_iff_lt, ge_iff_le, q1, q2, q3, e1, e2]

theorem l18 (j : Nat) : lb18 (prog G (j + 0)).1 [a0, some (.ref 0), some (.int a), some (.int b), some (.int c), some (.int w), a6, a7, a8, a9, a10, a11, a12, a13, a14, a15, a16, a17, a18, a19, a20, a21, a22, a23, a24, a25, a26, a27, a28] s = .nx [a0, some (.ref 0), some (.int a), some (.int b), some (.int c), some (.int w), a6, a7, a8, a9, a10, a11, a12, a13, a14, a15, a16, a17, a18, a19, a20, some (.int (a % 100)), some (.int (b % 100)), a23, a24, a25, a26, a27, a28] s := by
  unfold lb18
  simp only [runN, sSeq, sIf, sRet, sRetN, sExpr, sAsg, sRaise, sPass, sAug, sPar, putAll, tName, tTup, tAll, goOn, R.out, R.bind_ok, R.bind_exc, R.bind_bad, R.of, R.nx, mC, mVar, m1, m2, mB, mT, mNot, mAnd, mOr, mIf, bNot, bAnd, bOr, bIf, truthR, truth, mTup, mkT, mLst, mkL, aNil, aCons, mCall, mB1, opBin, ipOp, ipAdd, ipMul, opAdd, opSub, opMul, opFdiv, opMod, unNeg, opC, opCmp, op_eq_int, op_in2, op_inl2, mChain, bYes, wVal, wRng, wOf, wR, wipeE, big, List.map_cons, List.map_nil, List.length_cons, List.length_nil, List.replicate, List.cons_append, List.nil_append, List.getElem?_cons_zero, List.getElem?_cons_succ, List.set_cons_zero, List.set_cons_succ, if_true, if_false, decide_true, decide_false, Bool.not_true, Bool.not_false, Bool.true_and, Bool.and_true, Bool.false_and, Bool.and_false, Bool.or_false, Bool.false_or, Bool.true_or, Bool.or_true, Bool.xor_false, Bool.xor_true, Bool.false_xor, Bool.true_xor, Bool.false_eq_true, Bool.true_eq_false, ite_true, ite_false, line, Nat.reduceSub, Nat.reduceAdd, Int.reduceNeg, Int.reducePow, Int.reduceLT, Int.reduceLE, Int.reduceMul, Int.reduceAdd, Int.reduceSub, Int.reduceDiv, Int.reduceMod, Int.reduceEq, Nat.reduceLeDiff, Nat.reduceLT, Nat.reduceEqDiff, and_true, true_and, and_false, false_and, and_self, gt_iff_lt, ge_iff_le]

include hc in
theorem l19 (j : Nat) : lb19 (prog G (j + 3)).1 [a0, some (.ref 0), some (.int a), some (.int b), some (.int c), some (.int w), a6, a7, a8, a9, a10, a11, a12, a13, a14, a15, a16, a17, a18, a19, a20, some (.int (a % 100)), some (.int (b % 100)), a23, a24, a25, a26, a27, a28] s = .nx [a0, some (.ref 0), some (.int a), some (.int b), some (.int c), some (.int w), a6, a7, a8, a9, a10, a11, a12, a13, a14, a15, a16, a17, a18, a19, a20, some (.int (a % 100)), some (.int (b % 100)), a23, a24, a25, a26, a27, a28] s := by
  unfold lb19
  have q1 := tens_byte (j + 2) (a := a % 100) (by omega) (by omega) s
  have q2 := tens_byte (j + 2) (a := b % 100) (by omega) (by omega) s
  have q3 := from_tens (j + 1) (a := a % 100 / 10 * 16 + a % 100 % 10) (by omega) (by omega) (by omega) (by omega) s
  have q4 := tens_added j (a := a % 100 / 10 * 16 + a % 100 % 10) (b := b % 100 / 10 * 16 + b % 100 % 10) (c := c) (by omega) (by omega) (by omega) (by omega) (by omega) (by omega) (by omega) (by omega) hc s
  have q5 := tens_byte (j + 2) (a := (a % 100 + b % 100 + c) % 100) (by omega) (by omega) s
  have g1 : (a % 100 / 10 * 16 + a % 100 % 10) / 16 * 10 + (a % 100 / 10 * 16 + a % 100 % 10) % 16 = a % 100 := by omega
  have g2 : (b % 100 / 10 * 16 + b % 100 % 10) / 16 * 10 + (b % 100 / 10 * 16 + b % 100 % 10) % 16 = b % 100 := by omega
  rw [g1] at q3
  rw [g1, g2] at q4
  have e1 := eq_t2 (n := true) (s := s) (a := (a % 100 + b % 100 + c) % 100 / 10 * 16 + (a % 100 + b % 100 + c) % 100 % 10) (b := (a % 100 + b % 100 + c) / 100) rfl rfl
  simp only [runN, sSeq, sIf, sRet, sRetN, sExpr, sAsg, sRaise, sPass, sAug, sPar, putAll, tName, tTup, tAll, goOn, R.out, R.bind_ok, R.bind_exc, R.bind_bad, R.of, R.nx, mC, mVar, m1, m2, mB, mT, mNot, mAnd, mOr, mIf, bNot, bAnd, bOr, bIf, truthR, truth, mTup, mkT, mLst, mkL, aNil, aCons, mCall, mB1, opBin, ipOp, ipAdd, ipMul, opAdd, opSub, opMul, opFdiv, opMod, unNeg, opC, opCmp, op_eq_int, op_in2, op_inl2, mChain, bYes, wVal, wRng, wOf, wR, wipeE, big, List.map_cons, List.map_nil, List.length_cons, List.length_nil, List.replicate, List.cons_append, List.nil_append, List.getElem?_cons_zero, List.getElem?_cons_succ, List.set_cons_zero, List.set_cons_succ, if_true, if_false, decide_true, decide_false, Bool.not_true, Bool.not_false, Bool.true_and, Bool.and_true, Bool.false_and, Bool.and_false, Bool.or_false, Bool.false_or, Bool.true_or, Bool.or_true, Bool.xor_false, Bool.xor_true, Bool.false_xor, Bool.true_xor, Bool.false_eq_true, Bool.true_eq_false, ite_true, ite_false, line, Nat.reduceSub, Nat.reduceAdd, Int.reduceNeg, Int.reducePow, Int.reduceLT, Int.reduceLE, Int.reduceMul, Int.reduceAdd, Int.reduceSub, Int.reduceDiv, Int.reduceMod, Int.reduceEq, Nat.reduceLeDiff, Nat.reduceLT, Nat.reduceEqDiff, and_true, true_and, and_false, false_and, and_self, gt_iff_lt, ge_iff_le, q1, q2, q3, q4, q5, e1]

include ha hb hw in
theorem l20 (j : Nat) : lb20 (prog G (j + 4)).1 [a0, some (.ref 0), some (.int a), some (.int b), some (.int c), some (.int w), a6, a7, a8, a9, a10, a11, a12, a13, a14, a15, a16, a17, a18, a19, a20, a21, a22, a23, a24, a25, a26, a27, a28] s = .nx [a0, some (.ref 0), some (.int a), some (.int b), some (.int c), some (.int w), a6, a7, a8, a9, a10, a11, a12, a13, a14, a15, a16, a17, a18, a19, a20, a21, a22, a23, a24, a25, a26, a27, a28] s := by
  unfold lb20
  have q1 := times_by_bits j ha.1 ha.2 hb.1 hb.2 s
  have bg : -18446744073709551616 < a ∧ a < 18446744073709551616 := by omega
  have e1 := eq_t2 (n := true) (s := s) (a := w / b) (b := w % b) rfl rfl
  have h9 : b < 1073741824 := by omega
  by_cases h : 0 < b
  · have q2 := parted_by_bits j hw.1 hw.2 h hb.2 s
    simp only [runN, sSeq, sIf, sRet, sRetN, sExpr, sAsg, sRaise, sPass, sAug, sPar, putAll, tName, tTup, tAll, goOn, R.out, R.bind_ok, R.bind_exc, R.bind_bad, R.of, R.nx, mC, mVar, m1, m2, mB, mT, mNot, mAnd, mOr, mIf, bNot, bAnd, bOr, bIf, truthR, truth, mTup, mkT, mLst, mkL, aNil, aCons, mCall, mB1, opBin, ipOp, ipAdd, ipMul, opAdd, opSub, opMul, opFdiv, opMod, unNeg, opC, opCmp, op_eq_int, op_in2, op_inl2, mChain, bYes, wVal, wRng, wOf, wR, wipeE, big, List.map_cons, List.map_nil, List.length_cons, List.length_nil, List.replicate, List.cons_append, List.nil_append, List.getElem?_cons_zero, List.getElem?_cons_succ, List.set_cons_zero, List.set_cons_succ, if_true, if_false, decide_true, decide_false, Bool.not_true, Bool.not_false, Bool.true_and, Bool.and_true, Bool.false_and, Bool.and_false, Bool.or_false, Bool.false_or, Bool.true_or, Bool.or_true, Bool.xor_false, Bool.xor_true, Bool.false_xor, Bool.true_xor, Bool.false_eq_true, Bool.true_eq_false, ite_true, ite_false, line, Nat.reduceSub, Nat.reduceAdd, Int.reduceNeg, Int.reducePow, Int.reduceLT, Int.reduceLE, Int.reduceMul, Int.reduceAdd, Int.reduceSub, Int.reduceDiv, Int.reduceMod, Int.reduceEq, Nat.reduceLeDiff, Nat.reduceLT, Nat.reduceEqDiff, and_true, true_and, and_false, false_and, and_self, gt_iff_lt, ge_iff_le, q1, bg.1, bg.2, h, h9, q2, e1]
  · simp only [runN, sSeq, sIf, sRet, sRetN, sExpr, sAsg, sRaise, sPass, sAug, sPar, putAll, tName, tTup, tAll, goOn, R.out, R.bind_ok, R.bind_exc, R.bind_bad, R.of, R.nx, mC, mVar, m1, m2, mB, mT, mNot, mAnd, mOr, mIf, bNot, bAnd, bOr, bIf, truthR, truth, mTup, mkT, mLst, mkL, aNil, aCons, mCall, mB1, opBin, ipOp, ipAdd, ipMul, opAdd, opSub, opMul, opFdiv, opMod, unNeg, opC, opCmp, op_eq_int, op_in2, op_inl2, mChain, bYes, wVal, wRng, wOf, wR, wipeE, big, List.map_cons, List.map_nil, List.length_cons, List.length_nil, List.replicate, List.cons_append, List.nil_append, List.getElem?_cons_zero, List.getElem?_cons_succ, List.set_cons_zero, List.set_cons_succ, if_true, if_false, decide_true, decide_false, Bool.not_true, Bool.not_false, Bool.true_and, Bool.and_true, Bool.false_and, Bool.and_false, Bool.or_false, Bool.false_or, Bool.true_or, Bool.or_true, Bool.xor_false, Bool.xor_true, Bool.false_xor, Bool.true_xor, Bool.false_eq_true, Bool.true_eq_false, ite_true, ite_false, line, Nat.reduceSub, Nat.reduceAdd, Int.reduceNeg, Int.reducePow, Int.reduceLT, Int.reduceLE, Int.reduceMul, Int.reduceAdd, Int.reduceSub, Int.reduceDiv, Int.reduceMod, Int.reduceEq, Nat.reduceLeDiff, Nat.reduceLT, Nat.reduceEqDiff, and_true, true_and, and_false, false_and, and_self, gt_iff_lt, ge_iff_le, q1, bg.1, bg.2, h]

theorem l27 (j : Nat) : lb27 (prog G (j + 0)).1 [a0, some (.ref 0), some (.int a), some (.int b), some (.int c), some (.int w), a6, a7, a8, a9, a10, a11, a12, a13, a14, a15, a16, a17, a18, a19, a20, a21, a22, a23, a24, a25, a26, a27, a28] s = .nx [a0, some (.ref 0), some (.int a), some (.int b), some (.int c), some (.int w), a6, a7, a8, a9, a10, a11, a12, a13, a14, a15, a16, a17, a18, a19, a20, a21, a22, a23, a24, a25, a26, a27, some (.int (1 + w % 32767))] s := by
  unfold lb27
  simp only [runN, sSeq, sIf, sRet, sRetN, sExpr, sAsg, sRaise, sPass, sAug, sPar, putAll, tName, tTup, tAll, goOn, R.out, R.bind_ok, R.bind_exc, R.bind_bad, R.of, R.nx, mC, mVar, m1, m2, mB, mT, mNot, mAnd, mOr, mIf, bNot, bAnd, bOr, bIf, truthR, truth, mTup, mkT, mLst, mkL, aNil, aCons, mCall, mB1, opBin, ipOp, ipAdd, ipMul, opAdd, opSub, opMul, opFdiv, opMod, unNeg, opC, opCmp, op_eq_int, op_in2, op_inl2, mChain, bYes, wVal, wRng, wOf, wR, wipeE, big, List.map_cons, List.map_nil, List.length_cons, List.length_nil, List.replicate, List.cons_append, List.nil_append, List.getElem?_cons_zero, List.getElem?_cons_succ, List.set_cons_zero, List.set_cons_succ, if_true, if_false, decide_true, decide_false, Bool.not_true, Bool.not_false, Bool.true_and, Bool.and_true, Bool.false_and, Bool.and_false, Bool.or_false, Bool.false_or, Bool.true_or, Bool.or_true, Bool.xor_false, Bool.xor_true, Bool.false_xor, Bool.true_xor, Bool.false_eq_true, Bool.true_eq_false, ite_true, ite_false, line, Nat.reduceSub, Nat.reduceAdd, Int.reduceNeg, Int.reducePow, Int.reduceLT, Int.reduceLE, Int.reduceMul, Int.reduceAdd, Int.reduceSub, Int.reduceDiv, Int.reduceMod, Int.reduceEq, Nat.reduceLeDiff, Nat.reduceLT, Nat.reduceEqDiff, and_true, true_and, and_false, false_and, and_self, gt_iff_lt, ge_iff_le]

theorem l28 (j : Nat) : lb28 (prog G (j + 0)).1 [a0, some (.ref 0), some (.int a), some (.int b), some (.int c), some (.int w), a6, a7, a8, a9, a10, a11, a12, a13, a14, a15, a16, a17, a18, a19, a20, a21, a22, a23, a24, a25, a26, a27, some (.int (1 + w % 32767))] s = .nx [a0, some (.ref 0), some (.int a), some (.int b), some (.int c), some (.int w), a6, a7, a8, a9, a10, a11, a12, a13, a14, a15, a16, a17, a18, some (.int (if (1 + w % 32767) % 2 = (1 + w % 32767) / 2 % 2 then 0 else 1)), a20, a21, a22, a23, a24, a25, a26, a27, some (.int (1 + w % 32767))] s := by
  unfold lb28
  by_cases h : (1 + w % 32767) % 2 = (1 + w % 32767) / 2 % 2
  · simp only [runN, sSeq, sIf, sRet, sRetN, sExpr, sAsg, sRaise, sPass, sAug, sPar, putAll, tName, tTup, tAll, goOn, R.out, R.bind_ok, R.bind_exc, R.bind_bad, R.of, R.nx, mC, mVar, m1, m2, mB, mT, mNot, mAnd, mOr, mIf, bNot, bAnd, bOr, bIf, truthR, truth, mTup, mkT, mLst, mkL, aNil, aCons, mCall, mB1, opBin, ipOp, ipAdd, ipMul, opAdd, opSub, opMul, opFdiv, opMod, unNeg, opC, opCmp, op_eq_int, op_in2, op_inl2, mChain, bYes, wVal, wRng, wOf, wR, wipeE, big, List.map_cons, List.map_nil, List.length_cons, List.length_nil, List.replicate, List.cons_append, List.nil_append, List.getElem?_cons_zero, List.getElem?_cons_succ, List.set_cons_zero, List.set_cons_succ, if_true, if_false, decide_true, decide_false, Bool.not_true, Bool.not_false, Bool.true_and, Bool.and_true, Bool.false_and, Bool.and_false, Bool.or_false, Bool.false_or, Bool.true_or, Bool.or_true, Bool.xor_false, Bool.xor_true, Bool.false_xor, Bool.true_xor, Bool.false_eq_true, Bool.true_eq_false, ite_true, ite_false, line, Nat.reduceSub, Nat.reduceAdd, Int.reduceNeg, Int.reducePow, Int.reduceLT, Int.reduceLE, Int.reduceMul, Int.reduceAdd, Int.reduceSub, Int.reduceDiv, Int.reduceMod, Int.reduceEq, Nat.reduceLeDiff, Nat.reduceLT, Nat.reduceEqDiff, and_true, true_and, and_false, false_and, and_self, gt_iff_lt, ge_iff_le, h, bInt]
  · simp only [runN, sSeq, sIf, sRet, sRetN, sExpr, sAsg, sRaise, sPass, sAug, sPar, putAll, tName, tTup, tAll, goOn, R.out, R.bind_ok, R.bind_exc, R.bind_bad, R.of, R.nx, mC, mVar, m1, m2, mB, mT, mNot, mAnd, mOr, mIf, bNot, bAnd, bOr, bIf, truthR, truth, mTup, mkT, mLst, mkL, aNil, aCons, mCall, mB1, opBin, ipOp, ipAdd, ipMul, opAdd, opSub, opMul, opFdiv, opMod, unNeg, opC, opCmp, op_eq_int, op_in2, op_inl2, mChain, bYes, wVal, wRng, wOf, wR, wipeE, big, List.map_cons, List.map_nil, List.length_cons, List.length_nil, List.replicate, List.cons_append, List.nil_append, List.getElem?_cons_zero, List.getElem?_cons_succ, List.set_cons_zero, List.set_cons_succ, if_true, if_false, decide_true, decide_false, Bool.not_true, Bool.not_false, Bool.true_and, Bool.and_true, Bool.false_and, Bool.and_false, Bool.or_false, Bool.false_or, Bool.true_or, Bool.or_true, Bool.xor_false, Bool.xor_true, Bool.false_xor, Bool.true_xor, Bool.false_eq_true, Bool.true_eq_false, ite_true, ite_false, line, Nat.reduceSub, Nat.reduceAdd, Int.reduceNeg, Int.reducePow, Int.reduceLT, Int.reduceLE, Int.reduceMul, Int.reduceAdd, Int.reduceSub, Int.reduceDiv, Int.reduceMod, Int.reduceEq, Nat.reduceLeDiff, Nat.reduceLT, Nat.reduceEqDiff, and_true, true_and, and_false, false_and, and_self, gt_iff_lt, ge_iff_le, h, bInt]

theorem l29 (j : Nat) : lb29 (prog G (j + 3)).1 [a0, some (.ref 0), some (.int a), some (.int b), some (.int c), some (.int w), a6, a7, a8, a9, a10, a11, a12, a13, a14, a15, a16, a17, a18, some (.int (if (1 + w % 32767) % 2 = (1 + w % 32767) / 2 % 2 then 0 else 1)), a20, a21, a22, a23, a24, a25, a26, a27, some (.int (1 + w % 32767))] s = .nx [a0, some (.ref 0), some (.int a), some (.int b), some (.int c), some (.int w), a6, a7, a8, a9, a10, a11, a12, a13, a14, a15, a16, a17, a18, some (.int (if (1 + w % 32767) % 2 = (1 + w % 32767) / 2 % 2 then 0 else 1)), a20, a21, a22, a23, a24, a25, a26, a27, some (.int (1 + w % 32767))] s := by
  unfold lb29
  have q := step_noise j (a := 1 + w % 32767) (by omega) (by omega) s
  have e1 := eq_t2 (n := true) (s := s) (a := (1 + w % 32767) / 2 + 16384 * ((1 + w % 32767 + (1 + w % 32767) / 2) % 2)) (b := (1 + w % 32767) % 2) (a' := (1 + w % 32767) / 2 + 16384 * (if (1 + w % 32767) % 2 = (1 + w % 32767) / 2 % 2 then 0 else 1)) (b' := (1 + w % 32767) % 2) (by split <;> omega) rfl
  simp only [runN, sSeq, sIf, sRet, sRetN, sExpr, sAsg, sRaise, sPass, sAug, sPar, putAll, tName, tTup, tAll, goOn, R.out, R.bind_ok, R.bind_exc, R.bind_bad, R.of, R.nx, mC, mVar, m1, m2, mB, mT, mNot, mAnd, mOr, mIf, bNot, bAnd, bOr, bIf, truthR, truth, mTup, mkT, mLst, mkL, aNil, aCons, mCall, mB1, opBin, ipOp, ipAdd, ipMul, opAdd, opSub, opMul, opFdiv, opMod, unNeg, opC, opCmp, op_eq_int, op_in2, op_inl2, mChain, bYes, wVal, wRng, wOf, wR, wipeE, big, List.map_cons, List.map_nil, List.length_cons, List.length_nil, List.replicate, List.cons_append, List.nil_append, List.getElem?_cons_zero, List.getElem?_cons_succ, List.set_cons_zero, List.set_cons_succ, if_true, if_false, decide_true, decide_false, Bool.not_true, Bool.not_false, Bool.true_and, Bool.and_true, Bool.false_and, Bool.and_false, Bool.or_false, Bool.false_or, Bool.true_or, Bool.or_true, Bool.xor_false, Bool.xor_true, Bool.false_xor, Bool.true_xor, Bool.false_eq_true, Bool.true_eq_false, ite_true, ite_false, line, Nat.reduceSub, Nat.reduceAdd, Int.reduceNeg, Int.reducePow, Int.reduceLT, Int.reduceLE, Int.reduceMul, Int.reduceAdd, Int.reduceSub, Int.reduceDiv, Int.reduceMod, Int.reduceEq, Nat.reduceLeDiff, Nat.reduceLT, Nat.reduceEqDiff, and_true, true_and, and_false, false_and, and_self, gt_iff_lt, ge_iff_le, q, e1]
end K01
end Z

set_option Elab.async false
set_option linter.all false
set_option maxRecDepth 100000
set_option maxHeartbeats 4000000
namespace Z
open PySem
namespace K01
variable {a0 a6 a7 a8 a9 a10 a11 a12 a13 a14 a15 a16 a17 a18 a19 a20 a21 a22 a23 a24 a25 a26 a27 a28 : Option D}
variable {a b c w : Int} {k : Nat} {s : Sto} (ha : 0 ≤ a ∧ a ≤ 255) (hb : 0 ≤ b ∧ b ≤ 255) (hc : c = 0 ∨ c = 1) (hw : 0 ≤ w ∧ w ≤ 65535) (hk : k ≤ 15)
theorem l11 (j : Nat) (x y z : Int) : ∃ (k : Nat) (x' y' z' : Int), k ≤ 15 ∧ lb11 (prog G (j + 1)).1 [a0, some (.ref 0), some (.int a), some (.int b), some (.int c), some (.int w), a6, a7, a8, a9, a10, a11, a12, a13, a14, a15, a16, a17, a18, a19, a20, a21, a22, a23, a24, a25, a26, a27, a28] (sd x y z) = .nx [a0, some (.ref 0), some (.int a), some (.int b), some (.int c), some (.int w), a6, a7, a8, a9, a10, a11, a12, a13, a14, some (.int (Int.ofNat (k + 1))), a16, a17, a18, a19, a20, a21, a22, a23, a24, a25, a26, a27, a28] (sd x' y' z') := by
  obtain ⟨v, x1, y1, z1, h0, h1, e1⟩ := roll j x y z (m := 16) (by decide) (by decide)
  refine ⟨v.toNat, x1, y1, z1, by omega, ?_⟩
  have hv : Int.ofNat (v.toNat + 1) = 1 + v := by
    have : Int.ofNat v.toNat = v := Int.toNat_of_nonneg h0
    show Int.ofNat v.toNat + 1 = 1 + v
    omega
  rw [hv]
  unfold lb11
  simp only [runN, sSeq, sIf, sRet, sRetN, sExpr, sAsg, sRaise, sPass, sAug, sPar, putAll, tName, tTup, tAll, goOn, R.out, R.bind_ok, R.bind_exc, R.bind_bad, R.of, R.nx, mC, mVar, m1, m2, mB, mT, mNot, mAnd, mOr, mIf, bNot, bAnd, bOr, bIf, truthR, truth, mTup, mkT, mLst, mkL, aNil, aCons, mCall, mB1, opBin, ipOp, ipAdd, ipMul, opAdd, opSub, opMul, opFdiv, opMod, unNeg, opC, opCmp, op_eq_int, op_in2, op_inl2, mChain, bYes, wVal, wRng, wOf, wR, wipeE, big, List.map_cons, List.map_nil, List.length_cons, List.length_nil, List.replicate, List.cons_append, List.nil_append, List.getElem?_cons_zero, List.getElem?_cons_succ, List.set_cons_zero, List.set_cons_succ, if_true, if_false, decide_true, decide_false, Bool.not_true, Bool.not_false, Bool.true_and, Bool.and_true, Bool.false_and, Bool.and_false, Bool.or_false, Bool.false_or, Bool.true_or, Bool.or_true, Bool.xor_false, Bool.xor_true, Bool.false_xor, Bool.true_xor, Bool.false_eq_true, Bool.true_eq_false, ite_true, ite_false, line, Nat.reduceSub, Nat.reduceAdd, Int.reduceNeg, Int.reducePow, Int.reduceLT, Int.reduceLE, Int.reduceMul, Int.reduceAdd, Int.reduceSub, Int.reduceDiv, Int.reduceMod, Int.reduceEq, Nat.reduceLeDiff, Nat.reduceLT, Nat.reduceEqDiff, and_true, true_and, and_false, false_and, and_self, gt_iff_lt, ge_iff_le, e1]

theorem l12g (j : Nat) {P i : Int} (hp : 0 < P) (q : (prog G (j + 1)).1 5 [.int i] s = .ok (.int P) s) : lb12 (prog G (j + 1)).1 [a0, some (.ref 0), some (.int a), some (.int b), some (.int c), some (.int w), a6, a7, a8, a9, a10, a11, a12, a13, a14, some (.int i), a16, a17, a18, a19, a20, a21, a22, a23, a24, a25, a26, a27, a28] s = .nx [a0, some (.ref 0), some (.int a), some (.int b), some (.int c), some (.int w), a6, a7, a8, a9, a10, a11, a12, a13, a14, some (.int i), some (.int (w % P)), a17, a18, a19, a20, a21, a22, a23, a24, a25, a26, a27, a28] s := by
  unfold lb12
  simp only [runN, sSeq, sIf, sRet, sRetN, sExpr, sAsg, sRaise, sPass, sAug, sPar, putAll, tName, tTup, tAll, goOn, R.out, R.bind_ok, R.bind_exc, R.bind_bad, R.of, R.nx, mC, mVar, m1, m2, mB, mT, mNot, mAnd, mOr, mIf, bNot, bAnd, bOr, bIf, truthR, truth, mTup, mkT, mLst, mkL, aNil, aCons, mCall, mB1, opBin, ipOp, ipAdd, ipMul, opAdd, opSub, opMul, opFdiv, opMod, unNeg, opC, opCmp, op_eq_int, op_in2, op_inl2, mChain, bYes, wVal, wRng, wOf, wR, wipeE, big, List.map_cons, List.map_nil, List.length_cons, List.length_nil, List.replicate, List.cons_append, List.nil_append, List.getElem?_cons_zero, List.getElem?_cons_succ, List.set_cons_zero, List.set_cons_succ, if_true, if_false, decide_true, decide_false, Bool.not_true, Bool.not_false, Bool.true_and, Bool.and_true, Bool.false_and, Bool.and_false, Bool.or_false, Bool.false_or, Bool.true_or, Bool.or_true, Bool.xor_false, Bool.xor_true, Bool.false_xor, Bool.true_xor, Bool.false_eq_true, Bool.true_eq_false, ite_true, ite_false, line, Nat.reduceSub, Nat.reduceAdd, Int.reduceNeg, Int.reducePow, Int.reduceLT, Int.reduceLE, Int.reduceMul, Int.reduceAdd, Int.reduceSub, Int.reduceDiv, Int.reduceMod, Int.reduceEq, Nat.reduceLeDiff, Nat.reduceLT, Nat.reduceEqDiff, and_true, true_and, and_false, false_and, and_self, gt_iff_lt, ge_iff_le, q, hp]
include hk in
theorem l12 (j : Nat) : lb12 (prog G (j + 1)).1 [a0, some (.ref 0), some (.int a), some (.int b), some (.int c), some (.int w), a6, a7, a8, a9, a10, a11, a12, a13, a14, some (.int (Int.ofNat (k + 1))), a16, a17, a18, a19, a20, a21, a22, a23, a24, a25, a26, a27, a28] s = .nx [a0, some (.ref 0), some (.int a), some (.int b), some (.int c), some (.int w), a6, a7, a8, a9, a10, a11, a12, a13, a14, some (.int (Int.ofNat (k + 1))), some (.int (w % pw (k + 1))), a17, a18, a19, a20, a21, a22, a23, a24, a25, a26, a27, a28] s := l12g j (pw_pos (k + 1)) (power_of j (b := k + 1) (i := Int.ofNat (k + 1)) (by omega) rfl s)

include hk in
theorem l13 (j : Nat) : lb13 (prog G (j + 3)).1 [a0, some (.ref 0), some (.int a), some (.int b), some (.int c), some (.int w), a6, a7, a8, a9, a10, a11, a12, a13, a14, some (.int (Int.ofNat (k + 1))), some (.int (w % pw (k + 1))), a17, a18, a19, a20, a21, a22, a23, a24, a25, a26, a27, a28] s = .nx [a0, some (.ref 0), some (.int a), some (.int b), some (.int c), some (.int w), a6, a7, a8, a9, a10, a11, a12, a13, a14, some (.int (Int.ofNat (k + 1))), some (.int (w % pw (k + 1))), some (.lst ((bitsL (w % pw (k + 1)) (k + 1)).map D.int)), a18, a19, a20, a21, a22, a23, a24, a25, a26, a27, a28] s := by
  unfold lb13
  have n0 : 0 ≤ w % pw (k + 1) := Int.emod_nonneg _ (by have := pw_pos (k + 1); omega)
  have n1 : w % pw (k + 1) < pw (k + 1) := Int.emod_lt_of_pos _ (pw_pos (k + 1))
  have q := bits_of j (n := w % pw (k + 1)) (i := Int.ofNat (k + 1)) rfl (by omega) (by omega) n0 n1 s
  have hl : ((bitsL (w % pw (k + 1)) (k + 1)).map D.int).length ≤ 16777216 := by rw [List.length_map, bitsL_len]; omega
  generalize ((bitsL (w % pw (k + 1)) (k + 1)).map D.int) = L at q hl ⊢
  generalize w % pw (k + 1) = n at q ⊢
  simp only [runN, sSeq, sIf, sRet, sRetN, sExpr, sAsg, sRaise, sPass, sAug, sPar, putAll, tName, tTup, tAll, goOn, R.out, R.bind_ok, R.bind_exc, R.bind_bad, R.of, R.nx, mC, mVar, m1, m2, mB, mT, mNot, mAnd, mOr, mIf, bNot, bAnd, bOr, bIf, truthR, truth, mTup, mkT, mLst, mkL, aNil, aCons, mCall, mB1, opBin, ipOp, ipAdd, ipMul, opAdd, opSub, opMul, opFdiv, opMod, unNeg, opC, opCmp, op_eq_int, op_in2, op_inl2, mChain, bYes, wVal, wRng, wOf, wR, wipeE, big, List.map_cons, List.map_nil, List.length_cons, List.length_nil, List.replicate, List.cons_append, List.nil_append, List.getElem?_cons_zero, List.getElem?_cons_succ, List.set_cons_zero, List.set_cons_succ, if_true, if_false, decide_true, decide_false, Bool.not_true, Bool.not_false, Bool.true_and, Bool.and_true, Bool.false_and, Bool.and_false, Bool.or_false, Bool.false_or, Bool.true_or, Bool.or_true, Bool.xor_false, Bool.xor_true, Bool.false_xor, Bool.true_xor, Bool.false_eq_true, Bool.true_eq_false, ite_true, ite_false, line, Nat.reduceSub, Nat.reduceAdd, Int.reduceNeg, Int.reducePow, Int.reduceLT, Int.reduceLE, Int.reduceMul, Int.reduceAdd, Int.reduceSub, Int.reduceDiv, Int.reduceMod, Int.reduceEq, Nat.reduceLeDiff, Nat.reduceLT, Nat.reduceEqDiff, and_true, true_and, and_false, false_and, and_self, gt_iff_lt, ge_iff_le, q, bList, seqOf, hl]

include hk in
theorem l16 (j : Nat) : lb16 (prog G (j + 1)).1 [a0, some (.ref 0), some (.int a), some (.int b), some (.int c), some (.int w), a6, a7, a8, a9, a10, a11, a12, a13, a14, some (.int (Int.ofNat (k + 1))), some (.int (w % pw (k + 1))), some (.lst ((bitsL (w % pw (k + 1)) (k + 1)).map D.int)), a18, a19, a20, a21, a22, a23, a24, a25, a26, a27, a28] s = .nx [a0, some (.ref 0), some (.int a), some (.int b), some (.int c), some (.int w), a6, a7, a8, a9, a10, a11, a12, a13, a14, some (.int (Int.ofNat (k + 1))), some (.int (w % pw (k + 1))), some (.lst ((bitsL (w % pw (k + 1)) (k + 1)).map D.int)), a18, a19, some (.int (pw k)), a21, a22, a23, a24, a25, a26, a27, a28] s := by
  unfold lb16
  have q := power_of j (b := k) (i := Int.ofNat (k + 1) - 1) (by omega) (by show Int.ofNat k + 1 - 1 = Int.ofNat k; omega) s
  simp only [runN, sSeq, sIf, sRet, sRetN, sExpr, sAsg, sRaise, sPass, sAug, sPar, putAll, tName, tTup, tAll, goOn, R.out, R.bind_ok, R.bind_exc, R.bind_bad, R.of, R.nx, mC, mVar, m1, m2, mB, mT, mNot, mAnd, mOr, mIf, bNot, bAnd, bOr, bIf, truthR, truth, mTup, mkT, mLst, mkL, aNil, aCons, mCall, mB1, opBin, ipOp, ipAdd, ipMul, opAdd, opSub, opMul, opFdiv, opMod, unNeg, opC, opCmp, op_eq_int, op_in2, op_inl2, mChain, bYes, wVal, wRng, wOf, wR, wipeE, big, List.map_cons, List.map_nil, List.length_cons, List.length_nil, List.replicate, List.cons_append, List.nil_append, List.getElem?_cons_zero, List.getElem?_cons_succ, List.set_cons_zero, List.set_cons_succ, if_true, if_false, decide_true, decide_false, Bool.not_true, Bool.not_false, Bool.true_and, Bool.and_true, Bool.false_and, Bool.and_false, Bool.or_false, Bool.false_or, Bool.true_or, Bool.or_true, Bool.xor_false, Bool.xor_true, Bool.false_xor, Bool.true_xor, Bool.false_eq_true, Bool.true_eq_false, ite_true, ite_false, line, Nat.reduceSub, Nat.reduceAdd, Int.reduceNeg, Int.reducePow, Int.reduceLT, Int.reduceLE, Int.reduceMul, Int.reduceAdd, Int.reduceSub, Int.reduceDiv, Int.reduceMod, Int.reduceEq, Nat.reduceLeDiff, Nat.reduceLT, Nat.reduceEqDiff, and_true, true_and, and_false, false_and, and_self, gt_iff_lt, ge_iff_le, q]

include hk in
theorem l17 (j : Nat) : lb17 (prog G (j + 3)).1 [a0, some (.ref 0), some (.int a), some (.int b), some (.int c), some (.int w), a6, a7, a8, a9, a10, a11, a12, a13, a14, some (.int (Int.ofNat (k + 1))), some (.int (w % pw (k + 1))), some (.lst ((bitsL (w % pw (k + 1)) (k + 1)).map D.int)), a18, a19, some (.int (pw k)), a21, a22, a23, a24, a25, a26, a27, a28] s = .nx [a0, some (.ref 0), some (.int a), some (.int b), some (.int c), some (.int w), a6, a7, a8, a9, a10, a11, a12, a13, a14, some (.int (Int.ofNat (k + 1))), some (.int (w % pw (k + 1))), some (.lst ((bitsL (w % pw (k + 1)) (k + 1)).map D.int)), a18, a19, some (.int (pw k)), a21, a22, a23, a24, a25, a26, a27, a28] s := by
  unfold lb17
  have n0 : 0 ≤ w % pw (k + 1) := Int.emod_nonneg _ (by have := pw_pos (k + 1); omega)
  have n1 : w % pw (k + 1) < pw (k + 1) := Int.emod_lt_of_pos _ (pw_pos (k + 1))
  have q1 := signed_of j (n := w % pw (k + 1)) (i := Int.ofNat (k + 1)) (b := k) rfl (by omega) n0 n1 s
  have hs := pw_succ k
  have hp := pw_pos k
  have q2 := plain_of (j + 1) (n := sgn (w % pw (k + 1)) k) (i := Int.ofNat (k + 1)) (b := k) rfl (by omega) (by unfold sgn; split <;> omega) (by unfold sgn; split <;> omega) s
  have g : sgn (w % pw (k + 1)) k % pw (k + 1) = w % pw (k + 1) := by
    unfold sgn
    split
    · rw [← hs]
      rw [Int.sub_emod_right]
      exact Int.emod_eq_of_lt n0 n1
    · exact Int.emod_eq_of_lt n0 n1
  rw [g] at q2
  by_cases h : pw k ≤ w % pw (k + 1)
  · have e : sgn (w % pw (k + 1)) k = w % pw (k + 1) - 2 * pw k := if_pos h
    rw [e] at q1 q2
    generalize w % pw (k + 1) = n at *
    generalize pw k = P at *
    simp only [runN, sSeq, sIf, sRet, sRetN, sExpr, sAsg, sRaise, sPass, sAug, sPar, putAll, tName, tTup, tAll, goOn, R.out, R.bind_ok, R.bind_exc, R.bind_bad, R.of, R.nx, mC, mVar, m1, m2, mB, mT, mNot, mAnd, mOr, mIf, bNot, bAnd, bOr, bIf, truthR, truth, mTup, mkT, mLst, mkL, aNil, aCons, mCall, mB1, opBin, ipOp, ipAdd, ipMul, opAdd, opSub, opMul, opFdiv, opMod, unNeg, opC, opCmp, op_eq_int, op_in2, op_inl2, mChain, bYes, wVal, wRng, wOf, wR, wipeE, big, List.map_cons, List.map_nil, List.length_cons, List.length_nil, List.replicate, List.cons_append, List.nil_append, List.getElem?_cons_zero, List.getElem?_cons_succ, List.set_cons_zero, List.set_cons_succ, if_true, if_false, decide_true, decide_false, Bool.not_true, Bool.not_false, Bool.true_and, Bool.and_true, Bool.false_and, Bool.and_false, Bool.or_false, Bool.false_or, Bool.true_or, Bool.or_true, Bool.xor_false, Bool.xor_true, Bool.false_xor, Bool.true_xor, Bool.false_eq_true, Bool.true_eq_false, ite_true, ite_false, line, Nat.reduceSub, Nat.reduceAdd, Int.reduceNeg, Int.reducePow, Int.reduceLT, Int.reduceLE, Int.reduceMul, Int.reduceAdd, Int.reduceSub, Int.reduceDiv, Int.reduceMod, Int.reduceEq, Nat.reduceLeDiff, Nat.reduceLT, Nat.reduceEqDiff, and_true, true_and, and_false, false_and, and_self, gt_iff_lt, ge_iff_le, q1, q2, h]
  · have e : sgn (w % pw (k + 1)) k = w % pw (k + 1) := if_neg h
    rw [e] at q1 q2
    generalize w % pw (k + 1) = n at *
    generalize pw k = P at *
    simp only [runN, sSeq, sIf, sRet, sRetN, sExpr, sAsg, sRaise, sPass, sAug, sPar, putAll, tName, tTup, tAll, goOn, R.out, R.bind_ok, R.bind_exc, R.bind_bad, R.of, R.nx, mC, mVar, m1, m2, mB, mT, mNot, mAnd, mOr, mIf, bNot, bAnd, bOr, bIf, truthR, truth, mTup, mkT, mLst, mkL, aNil, aCons, mCall, mB1, opBin, ipOp, ipAdd, ipMul, opAdd, opSub, opMul, opFdiv, opMod, unNeg, opC, opCmp, op_eq_int, op_in2, op_inl2, mChain, bYes, wVal, wRng, wOf, wR, wipeE, big, List.map_cons, List.map_nil, List.length_cons, List.length_nil, List.replicate, List.cons_append, List.nil_append, List.getElem?_cons_zero, List.getElem?_cons_succ, List.set_cons_zero, List.set_cons_succ, if_true, if_false, decide_true, decide_false, Bool.not_true, Bool.not_false, Bool.true_and, Bool.and_true, Bool.false_and, Bool.and_false, Bool.or_false, Bool.false_or, Bool.true_or, Bool.or_true, Bool.xor_false, Bool.xor_true, Bool.false_xor, Bool.true_xor, Bool.false_eq_true, Bool.true_eq_false, ite_true, ite_false, line, Nat.reduceSub, Nat.reduceAdd, Int.reduceNeg, Int.reducePow, Int.reduceLT, Int.reduceLE, Int.reduceMul, Int.reduceAdd, Int.reduceSub, Int.reduceDiv, Int.reduceMod, Int.reduceEq, Nat.reduceLeDiff, Nat.reduceLT, Nat.reduceEqDiff, and_true, true_and, and_false, false_and, and_self, gt_iff_lt, ge_iff_le, q1, q2, h]
end K01
end Z

set_option Elab.async false
set_option linter.all false
set_option maxRecDepth 100000
set_option maxHeartbeats 4000000
namespace Z
open PySem
namespace K01
variable {a0 a6 a7 a8 a9 a10 a11 a12 a13 a14 a15 a16 a17 a18 a19 a20 a21 a22 a23 a24 a25 a26 a27 a28 : Option D}
variable {a b c w : Int} {k : Nat} {s : Sto} (ha : 0 ≤ a ∧ a ≤ 255) (hb : 0 ≤ b ∧ b ≤ 255) (hc : c = 0 ∨ c = 1) (hw : 0 ≤ w ∧ w ≤ 65535) (hk : k ≤ 15)
theorem enum_len : ∀ (l : List D) (k : Nat), (enumD k l).length = l.length
  | [], _ => rfl
  | d :: l, k => by
    unfold enumD
    rw [List.length_cons, List.length_cons, enum_len l]
theorem l14g (j : Nat) {i n : Int} {L Y : List Int} (hl : (L.length : Int) = i) (hL : L.length ≤ 16777216) (hY : Y.length ≤ 16777216) (hs : Y.sum = n)
    (q1 : lcF (tTup [tName 18, tName 19]) bYes (m2 (opBin false .Mult) (mVar 19) (mCall 1 ((prog G (j + 4)).1 5) (aCons (m2 (opBin false .Sub) (m2 (opBin false .Sub) (mVar 15) (mC (.int 1))) (mVar 18)) aNil))) (enumD 0 (L.map D.int)) [a0, some (.ref 0), some (.int a), some (.int b), some (.int c), some (.int w), a6, a7, a8, a9, a10, a11, a12, a13, a14, some (.int i), some (.int n), some (.lst (L.map D.int)), none, none, a20, a21, a22, a23, a24, a25, a26, a27, a28] s = .ok (Y.map D.int) s)
    (q2 : (prog G (j + 4)).1 9 [.lst (L.map D.int)] s = .ok (.int n) s) (q3 : (prog G (j + 4)).1 15 [.int n, .int i] s = .ok (.int L.sum) s) : lb14 (prog G (j + 4)).1 [a0, some (.ref 0), some (.int a), some (.int b), some (.int c), some (.int w), a6, a7, a8, a9, a10, a11, a12, a13, a14, some (.int i), some (.int n), some (.lst (L.map D.int)), a18, a19, a20, a21, a22, a23, a24, a25, a26, a27, a28] s = .nx [a0, some (.ref 0), some (.int a), some (.int b), some (.int c), some (.int w), a6, a7, a8, a9, a10, a11, a12, a13, a14, some (.int i), some (.int n), some (.lst (L.map D.int)), a18, a19, a20, a21, a22, a23, a24, a25, a26, a27, a28] s := by
  unfold lb14
  simp only [opBin] at q1
  have h1 : (enumD 0 (L.map D.int)).length ≤ 16777216 := by rw [enum_len, List.length_map]; exact hL
  simp only [runN, sSeq, sIf, sRet, sRetN, sExpr, sAsg, sRaise, sPass, sAug, sPar, putAll, tName, tTup, tAll, goOn, R.out, R.bind_ok, R.bind_exc, R.bind_bad, R.of, R.nx, mC, mVar, m1, m2, mB, mT, mNot, mAnd, mOr, mIf, bNot, bAnd, bOr, bIf, truthR, truth, mTup, mkT, mLst, mkL, aNil, aCons, mCall, mB1, opBin, ipOp, ipAdd, ipMul, opAdd, opSub, opMul, opFdiv, opMod, unNeg, opC, opCmp, op_eq_int, op_in2, op_inl2, mChain, bYes, wVal, wRng, wOf, wR, wipeE, big, List.map_cons, List.map_nil, List.length_cons, List.length_nil, List.replicate, List.cons_append, List.nil_append, List.getElem?_cons_zero, List.getElem?_cons_succ, List.set_cons_zero, List.set_cons_succ, if_true, if_false, decide_true, decide_false, Bool.not_true, Bool.not_false, Bool.true_and, Bool.and_true, Bool.false_and, Bool.and_false, Bool.or_false, Bool.false_or, Bool.true_or, Bool.or_true, Bool.xor_false, Bool.xor_true, Bool.false_xor, Bool.true_xor, Bool.false_eq_true, Bool.true_eq_false, ite_true, ite_false, line, Nat.reduceSub, Nat.reduceAdd, Int.reduceNeg, Int.reducePow, Int.reduceLT, Int.reduceLE, Int.reduceMul, Int.reduceAdd, Int.reduceSub, Int.reduceDiv, Int.reduceMod, Int.reduceEq, Nat.reduceLeDiff, Nat.reduceLT, Nat.reduceEqDiff, and_true, true_and, and_false, false_and, and_self, gt_iff_lt, ge_iff_le, bLen, seqOf, List.length_map, hl, mLc, wEnuC, okEnu, Option.map, enuOf, lcS, h1, q1, hY, bSum, ints_of, hs, q2, q3]

theorem el14 (j : Nat) {x P i : Int} {m : Nat} {e : Env} (h15 : e[15]? = some (some (.int i))) (h18 : e[18]? = some (some (.int m))) (h19 : e[19]? = some (some (.int x))) (hx : x = 0 ∨ x = 1) (q : (prog G (j + 4)).1 5 [.int (i - 1 - m)] s = .ok (.int P) s) : (m2 (opBin false .Mult) (mVar 19) (mCall 1 ((prog G (j + 4)).1 5) (aCons (m2 (opBin false .Sub) (m2 (opBin false .Sub) (mVar 15) (mC (.int 1))) (mVar 18)) aNil))) e s = .ok (.int (x * P)) s := by
  have bg : -18446744073709551616 < x ∧ x < 18446744073709551616 := by rcases hx with rfl | rfl <;> decide
  simp only [runN, sSeq, sIf, sRet, sRetN, sExpr, sAsg, sRaise, sPass, sAug, sPar, putAll, tName, tTup, tAll, goOn, R.out, R.bind_ok, R.bind_exc, R.bind_bad, R.of, R.nx, mC, mVar, m1, m2, mB, mT, mNot, mAnd, mOr, mIf, bNot, bAnd, bOr, bIf, truthR, truth, mTup, mkT, mLst, mkL, aNil, aCons, mCall, mB1, opBin, ipOp, ipAdd, ipMul, opAdd, opSub, opMul, opFdiv, opMod, unNeg, opC, opCmp, op_eq_int, op_in2, op_inl2, mChain, bYes, wVal, wRng, wOf, wR, wipeE, big, List.map_cons, List.map_nil, List.length_cons, List.length_nil, List.replicate, List.cons_append, List.nil_append, List.getElem?_cons_zero, List.getElem?_cons_succ, List.set_cons_zero, List.set_cons_succ, if_true, if_false, decide_true, decide_false, Bool.not_true, Bool.not_false, Bool.true_and, Bool.and_true, Bool.false_and, Bool.and_false, Bool.or_false, Bool.false_or, Bool.true_or, Bool.or_true, Bool.xor_false, Bool.xor_true, Bool.false_xor, Bool.true_xor, Bool.false_eq_true, Bool.true_eq_false, ite_true, ite_false, line, Nat.reduceSub, Nat.reduceAdd, Int.reduceNeg, Int.reducePow, Int.reduceLT, Int.reduceLE, Int.reduceMul, Int.reduceAdd, Int.reduceSub, Int.reduceDiv, Int.reduceMod, Int.reduceEq, Nat.reduceLeDiff, Nat.reduceLT, Nat.reduceEqDiff, and_true, true_and, and_false, false_and, and_self, gt_iff_lt, ge_iff_le, h15, h18, h19, q, bg.1, bg.2]
end K01
end Z

set_option Elab.async false
set_option linter.all false
set_option maxRecDepth 100000
set_option maxHeartbeats 4000000
namespace Z
open PySem
namespace K01
variable {a0 a6 a7 a8 a9 a10 a11 a12 a13 a14 a15 a16 a17 a18 a19 a20 a21 a22 a23 a24 a25 a26 a27 a28 : Option D}
variable {a b c w : Int} {k : Nat} {s : Sto} (ha : 0 ≤ a ∧ a ≤ 255) (hb : 0 ≤ b ∧ b ≤ 255) (hc : c = 0 ∨ c = 1) (hw : 0 ≤ w ∧ w ≤ 65535) (hk : k ≤ 15)
theorem dn_len {α : Type} (x : Nat → α) : ∀ b, (dn x b).length = b
  | 0 => rfl
  | b + 1 => by unfold dn; rw [List.length_cons, dn_len x b]
include hk in
theorem l14 (j : Nat) : lb14 (prog G (j + 4)).1 [a0, some (.ref 0), some (.int a), some (.int b), some (.int c), some (.int w), a6, a7, a8, a9, a10, a11, a12, a13, a14, some (.int (Int.ofNat (k + 1))), some (.int (w % pw (k + 1))), some (.lst ((bitsL (w % pw (k + 1)) (k + 1)).map D.int)), a18, a19, a20, a21, a22, a23, a24, a25, a26, a27, a28] s = .nx [a0, some (.ref 0), some (.int a), some (.int b), some (.int c), some (.int w), a6, a7, a8, a9, a10, a11, a12, a13, a14, some (.int (Int.ofNat (k + 1))), some (.int (w % pw (k + 1))), some (.lst ((bitsL (w % pw (k + 1)) (k + 1)).map D.int)), a18, a19, a20, a21, a22, a23, a24, a25, a26, a27, a28] s := by
  have n0 : 0 ≤ w % pw (k + 1) := Int.emod_nonneg _ (by have := pw_pos (k + 1); omega)
  have n1 : w % pw (k + 1) < pw (k + 1) := Int.emod_lt_of_pos _ (pw_pos (k + 1))
  have hm : w % pw (k + 1) % pw (k + 1) = w % pw (k + 1) := Int.emod_eq_of_lt n0 n1
  refine l14g j (L := bitsL (w % pw (k + 1)) (k + 1)) (Y := dn (fun b => w % pw (k + 1) / pw b % 2 * pw b) (k + 1)) ?_ ?_ ?_ ?_ ?_ ?_ ?_
  · rw [bitsL_len]; rfl
  · rw [bitsL_len]; omega
  · rw [dn_len]; omega
  · rw [sum_bits, hm]
  · rw [bits_dn]
    refine cnt_lc (B := k + 1) _ _ (fun b m hbm => ?_) (k + 1) 0 (by omega)
    refine el14 j (i := Int.ofNat (k + 1)) (m := m) rfl rfl rfl (by omega) ?_
    exact power_of (j + 3) (b := b) (by omega) (by show Int.ofNat k + 1 - 1 - (m : Int) = Int.ofNat b; have : Int.ofNat k = (k : Int) := rfl; have h2 : Int.ofNat b = (b : Int) := rfl; omega) s
  · have q := from_bits (j + 3) (l := bitsL (w % pw (k + 1)) (k + 1)) (.inr rfl) (by rw [bitsL_len]; omega) (by rw [bitsL_len]; omega) (fun b hb => bitsL_01 hb) s
    rw [valB_bits, hm, Int.zero_mul, Int.zero_add] at q
    exact q
  · exact ones_in j (b := k + 1) rfl (by omega) (by omega) n0 n1 s

theorem l21 (j : Nat) (x y z : Int) : ∃ (k : Nat) (x' y' z' : Int), k ≤ 2 ∧ lb21 (prog G (j + 1)).1 [a0, some (.ref 0), some (.int a), some (.int b), some (.int c), some (.int w), a6, a7, a8, a9, a10, a11, a12, a13, a14, a15, a16, a17, a18, a19, a20, a21, a22, a23, a24, a25, a26, a27, a28] (sd x y z) = .nx [a0, some (.ref 0), some (.int a), some (.int b), some (.int c), some (.int w), a6, a7, a8, a9, a10, a11, a12, a13, a14, a15, a16, a17, a18, a19, a20, a21, a22, some (.int (Int.ofNat (k + 4))), a24, a25, a26, a27, a28] (sd x' y' z') := by
  obtain ⟨v, x1, y1, z1, h0, h1, e1⟩ := roll j x y z (m := 3) (by decide) (by decide)
  refine ⟨v.toNat, x1, y1, z1, by omega, ?_⟩
  have hv : Int.ofNat (v.toNat + 4) = 4 + v := by
    have : Int.ofNat v.toNat = v := Int.toNat_of_nonneg h0
    show Int.ofNat v.toNat + 4 = 4 + v
    omega
  rw [hv]
  unfold lb21
  simp only [runN, sSeq, sIf, sRet, sRetN, sExpr, sAsg, sRaise, sPass, sAug, sPar, putAll, tName, tTup, tAll, goOn, R.out, R.bind_ok, R.bind_exc, R.bind_bad, R.of, R.nx, mC, mVar, m1, m2, mB, mT, mNot, mAnd, mOr, mIf, bNot, bAnd, bOr, bIf, truthR, truth, mTup, mkT, mLst, mkL, aNil, aCons, mCall, mB1, opBin, ipOp, ipAdd, ipMul, opAdd, opSub, opMul, opFdiv, opMod, unNeg, opC, opCmp, op_eq_int, op_in2, op_inl2, mChain, bYes, wVal, wRng, wOf, wR, wipeE, big, List.map_cons, List.map_nil, List.length_cons, List.length_nil, List.replicate, List.cons_append, List.nil_append, List.getElem?_cons_zero, List.getElem?_cons_succ, List.set_cons_zero, List.set_cons_succ, if_true, if_false, decide_true, decide_false, Bool.not_true, Bool.not_false, Bool.true_and, Bool.and_true, Bool.false_and, Bool.and_false, Bool.or_false, Bool.false_or, Bool.true_or, Bool.or_true, Bool.xor_false, Bool.xor_true, Bool.false_xor, Bool.true_xor, Bool.false_eq_true, Bool.true_eq_false, ite_true, ite_false, line, Nat.reduceSub, Nat.reduceAdd, Int.reduceNeg, Int.reducePow, Int.reduceLT, Int.reduceLE, Int.reduceMul, Int.reduceAdd, Int.reduceSub, Int.reduceDiv, Int.reduceMod, Int.reduceEq, Nat.reduceLeDiff, Nat.reduceLT, Nat.reduceEqDiff, and_true, true_and, and_false, false_and, and_self, gt_iff_lt, ge_iff_le, e1]

theorem l22g (j : Nat) {i : Int} {t : Str} (q : (prog G (j + 2)).1 21 [.int w, .int i] s = .ok (.str t) s) : lb22 (prog G (j + 2)).1 [a0, some (.ref 0), some (.int a), some (.int b), some (.int c), some (.int w), a6, a7, a8, a9, a10, a11, a12, a13, a14, a15, a16, a17, a18, a19, a20, a21, a22, some (.int i), a24, a25, a26, a27, a28] s = .nx [a0, some (.ref 0), some (.int a), some (.int b), some (.int c), some (.int w), a6, a7, a8, a9, a10, a11, a12, a13, a14, a15, a16, a17, a18, a19, a20, a21, a22, some (.int i), some (.str t), a25, a26, a27, a28] s := by
  unfold lb22
  simp only [runN, sSeq, sIf, sRet, sRetN, sExpr, sAsg, sRaise, sPass, sAug, sPar, putAll, tName, tTup, tAll, goOn, R.out, R.bind_ok, R.bind_exc, R.bind_bad, R.of, R.nx, mC, mVar, m1, m2, mB, mT, mNot, mAnd, mOr, mIf, bNot, bAnd, bOr, bIf, truthR, truth, mTup, mkT, mLst, mkL, aNil, aCons, mCall, mB1, opBin, ipOp, ipAdd, ipMul, opAdd, opSub, opMul, opFdiv, opMod, unNeg, opC, opCmp, op_eq_int, op_in2, op_inl2, mChain, bYes, wVal, wRng, wOf, wR, wipeE, big, List.map_cons, List.map_nil, List.length_cons, List.length_nil, List.replicate, List.cons_append, List.nil_append, List.getElem?_cons_zero, List.getElem?_cons_succ, List.set_cons_zero, List.set_cons_succ, if_true, if_false, decide_true, decide_false, Bool.not_true, Bool.not_false, Bool.true_and, Bool.and_true, Bool.false_and, Bool.and_false, Bool.or_false, Bool.false_or, Bool.true_or, Bool.or_true, Bool.xor_false, Bool.xor_true, Bool.false_xor, Bool.true_xor, Bool.false_eq_true, Bool.true_eq_false, ite_true, ite_false, line, Nat.reduceSub, Nat.reduceAdd, Int.reduceNeg, Int.reducePow, Int.reduceLT, Int.reduceLE, Int.reduceMul, Int.reduceAdd, Int.reduceSub, Int.reduceDiv, Int.reduceMod, Int.reduceEq, Nat.reduceLeDiff, Nat.reduceLT, Nat.reduceEqDiff, and_true, true_and, and_false, false_and, and_self, gt_iff_lt, ge_iff_le, q]
theorem l22 (j : Nat) (hk2 : k ≤ 2) (hw : 0 ≤ w ∧ w ≤ 65535) : lb22 (prog G (j + 2)).1 [a0, some (.ref 0), some (.int a), some (.int b), some (.int c), some (.int w), a6, a7, a8, a9, a10, a11, a12, a13, a14, a15, a16, a17, a18, a19, a20, a21, a22, some (.int (Int.ofNat (k + 4))), a24, a25, a26, a27, a28] s = .nx [a0, some (.ref 0), some (.int a), some (.int b), some (.int c), some (.int w), a6, a7, a8, a9, a10, a11, a12, a13, a14, a15, a16, a17, a18, a19, a20, a21, a22, some (.int (Int.ofNat (k + 4))), some (.str (txt (digL w (k + 4)))), a25, a26, a27, a28] s := by
  have h16 : pw 16 = 65536 := by decide
  have hp := pw_le (a := 16) (b := 4 * (k + 4)) (by omega)
  exact l22g j (told_sixteens j (m := k + 4) rfl (by omega) (by omega) hw.1 (by omega) s)
end K01
end Z

set_option Elab.async false
set_option linter.all false
set_option maxRecDepth 100000
set_option maxHeartbeats 4000000
namespace Z
open PySem
namespace K01
variable {a0 a6 a7 a8 a9 a10 a11 a12 a13 a14 a15 a16 a17 a18 a19 a20 a21 a22 a23 a24 a25 a26 a27 a28 : Option D}
variable {a b c w : Int} {k : Nat} {s : Sto}
theorem l23g (j : Nat) {i : Int} {t : Str} {ds : List D} {Y : List Int} (hl : (t.length : Int) = i) (hL : t.length ≤ 16777216) (hds : (t.cps.toList.map fun c => D.str ⟨#[c]⟩) = ds) (hd : ds.length ≤ 16777216) (hY : Y.length ≤ 16777216) (hs : Y.sum = w)
    (q1 : lcF (tTup [tName 18, tName 25]) bYes (m2 (opBin false .Mult) (mMt .str mtIndex (mC (.str FIG)) (aCons (mVar 25) aNil)) (mCall 1 ((prog G (j + 4)).1 5) (aCons (m2 (opBin false .Mult) (mC (.int 4)) (m2 (opBin false .Sub) (m2 (opBin false .Sub) (mVar 23) (mC (.int 1))) (mVar 18))) aNil))) (enumD 0 ds) [a0, some (.ref 0), some (.int a), some (.int b), some (.int c), some (.int w), a6, a7, a8, a9, a10, a11, a12, a13, a14, a15, a16, a17, none, a19, a20, a21, a22, some (.int i), some (.str t), none, a26, a27, a28] s = .ok (Y.map D.int) s)
    (q2 : (prog G (j + 4)).1 22 [.str t] s = .ok (.int w) s) : lb23 (prog G (j + 4)).1 [a0, some (.ref 0), some (.int a), some (.int b), some (.int c), some (.int w), a6, a7, a8, a9, a10, a11, a12, a13, a14, a15, a16, a17, a18, a19, a20, a21, a22, some (.int i), some (.str t), a25, a26, a27, a28] s = .nx [a0, some (.ref 0), some (.int a), some (.int b), some (.int c), some (.int w), a6, a7, a8, a9, a10, a11, a12, a13, a14, a15, a16, a17, a18, a19, a20, a21, a22, some (.int i), some (.str t), a25, a26, a27, a28] s := by
  unfold lb23
  have hF : ("0123456789abcdef" : Str) = FIG := rfl
  rw [hF]
  simp only [opBin] at q1
  have h1 : (enumD 0 ds).length ≤ 16777216 := by rw [enum_len]; exact hd
  simp only [runN, sSeq, sIf, sRet, sRetN, sExpr, sAsg, sRaise, sPass, sAug, sPar, putAll, tName, tTup, tAll, goOn, R.out, R.bind_ok, R.bind_exc, R.bind_bad, R.of, R.nx, mC, mVar, m1, m2, mB, mT, mNot, mAnd, mOr, mIf, bNot, bAnd, bOr, bIf, truthR, truth, mTup, mkT, mLst, mkL, aNil, aCons, mCall, mB1, opBin, ipOp, ipAdd, ipMul, opAdd, opSub, opMul, opFdiv, opMod, unNeg, opC, opCmp, op_eq_int, op_in2, op_inl2, mChain, bYes, wVal, wRng, wOf, wR, wipeE, big, List.map_cons, List.map_nil, List.length_cons, List.length_nil, List.replicate, List.cons_append, List.nil_append, List.getElem?_cons_zero, List.getElem?_cons_succ, List.set_cons_zero, List.set_cons_succ, if_true, if_false, decide_true, decide_false, Bool.not_true, Bool.not_false, Bool.true_and, Bool.and_true, Bool.false_and, Bool.and_false, Bool.or_false, Bool.false_or, Bool.true_or, Bool.or_true, Bool.xor_false, Bool.xor_true, Bool.false_xor, Bool.true_xor, Bool.false_eq_true, Bool.true_eq_false, ite_true, ite_false, line, Nat.reduceSub, Nat.reduceAdd, Int.reduceNeg, Int.reducePow, Int.reduceLT, Int.reduceLE, Int.reduceMul, Int.reduceAdd, Int.reduceSub, Int.reduceDiv, Int.reduceMod, Int.reduceEq, Nat.reduceLeDiff, Nat.reduceLT, Nat.reduceEqDiff, and_true, true_and, and_false, false_and, and_self, gt_iff_lt, ge_iff_le, bLen, hl, hL, mLc, wEnuC, okEnu, hds, Option.map, enuOf, lcS, h1, q1, List.length_map, hY, bSum, seqOf, ints_of, hs, q2]
theorem el23 (j : Nat) {x P i : Int} {m : Nat} {e : Env} (h23 : e[23]? = some (some (.int i))) (h18 : e[18]? = some (some (.int m))) (h25 : e[25]? = some (some (.str ⟨#[hexc x]⟩))) (h0 : 0 ≤ x) (h1 : x < 16) (q : (prog G (j + 4)).1 5 [.int (4 * (i - 1 - m))] s = .ok (.int P) s) : (m2 (opBin false .Mult) (mMt .str mtIndex (mC (.str FIG)) (aCons (mVar 25) aNil)) (mCall 1 ((prog G (j + 4)).1 5) (aCons (m2 (opBin false .Mult) (mC (.int 4)) (m2 (opBin false .Sub) (m2 (opBin false .Sub) (mVar 23) (mC (.int 1))) (mVar 18))) aNil))) e s = .ok (.int (x * P)) s := by
  have bg : -18446744073709551616 < x ∧ x < 18446744073709551616 := by omega
  have q0 := fig_ix h0 h1 s
  simp only [runN, sSeq, sIf, sRet, sRetN, sExpr, sAsg, sRaise, sPass, sAug, sPar, putAll, tName, tTup, tAll, goOn, R.out, R.bind_ok, R.bind_exc, R.bind_bad, R.of, R.nx, mC, mVar, m1, m2, mB, mT, mNot, mAnd, mOr, mIf, bNot, bAnd, bOr, bIf, truthR, truth, mTup, mkT, mLst, mkL, aNil, aCons, mCall, mB1, opBin, ipOp, ipAdd, ipMul, opAdd, opSub, opMul, opFdiv, opMod, unNeg, opC, opCmp, op_eq_int, op_in2, op_inl2, mChain, bYes, wVal, wRng, wOf, wR, wipeE, big, List.map_cons, List.map_nil, List.length_cons, List.length_nil, List.replicate, List.cons_append, List.nil_append, List.getElem?_cons_zero, List.getElem?_cons_succ, List.set_cons_zero, List.set_cons_succ, if_true, if_false, decide_true, decide_false, Bool.not_true, Bool.not_false, Bool.true_and, Bool.and_true, Bool.false_and, Bool.and_false, Bool.or_false, Bool.false_or, Bool.true_or, Bool.or_true, Bool.xor_false, Bool.xor_true, Bool.false_xor, Bool.true_xor, Bool.false_eq_true, Bool.true_eq_false, ite_true, ite_false, line, Nat.reduceSub, Nat.reduceAdd, Int.reduceNeg, Int.reducePow, Int.reduceLT, Int.reduceLE, Int.reduceMul, Int.reduceAdd, Int.reduceSub, Int.reduceDiv, Int.reduceMod, Int.reduceEq, Nat.reduceLeDiff, Nat.reduceLT, Nat.reduceEqDiff, and_true, true_and, and_false, false_and, and_self, gt_iff_lt, ge_iff_le, h23, h18, h25, q, bg.1, bg.2, mMt, isTy, isStr, q0]

theorem l23 (j : Nat) (hk2 : k ≤ 2) (hw : 0 ≤ w ∧ w ≤ 65535) : lb23 (prog G (j + 4)).1 [a0, some (.ref 0), some (.int a), some (.int b), some (.int c), some (.int w), a6, a7, a8, a9, a10, a11, a12, a13, a14, a15, a16, a17, a18, a19, a20, a21, a22, some (.int (Int.ofNat (k + 4))), some (.str (txt (digL w (k + 4)))), a25, a26, a27, a28] s = .nx [a0, some (.ref 0), some (.int a), some (.int b), some (.int c), some (.int w), a6, a7, a8, a9, a10, a11, a12, a13, a14, a15, a16, a17, a18, a19, a20, a21, a22, some (.int (Int.ofNat (k + 4))), some (.str (txt (digL w (k + 4)))), a25, a26, a27, a28] s := by
  have h16 : pw 16 = 65536 := by decide
  have hp := pw_le (a := 16) (b := 4 * (k + 4)) (by omega)
  have hm : w % pw (4 * (k + 4)) = w := Int.emod_eq_of_lt hw.1 (by omega)
  refine l23g j (ds := chs (digL w (k + 4))) (Y := dn (fun b => w / pw (4 * b) % 16 * pw (4 * b)) (k + 4)) ?_ ?_ txt_items ?_ ?_ ?_ ?_ ?_
  · rw [txt_len, digL_len]; rfl
  · rw [txt_len, digL_len]; omega
  · unfold chs; rw [List.length_map, digL_len]; omega
  · rw [dn_len]; omega
  · rw [sum_digs, hm]
  · rw [chs_dn]
    refine cnt_lc (B := k + 4) _ _ (fun b m hbm => ?_) (k + 4) 0 (by omega)
    refine el23 j (i := Int.ofNat (k + 4)) (m := m) rfl rfl rfl (by omega) (by omega) ?_
    exact power_of (j + 3) (b := 4 * b) (by omega) (by have h1 : Int.ofNat (k + 4) = (k : Int) + 4 := rfl; have h2 : Int.ofNat (4 * b) = ((4 * b : Nat) : Int) := rfl; rw [h1, h2]; omega) s
  · have q := read_sixteens (j + 3) (l := digL w (k + 4)) (by rw [digL_len]; omega) (by rw [digL_len]; omega) (fun z hz => digL_in hz) s
    rw [valH_dig, hm, Int.zero_mul, Int.zero_add] at q
    exact q
end K01
end Z

set_option Elab.async false
set_option linter.all false
set_option maxRecDepth 100000
set_option maxHeartbeats 4000000
namespace Z
open PySem
namespace K01
variable {a0 a6 a7 a8 a9 a10 a11 a12 a13 a14 a15 a16 a17 a18 a19 a20 a21 a22 a23 a24 a25 a26 a27 a28 : Option D}
variable {a b c w : Int} {k : Nat} {s : Sto}
theorem roll_lc (j : Nat) : ∀ (ds : List D) (e : Env) (x y z : Int), e[1]? = some (some (.ref 0)) → ∃ (L : List Int) (x' y' z' : Int), (∀ q ∈ L, 0 ≤ q ∧ q ≤ 255) ∧ L.length = ds.length ∧ lcF (tName 18) bYes (mCall 2 ((prog G (j + 1)).1 26) (aCons (mVar 1) (aCons (mC (.int 256)) aNil))) ds e (sd x y z) = .ok (L.map D.int) (sd x' y' z')
  | [], e, x, y, z, h => ⟨[], x, y, z, fun q hq => (by cases hq), rfl, rfl⟩
  | d :: ds, e, x, y, z, h => by
    obtain ⟨v, x1, y1, z1, h0, h1, e1⟩ := roll j x y z (m := 256) (by decide) (by decide)
    obtain ⟨L, x2, y2, z2, hL, hl, e2⟩ := roll_lc j ds e x1 y1 z1 h
    refine ⟨v :: L, x2, y2, z2, fun q hq => ?_, by rw [List.length_cons, List.length_cons, hl], ?_⟩
    · rcases List.mem_cons.mp hq with rfl | hq
      · omega
      · exact hL q hq
    · have h' : (e.set 18 (some d))[1]? = some (some (.ref 0)) := by rw [List.getElem?_set_ne (by decide)]; exact h
      have hel : mCall 2 ((prog G (j + 1)).1 26) (aCons (mVar 1) (aCons (mC (.int 256)) aNil)) (e.set 18 (some d)) (sd x y z) = .ok (.int v) (sd x1 y1 z1) := by
        simp only [runN, sSeq, sIf, sRet, sRetN, sExpr, sAsg, sRaise, sPass, sAug, sPar, putAll, tName, tTup, tAll, goOn, R.out, R.bind_ok, R.bind_exc, R.bind_bad, R.of, R.nx, mC, mVar, m1, m2, mB, mT, mNot, mAnd, mOr, mIf, bNot, bAnd, bOr, bIf, truthR, truth, mTup, mkT, mLst, mkL, aNil, aCons, mCall, mB1, opBin, ipOp, ipAdd, ipMul, opAdd, opSub, opMul, opFdiv, opMod, unNeg, opC, opCmp, op_eq_int, op_in2, op_inl2, mChain, bYes, wVal, wRng, wOf, wR, wipeE, big, List.map_cons, List.map_nil, List.length_cons, List.length_nil, List.replicate, List.cons_append, List.nil_append, List.getElem?_cons_zero, List.getElem?_cons_succ, List.set_cons_zero, List.set_cons_succ, if_true, if_false, decide_true, decide_false, Bool.not_true, Bool.not_false, Bool.true_and, Bool.and_true, Bool.false_and, Bool.and_false, Bool.or_false, Bool.false_or, Bool.true_or, Bool.or_true, Bool.xor_false, Bool.xor_true, Bool.false_xor, Bool.true_xor, Bool.false_eq_true, Bool.true_eq_false, ite_true, ite_false, line, Nat.reduceSub, Nat.reduceAdd, Int.reduceNeg, Int.reducePow, Int.reduceLT, Int.reduceLE, Int.reduceMul, Int.reduceAdd, Int.reduceSub, Int.reduceDiv, Int.reduceMod, Int.reduceEq, Nat.reduceLeDiff, Nat.reduceLT, Nat.reduceEqDiff, and_true, true_and, and_false, false_and, and_self, gt_iff_lt, ge_iff_le, h', e1]
      unfold lcF lcT
      show ((mCall 2 ((prog G (j + 1)).1 26) (aCons (mVar 1) (aCons (mC (.int 256)) aNil)) (e.set 18 (some d)) (sd x y z)).nx.bind fun v s3 => (lcF (tName 18) bYes (mCall 2 ((prog G (j + 1)).1 26) (aCons (mVar 1) (aCons (mC (.int 256)) aNil))) ds e s3).bind fun r s4 => R.ok (v :: r) s4) = _
      rw [hel]
      show ((lcF (tName 18) bYes (mCall 2 ((prog G (j + 1)).1 26) (aCons (mVar 1) (aCons (mC (.int 256)) aNil))) ds e (sd x1 y1 z1)).bind fun r s4 => R.ok (D.int v :: r) s4) = _
      rw [e2]
      rfl
theorem rng1 {v : Int} (h0 : 0 ≤ v) (h1 : v < 100) : ∃ ds : List D, rng [.int v] = some ds ∧ ds.length ≤ 100 := by
  refine ⟨rngL 0 1 v.toNat, ?_, by unfold rngL; rw [List.length_map, List.length_range]; omega⟩
  unfold rng
  show (if decide (-(2 ^ 62) ≤ v) && decide (v < 2 ^ 62) then some (rngL 0 1 v.toNat) else none) = _
  rw [if_pos (by rw [decide_eq_true (show -(2 ^ 62) ≤ v by omega), decide_eq_true (show v < 2 ^ 62 by omega)]; rfl)]
theorem l24 (j : Nat) (x y z : Int) : ∃ (L : List Int) (x' y' z' : Int), (∀ q ∈ L, 0 ≤ q ∧ q ≤ 255) ∧ lb24 (prog G (j + 1)).1 [a0, some (.ref 0), some (.int a), some (.int b), some (.int c), some (.int w), a6, a7, a8, a9, a10, a11, a12, a13, a14, a15, a16, a17, a18, a19, a20, a21, a22, a23, a24, a25, a26, a27, a28] (sd x y z) = .nx [a0, some (.ref 0), some (.int a), some (.int b), some (.int c), some (.int w), a6, a7, a8, a9, a10, a11, a12, a13, a14, a15, a16, some (.lst (L.map D.int)), a18, a19, a20, a21, a22, a23, a24, a25, some (.int 0), some (.int 0), a28] (sd x' y' z') := by
  obtain ⟨v, x1, y1, z1, h0, h1, e1⟩ := roll j x y z (m := 9) (by decide) (by decide)
  obtain ⟨ds, hds, hdl⟩ := rng1 h0 (by omega)
  obtain ⟨L, x2, y2, z2, hL, hl, e2⟩ := roll_lc j ds [a0, some (.ref 0), some (.int a), some (.int b), some (.int c), some (.int w), a6, a7, a8, a9, a10, a11, a12, a13, a14, a15, a16, a17, none, a19, a20, a21, a22, a23, a24, a25, a26, a27, a28] x1 y1 z1 rfl
  refine ⟨L, x2, y2, z2, hL, ?_⟩
  have h2 : ds.length ≤ 16777216 := by omega
  have h3 : L.length ≤ 16777216 := by omega
  unfold lb24
  simp only [runN, sSeq, sIf, sRet, sRetN, sExpr, sAsg, sRaise, sPass, sAug, sPar, putAll, tName, tTup, tAll, goOn, R.out, R.bind_ok, R.bind_exc, R.bind_bad, R.of, R.nx, mC, mVar, m1, m2, mB, mT, mNot, mAnd, mOr, mIf, bNot, bAnd, bOr, bIf, truthR, truth, mTup, mkT, mLst, mkL, aNil, aCons, mCall, mB1, opBin, ipOp, ipAdd, ipMul, opAdd, opSub, opMul, opFdiv, opMod, unNeg, opC, opCmp, op_eq_int, op_in2, op_inl2, mChain, bYes, wVal, wRng, wOf, wR, wipeE, big, List.map_cons, List.map_nil, List.length_cons, List.length_nil, List.replicate, List.cons_append, List.nil_append, List.getElem?_cons_zero, List.getElem?_cons_succ, List.set_cons_zero, List.set_cons_succ, if_true, if_false, decide_true, decide_false, Bool.not_true, Bool.not_false, Bool.true_and, Bool.and_true, Bool.false_and, Bool.and_false, Bool.or_false, Bool.false_or, Bool.true_or, Bool.or_true, Bool.xor_false, Bool.xor_true, Bool.false_xor, Bool.true_xor, Bool.false_eq_true, Bool.true_eq_false, ite_true, ite_false, line, Nat.reduceSub, Nat.reduceAdd, Int.reduceNeg, Int.reducePow, Int.reduceLT, Int.reduceLE, Int.reduceMul, Int.reduceAdd, Int.reduceSub, Int.reduceDiv, Int.reduceMod, Int.reduceEq, Nat.reduceLeDiff, Nat.reduceLT, Nat.reduceEqDiff, and_true, true_and, and_false, false_and, and_self, gt_iff_lt, ge_iff_le, e1, hds, Option.map, mLc, lcS, h2, e2, List.length_map, h3]
def fs : List Int → Int × Int → Int × Int
  | [], q => q
  | b :: l, (f, r) => fs l (f + b, r + f + b)

theorem fs_loop {L : List Int} : ∀ (M : List Int) (x : Option D) (f r : Int), ∃ y, forF (tName 16) (sSeq (sPar [26, 27] (aCons (m2 (opBin false .Add) (mVar 26) (mVar 16)) (aCons (m2 (opBin false .Add) (m2 (opBin false .Add) (mVar 27) (mVar 26)) (mVar 16)) aNil))) sPass) (M.map D.int) [a0, some (.ref 0), some (.int a), some (.int b), some (.int c), some (.int w), a6, a7, a8, a9, a10, a11, a12, a13, a14, a15, x, some (.lst (L.map D.int)), a18, a19, a20, a21, a22, a23, a24, a25, some (.int f), some (.int r), a28] s = .nx [a0, some (.ref 0), some (.int a), some (.int b), some (.int c), some (.int w), a6, a7, a8, a9, a10, a11, a12, a13, a14, a15, y, some (.lst (L.map D.int)), a18, a19, a20, a21, a22, a23, a24, a25, some (.int (fs M (f, r)).1), some (.int (fs M (f, r)).2), a28] s
  | [], x, f, r => ⟨x, rfl⟩
  | b1 :: M, x, f, r => by
    obtain ⟨y, e⟩ := fs_loop M (some (.int b1)) (f + b1) (r + f + b1)
    refine ⟨y, ?_⟩
    rw [List.map_cons, forF_cons (e1 := [a0, some (.ref 0), some (.int a), some (.int b), some (.int c), some (.int w), a6, a7, a8, a9, a10, a11, a12, a13, a14, a15, some (.int b1), some (.lst (L.map D.int)), a18, a19, a20, a21, a22, a23, a24, a25, some (.int f), some (.int r), a28]) (e2 := [a0, some (.ref 0), some (.int a), some (.int b), some (.int c), some (.int w), a6, a7, a8, a9, a10, a11, a12, a13, a14, a15, some (.int b1), some (.lst (L.map D.int)), a18, a19, a20, a21, a22, a23, a24, a25, some (.int (f + b1)), some (.int (r + f + b1)), a28]) (s1 := s) (s2 := s) rfl (by simp only [runN, sSeq, sIf, sRet, sRetN, sExpr, sAsg, sRaise, sPass, sAug, sPar, putAll, tName, tTup, tAll, goOn, R.out, R.bind_ok, R.bind_exc, R.bind_bad, R.of, R.nx, mC, mVar, m1, m2, mB, mT, mNot, mAnd, mOr, mIf, bNot, bAnd, bOr, bIf, truthR, truth, mTup, mkT, mLst, mkL, aNil, aCons, mCall, mB1, opBin, ipOp, ipAdd, ipMul, opAdd, opSub, opMul, opFdiv, opMod, unNeg, opC, opCmp, op_eq_int, op_in2, op_inl2, mChain, bYes, wVal, wRng, wOf, wR, wipeE, big, List.map_cons, List.map_nil, List.length_cons, List.length_nil, List.replicate, List.cons_append, List.nil_append, List.getElem?_cons_zero, List.getElem?_cons_succ, List.set_cons_zero, List.set_cons_succ, if_true, if_false, decide_true, decide_false, Bool.not_true, Bool.not_false, Bool.true_and, Bool.and_true, Bool.false_and, Bool.and_false, Bool.or_false, Bool.false_or, Bool.true_or, Bool.or_true, Bool.xor_false, Bool.xor_true, Bool.false_xor, Bool.true_xor, Bool.false_eq_true, Bool.true_eq_false, ite_true, ite_false, line, Nat.reduceSub, Nat.reduceAdd, Int.reduceNeg, Int.reducePow, Int.reduceLT, Int.reduceLE, Int.reduceMul, Int.reduceAdd, Int.reduceSub, Int.reduceDiv, Int.reduceMod, Int.reduceEq, Nat.reduceLeDiff, Nat.reduceLT, Nat.reduceEqDiff, and_true, true_and, and_false, false_and, and_self, gt_iff_lt, ge_iff_le]), e]
    rfl

theorem l25 (j : Nat) {L : List Int} : ∃ y, lb25 (prog G (j + 1)).1 [a0, some (.ref 0), some (.int a), some (.int b), some (.int c), some (.int w), a6, a7, a8, a9, a10, a11, a12, a13, a14, a15, a16, some (.lst (L.map D.int)), a18, a19, a20, a21, a22, a23, a24, a25, some (.int 0), some (.int 0), a28] s = .nx [a0, some (.ref 0), some (.int a), some (.int b), some (.int c), some (.int w), a6, a7, a8, a9, a10, a11, a12, a13, a14, a15, y, some (.lst (L.map D.int)), a18, a19, a20, a21, a22, a23, a24, a25, some (.int (fs L (0, 0)).1), some (.int (fs L (0, 0)).2), a28] s := by
  obtain ⟨y, e⟩ := fs_loop (s := s) (L := L) (a0 := a0) (a6 := a6) (a7 := a7) (a8 := a8) (a9 := a9) (a10 := a10) (a11 := a11) (a12 := a12) (a13 := a13) (a14 := a14) (a15 := a15) (a18 := a18) (a19 := a19) (a20 := a20) (a21 := a21) (a22 := a22) (a23 := a23) (a24 := a24) (a25 := a25) (a28 := a28) (a := a) (b := b) (c := c) (w := w) L a16 0 0
  refine ⟨y, ?_⟩
  unfold lb25
  simp only [opBin] at e
  simp only [runN, sSeq, sIf, sRet, sRetN, sExpr, sAsg, sRaise, sPass, sAug, sPar, putAll, tName, tTup, tAll, goOn, R.out, R.bind_ok, R.bind_exc, R.bind_bad, R.of, R.nx, mC, mVar, m1, m2, mB, mT, mNot, mAnd, mOr, mIf, bNot, bAnd, bOr, bIf, truthR, truth, mTup, mkT, mLst, mkL, aNil, aCons, mCall, mB1, opBin, ipOp, ipAdd, ipMul, opAdd, opSub, opMul, opFdiv, opMod, unNeg, opC, opCmp, op_eq_int, op_in2, op_inl2, mChain, bYes, wVal, wRng, wOf, wR, wipeE, big, List.map_cons, List.map_nil, List.length_cons, List.length_nil, List.replicate, List.cons_append, List.nil_append, List.getElem?_cons_zero, List.getElem?_cons_succ, List.set_cons_zero, List.set_cons_succ, if_true, if_false, decide_true, decide_false, Bool.not_true, Bool.not_false, Bool.true_and, Bool.and_true, Bool.false_and, Bool.and_false, Bool.or_false, Bool.false_or, Bool.true_or, Bool.or_true, Bool.xor_false, Bool.xor_true, Bool.false_xor, Bool.true_xor, Bool.false_eq_true, Bool.true_eq_false, ite_true, ite_false, line, Nat.reduceSub, Nat.reduceAdd, Int.reduceNeg, Int.reducePow, Int.reduceLT, Int.reduceLE, Int.reduceMul, Int.reduceAdd, Int.reduceSub, Int.reduceDiv, Int.reduceMod, Int.reduceEq, Nat.reduceLeDiff, Nat.reduceLT, Nat.reduceEqDiff, and_true, true_and, and_false, false_and, and_self, gt_iff_lt, ge_iff_le, sForW, forS, e]
theorem cs_fs : ∀ (l : List Int) (f r : Int), cs l (f % 255, r % 255) = ((fs l (f, r)).1 % 255, (fs l (f, r)).2 % 255)
  | [], f, r => rfl
  | b :: l, f, r => by
    show cs l ((f % 255 + b) % 255, (r % 255 + (f % 255 + b) % 255) % 255) = _
    have h1 : (f % 255 + b) % 255 = (f + b) % 255 := by omega
    have h2 : (r % 255 + (f % 255 + b) % 255) % 255 = (r + f + b) % 255 := by omega
    rw [h1, h1] at *
    rw [show (r % 255 + (f + b) % 255) % 255 = (r + f + b) % 255 by omega]
    exact cs_fs l (f + b) (r + f + b)
theorem l26 (j : Nat) {L : List Int} (hL : ∀ q ∈ L, 0 ≤ q ∧ q ≤ 255) : lb26 (prog G (j + 2)).1 [a0, some (.ref 0), some (.int a), some (.int b), some (.int c), some (.int w), a6, a7, a8, a9, a10, a11, a12, a13, a14, a15, a16, some (.lst (L.map D.int)), a18, a19, a20, a21, a22, a23, a24, a25, some (.int (fs L (0, 0)).1), some (.int (fs L (0, 0)).2), a28] s = .nx [a0, some (.ref 0), some (.int a), some (.int b), some (.int c), some (.int w), a6, a7, a8, a9, a10, a11, a12, a13, a14, a15, a16, some (.lst (L.map D.int)), a18, a19, a20, a21, a22, a23, a24, a25, some (.int (fs L (0, 0)).1), some (.int (fs L (0, 0)).2), a28] s := by
  have q := check_sums j hL s
  have h := cs_fs L 0 0
  rw [show (0 : Int) % 255 = 0 by decide] at h
  rw [h] at q
  have e1 := eq_t2 (n := true) (s := s) (a := (fs L (0, 0)).1 % 255) (b := (fs L (0, 0)).2 % 255) rfl rfl
  generalize (fs L (0, 0)).1 = A at *
  generalize (fs L (0, 0)).2 = B at *
  unfold lb26
  simp only [runN, sSeq, sIf, sRet, sRetN, sExpr, sAsg, sRaise, sPass, sAug, sPar, putAll, tName, tTup, tAll, goOn, R.out, R.bind_ok, R.bind_exc, R.bind_bad, R.of, R.nx, mC, mVar, m1, m2, mB, mT, mNot, mAnd, mOr, mIf, bNot, bAnd, bOr, bIf, truthR, truth, mTup, mkT, mLst, mkL, aNil, aCons, mCall, mB1, opBin, ipOp, ipAdd, ipMul, opAdd, opSub, opMul, opFdiv, opMod, unNeg, opC, opCmp, op_eq_int, op_in2, op_inl2, mChain, bYes, wVal, wRng, wOf, wR, wipeE, big, List.map_cons, List.map_nil, List.length_cons, List.length_nil, List.replicate, List.cons_append, List.nil_append, List.getElem?_cons_zero, List.getElem?_cons_succ, List.set_cons_zero, List.set_cons_succ, if_true, if_false, decide_true, decide_false, Bool.not_true, Bool.not_false, Bool.true_and, Bool.and_true, Bool.false_and, Bool.and_false, Bool.or_false, Bool.false_or, Bool.true_or, Bool.or_true, Bool.xor_false, Bool.xor_true, Bool.false_xor, Bool.true_xor, Bool.false_eq_true, Bool.true_eq_false, ite_true, ite_false, line, Nat.reduceSub, Nat.reduceAdd, Int.reduceNeg, Int.reducePow, Int.reduceLT, Int.reduceLE, Int.reduceMul, Int.reduceAdd, Int.reduceSub, Int.reduceDiv, Int.reduceMod, Int.reduceEq, Nat.reduceLeDiff, Nat.reduceLT, Nat.reduceEqDiff, and_true, true_and, and_false, false_and, and_self, gt_iff_lt, ge_iff_le, q, e1]
end K01
end Z

set_option Elab.async false
set_option linter.all false
set_option maxRecDepth 100000
set_option maxHeartbeats 4000000
namespace Z
open PySem
namespace K01
theorem turn_all : allTo (fun n => decide (0 ≤ valB (bitsL (Int.ofNat n) 8).reverse 0 ∧ valB (bitsL (Int.ofNat n) 8).reverse 0 ≤ 255 ∧ bitsL (valB (bitsL (Int.ofNat n) 8).reverse 0) 8 = (bitsL (Int.ofNat n) 8).reverse)) 256 = true := by decide +kernel
theorem turn {a : Int} (h0 : 0 ≤ a) (h1 : a ≤ 255) : 0 ≤ valB (bitsL a 8).reverse 0 ∧ valB (bitsL a 8).reverse 0 ≤ 255 ∧ bitsL (valB (bitsL a 8).reverse 0) 8 = (bitsL a 8).reverse := by
  have q := allTo_ok (k := a.toNat) turn_all (by omega)
  have e : Int.ofNat a.toNat = a := Int.toNat_of_nonneg h0
  rw [e] at q
  exact of_decide_eq_true q
variable {a0 a6 a7 a8 a9 a10 a11 a12 a13 a14 a15 a16 a17 a18 a19 a20 a21 a22 a23 a24 a25 a26 a27 a28 : Option D}
variable {a b c w : Int} {k : Nat} {s : Sto}
theorem filt {el : ME} {e : Env} {s : Sto} (he : 19 < e.length) : ∀ (l : List Int), (∀ b ∈ l, b = 0 ∨ b = 1) → lcF (tName 19) (mB (m2 (opC .NotIn) (mVar 19) (mLst false (aCons (mC (.int 0)) (aCons (mC (.int 1)) aNil))))) el (l.map D.int) e s = .ok [] s
  | [], _ => rfl
  | b :: l, h => by
    have ih := filt (el := el) (s := s) he l fun q hq => h q (List.mem_cons_of_mem _ hq)
    have h1 : (e.set 19 (some (.int b)))[19]? = some (some (.int b)) := by rw [List.getElem?_set_self he]
    have hc : mB (m2 (opC .NotIn) (mVar 19) (mLst false (aCons (mC (.int 0)) (aCons (mC (.int 1)) aNil)))) (e.set 19 (some (.int b))) s = .ok false s := by
      simp only [runN, sSeq, sIf, sRet, sRetN, sExpr, sAsg, sRaise, sPass, sAug, sPar, putAll, tName, tTup, tAll, goOn, R.out, R.bind_ok, R.bind_exc, R.bind_bad, R.of, R.nx, mC, mVar, m1, m2, mB, mT, mNot, mAnd, mOr, mIf, bNot, bAnd, bOr, bIf, truthR, truth, mTup, mkT, mLst, mkL, aNil, aCons, mCall, mB1, opBin, ipOp, ipAdd, ipMul, opAdd, opSub, opMul, opFdiv, opMod, unNeg, opC, opCmp, op_eq_int, op_in2, op_inl2, mChain, bYes, wVal, wRng, wOf, wR, wipeE, big, List.map_cons, List.map_nil, List.length_cons, List.length_nil, List.replicate, List.cons_append, List.nil_append, List.getElem?_cons_zero, List.getElem?_cons_succ, List.set_cons_zero, List.set_cons_succ, if_true, if_false, decide_true, decide_false, Bool.not_true, Bool.not_false, Bool.true_and, Bool.and_true, Bool.false_and, Bool.and_false, Bool.or_false, Bool.false_or, Bool.true_or, Bool.or_true, Bool.xor_false, Bool.xor_true, Bool.false_xor, Bool.true_xor, Bool.false_eq_true, Bool.true_eq_false, ite_true, ite_false, line, Nat.reduceSub, Nat.reduceAdd, Int.reduceNeg, Int.reducePow, Int.reduceLT, Int.reduceLE, Int.reduceMul, Int.reduceAdd, Int.reduceSub, Int.reduceDiv, Int.reduceMod, Int.reduceEq, Nat.reduceLeDiff, Nat.reduceLT, Nat.reduceEqDiff, and_true, true_and, and_false, false_and, and_self, gt_iff_lt, ge_iff_le, h1, in01 (h b (List.mem_cons_self ..))]
    rw [List.map_cons]
    unfold lcF lcT
    show ((mB (m2 (opC .NotIn) (mVar 19) (mLst false (aCons (mC (.int 0)) (aCons (mC (.int 1)) aNil)))) (e.set 19 (some (.int b))) s).nx.bind _) = _
    rw [hc]
    exact ih
theorem l15g (j : Nat) {i P t : Int} {L T M : List Int} (q1 : (prog G (j + 4)).1 5 [.int i] s = .ok (.int (2 * P)) s) (q2 : (prog G (j + 4)).1 5 [.int (i - 1)] s = .ok (.int P) s) (hL : L.length ≤ 16777216) (h01 : ∀ b ∈ L, b = 0 ∨ b = 1)
    (q3 : (prog G (j + 4)).1 14 [.int a] s = .ok (.int t) s) (q4 : (prog G (j + 4)).1 8 [.int t, .int 8] s = .ok (.tup (M.map D.int)) s) (q5 : (prog G (j + 4)).1 8 [.int a, .int 8] s = .ok (.tup (T.map D.int)) s) (hM : M.length ≤ 16777216) (hT : T.length ≤ 16777216) (hMT : M = T.reverse) : lb15 (prog G (j + 4)).1 [a0, some (.ref 0), some (.int a), some (.int b), some (.int c), some (.int w), a6, a7, a8, a9, a10, a11, a12, a13, a14, some (.int i), a16, some (.lst (L.map D.int)), a18, a19, a20, a21, a22, a23, a24, a25, a26, a27, a28] s = .nx [a0, some (.ref 0), some (.int a), some (.int b), some (.int c), some (.int w), a6, a7, a8, a9, a10, a11, a12, a13, a14, some (.int i), a16, some (.lst (L.map D.int)), a18, a19, a20, a21, a22, a23, a24, a25, a26, a27, a28] s := by
  have e0 := filt (el := mVar 19) (e := [a0, some (.ref 0), some (.int a), some (.int b), some (.int c), some (.int w), a6, a7, a8, a9, a10, a11, a12, a13, a14, some (.int i), a16, some (.lst (L.map D.int)), a18, none, a20, a21, a22, a23, a24, a25, a26, a27, a28]) (s := s) (by simp) L h01
  have e1 : opEq true (.lst []) (.lst []) s = some (.bl false, s) := rfl
  have e2 := op_eq_ll (n := true) (i := M) (j := M) (s := s)
  have bg : -18446744073709551616 < (2 : Int) ∧ (2 : Int) < 18446744073709551616 := by decide
  have hr : T.reverse.length ≤ 16777216 := by rw [List.length_reverse]; exact hT
  simp only [opC] at e0
  subst hMT
  unfold lb15
  simp only [runN, sSeq, sIf, sRet, sRetN, sExpr, sAsg, sRaise, sPass, sAug, sPar, putAll, tName, tTup, tAll, goOn, R.out, R.bind_ok, R.bind_exc, R.bind_bad, R.of, R.nx, mC, mVar, m1, m2, mB, mT, mNot, mAnd, mOr, mIf, bNot, bAnd, bOr, bIf, truthR, truth, mTup, mkT, mLst, mkL, aNil, aCons, mCall, mB1, opBin, ipOp, ipAdd, ipMul, opAdd, opSub, opMul, opFdiv, opMod, unNeg, opC, opCmp, op_eq_int, op_in2, op_inl2, mChain, bYes, wVal, wRng, wOf, wR, wipeE, big, List.map_cons, List.map_nil, List.length_cons, List.length_nil, List.replicate, List.cons_append, List.nil_append, List.getElem?_cons_zero, List.getElem?_cons_succ, List.set_cons_zero, List.set_cons_succ, if_true, if_false, decide_true, decide_false, Bool.not_true, Bool.not_false, Bool.true_and, Bool.and_true, Bool.false_and, Bool.and_false, Bool.or_false, Bool.false_or, Bool.true_or, Bool.or_true, Bool.xor_false, Bool.xor_true, Bool.false_xor, Bool.true_xor, Bool.false_eq_true, Bool.true_eq_false, ite_true, ite_false, line, Nat.reduceSub, Nat.reduceAdd, Int.reduceNeg, Int.reducePow, Int.reduceLT, Int.reduceLE, Int.reduceMul, Int.reduceAdd, Int.reduceSub, Int.reduceDiv, Int.reduceMod, Int.reduceEq, Nat.reduceLeDiff, Nat.reduceLT, Nat.reduceEqDiff, and_true, true_and, and_false, false_and, and_self, gt_iff_lt, ge_iff_le, q1, q2, mLc, lcS, List.length_map, hL, e0, e1, q3, q4, q5, bList, seqOf, hM, hT, opRev, lstOf, rev_map, hr, e2]
theorem l15 (j : Nat) (ha : 0 ≤ a ∧ a ≤ 255) (hk : k ≤ 15) : lb15 (prog G (j + 4)).1 [a0, some (.ref 0), some (.int a), some (.int b), some (.int c), some (.int w), a6, a7, a8, a9, a10, a11, a12, a13, a14, some (.int (Int.ofNat (k + 1))), some (.int (w % pw (k + 1))), some (.lst ((bitsL (w % pw (k + 1)) (k + 1)).map D.int)), a18, a19, a20, a21, a22, a23, a24, a25, a26, a27, a28] s = .nx [a0, some (.ref 0), some (.int a), some (.int b), some (.int c), some (.int w), a6, a7, a8, a9, a10, a11, a12, a13, a14, some (.int (Int.ofNat (k + 1))), some (.int (w % pw (k + 1))), some (.lst ((bitsL (w % pw (k + 1)) (k + 1)).map D.int)), a18, a19, a20, a21, a22, a23, a24, a25, a26, a27, a28] s := by
  obtain ⟨t0, t1, t2⟩ := turn ha.1 ha.2
  have q1 := power_of (j + 3) (b := k + 1) (i := Int.ofNat (k + 1)) (by omega) rfl s
  rw [pw_succ] at q1
  exact l15g (a16 := some (.int (w % pw (k + 1)))) j q1 (power_of (j + 3) (b := k) (by omega) (by show Int.ofNat k + 1 - 1 = Int.ofNat k; omega) s) (by rw [bitsL_len]; omega) (fun b hb => bitsL_01 hb) (turned_round j ha.1 ha.2 s) (bits8 (j + 1) t0 t1 s) (bits8 (j + 1) ha.1 ha.2 s) (by rw [bitsL_len]; decide) (by rw [bitsL_len]; decide) t2
end K01
end Z

set_option Elab.async false
set_option linter.all false
set_option maxRecDepth 100000
set_option maxHeartbeats 4000000
namespace Z
open PySem
namespace K01
theorem sSeq_nx {a b : MS} {e e1 : Env} {s s1 : Sto} (h : a e s = .nx e1 s1) : sSeq a b e s = b e1 s1 := by
  unfold sSeq
  rw [h]
variable {a0 a2 a3 a4 a5 a6 a7 a8 a9 a10 a11 a12 a13 a14 a15 a16 a17 a18 a19 a20 a21 a22 a23 a24 a25 a26 a27 a28 : Option D}
theorem body (j : Nat) (x y z : Int) : ∃ e' s', lawBody (prog G (j + 4)).1 [a0, some (.ref 0), a2, a3, a4, a5, a6, a7, a8, a9, a10, a11, a12, a13, a14, a15, a16, a17, a18, a19, a20, a21, a22, a23, a24, a25, a26, a27, a28] (sd x y z) = .nx e' s' := by
  obtain ⟨a, b, c, w, x1, y1, z1, ha, hb, hc, hw, h0⟩ := l0 (a0 := a0) (a2 := a2) (a3 := a3) (a4 := a4) (a5 := a5) (a6 := a6) (a7 := a7) (a8 := a8) (a9 := a9) (a10 := a10) (a11 := a11) (a12 := a12) (a13 := a13) (a14 := a14) (a15 := a15) (a16 := a16) (a17 := a17) (a18 := a18) (a19 := a19) (a20 := a20) (a21 := a21) (a22 := a22) (a23 := a23) (a24 := a24) (a25 := a25) (a26 := a26) (a27 := a27) (a28 := a28) (j + 3) x y z
  unfold lawBody
  rw [sSeq_nx h0, sSeq_nx (l1 (j + 3)), sSeq_nx (l2 ha hb hc j), sSeq_nx (l3 (j + 3)), sSeq_nx (l4 ha hb hc j), sSeq_nx (l5 ha hb hc j), sSeq_nx (l6 hb hc j), sSeq_nx (l7 ha hb hc (j + 1)), sSeq_nx (l8 ha hc (j + 2)), sSeq_nx (l9 ha hc (j + 2)), sSeq_nx (l10 ha hc hw (j + 2))]
  obtain ⟨k, x2, y2, z2, hk, h11⟩ := l11 (a := a) (b := b) (c := c) (w := w) (j + 3) x1 y1 z1
  rw [sSeq_nx h11, sSeq_nx (l12 hk (j + 3)), sSeq_nx (l13 hk (j + 1)), sSeq_nx (l14 hk j), sSeq_nx (l15 j ha hk), sSeq_nx (l16 hk (j + 3)), sSeq_nx (l17 hk (j + 1)), sSeq_nx (l18 (j + 4)), sSeq_nx (l19 hc (j + 1)), sSeq_nx (l20 ha hb hw j)]
  obtain ⟨k2, x3, y3, z3, hk2, h21⟩ := l21 (a := a) (b := b) (c := c) (w := w) (j + 3) x2 y2 z2
  rw [sSeq_nx h21, sSeq_nx (l22 (j + 2) hk2 hw), sSeq_nx (l23 j hk2 hw)]
  obtain ⟨L, x4, y4, z4, hL, h24⟩ := l24 (a := a) (b := b) (c := c) (w := w) (j + 3) x3 y3 z3
  rw [sSeq_nx h24]
  obtain ⟨u, h25⟩ := l25 (a := a) (b := b) (c := c) (w := w) (s := sd x4 y4 z4) (j + 3) (L := L)
  rw [sSeq_nx h25, sSeq_nx (l26 (j + 2) hL), sSeq_nx (l27 (j + 4)), sSeq_nx (l28 (j + 4)), sSeq_nx (l29 (j + 1))]
  exact ⟨_, _, rfl⟩
end K01
end Z

set_option Elab.async false
set_option linter.all false
set_option maxRecDepth 100000
set_option maxHeartbeats 4000000
namespace Z
open PySem
namespace K01
def isT : R D → Bool
  | .ok (.bl b) _ => b
  | _ => false
theorem isT_ok {r : R D} (h : isT r = true) : ∃ s', r = .ok (.bl true) s' := by
  unfold isT at h
  split at h
  · rename_i b s'
    rw [h]
    exact ⟨s', rfl⟩
  · cases h
theorem plain_true (s : Sto) : isT ((prog G 10).1 31 [] s) = true := by kernel_rfl
theorem law_true (ns : List Int) : ∃ s', (prog G (10 + 1)).1 32 [.scr (ns.map D.int)] [] = .ok (.bl true) s' := by
  rw [fn32, law_split]
  obtain ⟨x, y, z, hr⟩ := rounds 8 ns
  obtain ⟨e', s', hb⟩ := body (a0 := some (.scr (ns.map D.int))) (a2 := none) (a3 := none) (a4 := none) (a5 := none) (a6 := none) (a7 := none) (a8 := none) (a9 := none) (a10 := none) (a11 := none) (a12 := none) (a13 := none) (a14 := none) (a15 := none) (a16 := none) (a17 := none) (a18 := none) (a19 := none) (a20 := none) (a21 := none) (a22 := none) (a23 := none) (a24 := none) (a25 := none) (a26 := none) (a27 := none) (a28 := none) 6 x y z
  obtain ⟨s2, hp⟩ := isT_ok (plain_true s')
  refine ⟨s2, ?_⟩
  have hr : (prog G 10).1 27 [.scr (ns.map D.int), .int 1] [] = .ok (.lst [.ref 0]) (sd x y z) := hr
  have hb2 := forF_cons (t := tName 1) (d := .ref 0) (ds := []) (e := [some (.scr (ns.map D.int)), none, none, none, none, none, none, none, none, none, none, none, none, none, none, none, none, none, none, none, none, none, none, none, none, none, none, none, none]) (s := sd x y z) rfl hb
  have hb3 : forF (tName 1) (lawBody (prog G 10).1) [.ref 0] [some (.scr (ns.map D.int)), none, none, none, none, none, none, none, none, none, none, none, none, none, none, none, none, none, none, none, none, none, none, none, none, none, none, none, none] (sd x y z) = .nx e' s' := hb2
  generalize lawBody (prog G 10).1 = B at hb3 ⊢
  generalize (prog G 10).1 = F at hr hp ⊢
  simp only [runN, sSeq, sIf, sRet, sRetN, sExpr, sAsg, sRaise, sPass, sAug, sPar, putAll, tName, tTup, tAll, goOn, R.out, R.bind_ok, R.bind_exc, R.bind_bad, R.of, R.nx, mC, mVar, m1, m2, mB, mT, mNot, mAnd, mOr, mIf, bNot, bAnd, bOr, bIf, truthR, truth, mTup, mkT, mLst, mkL, aNil, aCons, mCall, mB1, opBin, ipOp, ipAdd, ipMul, opAdd, opSub, opMul, opFdiv, opMod, unNeg, opC, opCmp, op_eq_int, op_in2, op_inl2, mChain, bYes, wVal, wRng, wOf, wR, wipeE, big, List.map_cons, List.map_nil, List.length_cons, List.length_nil, List.replicate, List.cons_append, List.nil_append, List.getElem?_cons_zero, List.getElem?_cons_succ, List.set_cons_zero, List.set_cons_succ, if_true, if_false, decide_true, decide_false, Bool.not_true, Bool.not_false, Bool.true_and, Bool.and_true, Bool.false_and, Bool.and_false, Bool.or_false, Bool.false_or, Bool.true_or, Bool.or_true, Bool.xor_false, Bool.xor_true, Bool.false_xor, Bool.true_xor, Bool.false_eq_true, Bool.true_eq_false, ite_true, ite_false, line, Nat.reduceSub, Nat.reduceAdd, Int.reduceNeg, Int.reducePow, Int.reduceLT, Int.reduceLE, Int.reduceMul, Int.reduceAdd, Int.reduceSub, Int.reduceDiv, Int.reduceMod, Int.reduceEq, Nat.reduceLeDiff, Nat.reduceLT, Nat.reduceEqDiff, and_true, true_and, and_false, false_and, and_self, gt_iff_lt, ge_iff_le, hr, sForW, forS, hb3, hp]
end K01
end Z

set_option Elab.async false
set_option linter.all false
set_option maxRecDepth 100000
set_option maxHeartbeats 0
namespace Z
open PySem PySem.Spec PyProof.Rows L2
namespace K01

abbrev R : PySem.W.OpenRow := PySem.W.OpenLaw.row PySem.Challenge.rw_emustack_k01_words_of_bits
abbrev hk : PySem.W.Hook := He.hookX 4 (faOf G) (G.defs.map ddOf) [] (tfOf G) (exOf G)
def ob (s : PySem.W.SharedT) : He.AlX := He.obsX 4 (faOf G) (G.defs.map ddOf) [] (tfOf G) (exOf G) (HandSHeadRun.getT s)
theorem ob_eq (s : PySem.W.SharedT) : ob s = hk.obs s.abs := He.obsX_eq (HandSHeadRun.getT_eq s)
abbrev loose : List Str := (["EmuFault", "WordError", "FIGURES", "check_byte", "check_word", "added", "taken", "check_bits", "power_of", "signed_of", "plain_of", "bits_of", "from_bits", "rolled_left", "rolled_right", "halves_of", "joined", "turned_round", "ones_in", "tens_byte", "from_tens", "tens_added", "times_by_bits", "parted_by_bits", "told_sixteens", "read_sixteens", "check_sums", "step_noise", "_law_dice", "_law_roll"] : List Str) ++ (["_law_rounds", "_law_told", "_law_signed", "_law_refused", "_law_plain"] : List Str)
theorem run (w : World) : HandSHeadRun.RunEq R (PySem.W.view R.prog [38]) hk ob 4000 loose w := by
  intro os
  kernel_rfl
end K01
end Z

set_option Elab.async false
set_option linter.all false
set_option maxRecDepth 100000
set_option maxHeartbeats 0
namespace Z
open PySem PySem.Spec PyProof.Rows L2
namespace K01
theorem sc5 : FnScope d5.N d5.ps d5.scope := ⟨rfl, rfl, rfl, by decide +kernel, rfl, by decide +kernel, by decide +kernel⟩
theorem bd5 (kV doc pm : Value) (an : Option Addr) (cdv ct : Value) (us : List Value) (h : us.length = d5.ps.length) : bindArgs (PySem.W.fnOf d5.name d5.name d5.params d5.body d5.scope .none kV doc pm an cdv ct) ⟨us, []⟩ = pure (d5.ps.zip us) := match us, h with | [_], _ => rfl
theorem sc6 : FnScope d6.N d6.ps d6.scope := ⟨rfl, rfl, rfl, by decide +kernel, rfl, by decide +kernel, by decide +kernel⟩
theorem bd6 (kV doc pm : Value) (an : Option Addr) (cdv ct : Value) (us : List Value) (h : us.length = d6.ps.length) : bindArgs (PySem.W.fnOf d6.name d6.name d6.params d6.body d6.scope .none kV doc pm an cdv ct) ⟨us, []⟩ = pure (d6.ps.zip us) := match us, h with | [_], _ => rfl
theorem sc7 : FnScope d7.N d7.ps d7.scope := ⟨rfl, rfl, rfl, by decide +kernel, rfl, by decide +kernel, by decide +kernel⟩
theorem bd7 (kV doc pm : Value) (an : Option Addr) (cdv ct : Value) (us : List Value) (h : us.length = d7.ps.length) : bindArgs (PySem.W.fnOf d7.name d7.name d7.params d7.body d7.scope .none kV doc pm an cdv ct) ⟨us, []⟩ = pure (d7.ps.zip us) := match us, h with | [_, _, _], _ => rfl
theorem sc8 : FnScope d8.N d8.ps d8.scope := ⟨rfl, rfl, rfl, by decide +kernel, rfl, by decide +kernel, by decide +kernel⟩
theorem bd8 (kV doc pm : Value) (an : Option Addr) (cdv ct : Value) (us : List Value) (h : us.length = d8.ps.length) : bindArgs (PySem.W.fnOf d8.name d8.name d8.params d8.body d8.scope .none kV doc pm an cdv ct) ⟨us, []⟩ = pure (d8.ps.zip us) := match us, h with | [_, _, _], _ => rfl
theorem sc9 : FnScope d9.N d9.ps d9.scope := ⟨rfl, rfl, rfl, by decide +kernel, rfl, by decide +kernel, by decide +kernel⟩
theorem bd9 (kV doc pm : Value) (an : Option Addr) (cdv ct : Value) (us : List Value) (h : us.length = d9.ps.length) : bindArgs (PySem.W.fnOf d9.name d9.name d9.params d9.body d9.scope .none kV doc pm an cdv ct) ⟨us, []⟩ = pure (d9.ps.zip us) := match us, h with | [_, _], _ => rfl
theorem sc10 : FnScope d10.N d10.ps d10.scope := ⟨rfl, rfl, rfl, by decide +kernel, rfl, by decide +kernel, by decide +kernel⟩
theorem bd10 (kV doc pm : Value) (an : Option Addr) (cdv ct : Value) (us : List Value) (h : us.length = d10.ps.length) : bindArgs (PySem.W.fnOf d10.name d10.name d10.params d10.body d10.scope .none kV doc pm an cdv ct) ⟨us, []⟩ = pure (d10.ps.zip us) := match us, h with | [_], _ => rfl
theorem sc11 : FnScope d11.N d11.ps d11.scope := ⟨rfl, rfl, rfl, by decide +kernel, rfl, by decide +kernel, by decide +kernel⟩
theorem bd11 (kV doc pm : Value) (an : Option Addr) (cdv ct : Value) (us : List Value) (h : us.length = d11.ps.length) : bindArgs (PySem.W.fnOf d11.name d11.name d11.params d11.body d11.scope .none kV doc pm an cdv ct) ⟨us, []⟩ = pure (d11.ps.zip us) := match us, h with | [_, _], _ => rfl
theorem sc12 : FnScope d12.N d12.ps d12.scope := ⟨rfl, rfl, rfl, by decide +kernel, rfl, by decide +kernel, by decide +kernel⟩
theorem bd12 (kV doc pm : Value) (an : Option Addr) (cdv ct : Value) (us : List Value) (h : us.length = d12.ps.length) : bindArgs (PySem.W.fnOf d12.name d12.name d12.params d12.body d12.scope .none kV doc pm an cdv ct) ⟨us, []⟩ = pure (d12.ps.zip us) := match us, h with | [_, _], _ => rfl
theorem sc13 : FnScope d13.N d13.ps d13.scope := ⟨rfl, rfl, rfl, by decide +kernel, rfl, by decide +kernel, by decide +kernel⟩
theorem bd13 (kV doc pm : Value) (an : Option Addr) (cdv ct : Value) (us : List Value) (h : us.length = d13.ps.length) : bindArgs (PySem.W.fnOf d13.name d13.name d13.params d13.body d13.scope .none kV doc pm an cdv ct) ⟨us, []⟩ = pure (d13.ps.zip us) := match us, h with | [_, _], _ => rfl
theorem sc14 : FnScope d14.N d14.ps d14.scope := ⟨rfl, rfl, rfl, by decide +kernel, rfl, by decide +kernel, by decide +kernel⟩
theorem bd14 (kV doc pm : Value) (an : Option Addr) (cdv ct : Value) (us : List Value) (h : us.length = d14.ps.length) : bindArgs (PySem.W.fnOf d14.name d14.name d14.params d14.body d14.scope .none kV doc pm an cdv ct) ⟨us, []⟩ = pure (d14.ps.zip us) := match us, h with | [_], _ => rfl
theorem sc15 : FnScope d15.N d15.ps d15.scope := ⟨rfl, rfl, rfl, by decide +kernel, rfl, by decide +kernel, by decide +kernel⟩
theorem bd15 (kV doc pm : Value) (an : Option Addr) (cdv ct : Value) (us : List Value) (h : us.length = d15.ps.length) : bindArgs (PySem.W.fnOf d15.name d15.name d15.params d15.body d15.scope .none kV doc pm an cdv ct) ⟨us, []⟩ = pure (d15.ps.zip us) := match us, h with | [_, _], _ => rfl
theorem sc16 : FnScope d16.N d16.ps d16.scope := ⟨rfl, rfl, rfl, by decide +kernel, rfl, by decide +kernel, by decide +kernel⟩
theorem bd16 (kV doc pm : Value) (an : Option Addr) (cdv ct : Value) (us : List Value) (h : us.length = d16.ps.length) : bindArgs (PySem.W.fnOf d16.name d16.name d16.params d16.body d16.scope .none kV doc pm an cdv ct) ⟨us, []⟩ = pure (d16.ps.zip us) := match us, h with | [_, _], _ => rfl
theorem sc17 : FnScope d17.N d17.ps d17.scope := ⟨rfl, rfl, rfl, by decide +kernel, rfl, by decide +kernel, by decide +kernel⟩
theorem bd17 (kV doc pm : Value) (an : Option Addr) (cdv ct : Value) (us : List Value) (h : us.length = d17.ps.length) : bindArgs (PySem.W.fnOf d17.name d17.name d17.params d17.body d17.scope .none kV doc pm an cdv ct) ⟨us, []⟩ = pure (d17.ps.zip us) := match us, h with | [_], _ => rfl
theorem sc18 : FnScope d18.N d18.ps d18.scope := ⟨rfl, rfl, rfl, by decide +kernel, rfl, by decide +kernel, by decide +kernel⟩
theorem bd18 (kV doc pm : Value) (an : Option Addr) (cdv ct : Value) (us : List Value) (h : us.length = d18.ps.length) : bindArgs (PySem.W.fnOf d18.name d18.name d18.params d18.body d18.scope .none kV doc pm an cdv ct) ⟨us, []⟩ = pure (d18.ps.zip us) := match us, h with | [_, _], _ => rfl
theorem sc19 : FnScope d19.N d19.ps d19.scope := ⟨rfl, rfl, rfl, by decide +kernel, rfl, by decide +kernel, by decide +kernel⟩
theorem bd19 (kV doc pm : Value) (an : Option Addr) (cdv ct : Value) (us : List Value) (h : us.length = d19.ps.length) : bindArgs (PySem.W.fnOf d19.name d19.name d19.params d19.body d19.scope .none kV doc pm an cdv ct) ⟨us, []⟩ = pure (d19.ps.zip us) := match us, h with | [_], _ => rfl
theorem sc20 : FnScope d20.N d20.ps d20.scope := ⟨rfl, rfl, rfl, by decide +kernel, rfl, by decide +kernel, by decide +kernel⟩
theorem bd20 (kV doc pm : Value) (an : Option Addr) (cdv ct : Value) (us : List Value) (h : us.length = d20.ps.length) : bindArgs (PySem.W.fnOf d20.name d20.name d20.params d20.body d20.scope .none kV doc pm an cdv ct) ⟨us, []⟩ = pure (d20.ps.zip us) := match us, h with | [_, _], _ => rfl
theorem sc21 : FnScope d21.N d21.ps d21.scope := ⟨rfl, rfl, rfl, by decide +kernel, rfl, by decide +kernel, by decide +kernel⟩
theorem bd21 (kV doc pm : Value) (an : Option Addr) (cdv ct : Value) (us : List Value) (h : us.length = d21.ps.length) : bindArgs (PySem.W.fnOf d21.name d21.name d21.params d21.body d21.scope .none kV doc pm an cdv ct) ⟨us, []⟩ = pure (d21.ps.zip us) := match us, h with | [_], _ => rfl
theorem sc22 : FnScope d22.N d22.ps d22.scope := ⟨rfl, rfl, rfl, by decide +kernel, rfl, by decide +kernel, by decide +kernel⟩
theorem bd22 (kV doc pm : Value) (an : Option Addr) (cdv ct : Value) (us : List Value) (h : us.length = d22.ps.length) : bindArgs (PySem.W.fnOf d22.name d22.name d22.params d22.body d22.scope .none kV doc pm an cdv ct) ⟨us, []⟩ = pure (d22.ps.zip us) := match us, h with | [_], _ => rfl
theorem sc23 : FnScope d23.N d23.ps d23.scope := ⟨rfl, rfl, rfl, by decide +kernel, rfl, by decide +kernel, by decide +kernel⟩
theorem bd23 (kV doc pm : Value) (an : Option Addr) (cdv ct : Value) (us : List Value) (h : us.length = d23.ps.length) : bindArgs (PySem.W.fnOf d23.name d23.name d23.params d23.body d23.scope .none kV doc pm an cdv ct) ⟨us, []⟩ = pure (d23.ps.zip us) := match us, h with | [_, _, _], _ => rfl
theorem sc24 : FnScope d24.N d24.ps d24.scope := ⟨rfl, rfl, rfl, by decide +kernel, rfl, by decide +kernel, by decide +kernel⟩
theorem bd24 (kV doc pm : Value) (an : Option Addr) (cdv ct : Value) (us : List Value) (h : us.length = d24.ps.length) : bindArgs (PySem.W.fnOf d24.name d24.name d24.params d24.body d24.scope .none kV doc pm an cdv ct) ⟨us, []⟩ = pure (d24.ps.zip us) := match us, h with | [_, _], _ => rfl
theorem sc25 : FnScope d25.N d25.ps d25.scope := ⟨rfl, rfl, rfl, by decide +kernel, rfl, by decide +kernel, by decide +kernel⟩
theorem bd25 (kV doc pm : Value) (an : Option Addr) (cdv ct : Value) (us : List Value) (h : us.length = d25.ps.length) : bindArgs (PySem.W.fnOf d25.name d25.name d25.params d25.body d25.scope .none kV doc pm an cdv ct) ⟨us, []⟩ = pure (d25.ps.zip us) := match us, h with | [_, _], _ => rfl
theorem sc26 : FnScope d26.N d26.ps d26.scope := ⟨rfl, rfl, rfl, by decide +kernel, rfl, by decide +kernel, by decide +kernel⟩
theorem bd26 (kV doc pm : Value) (an : Option Addr) (cdv ct : Value) (us : List Value) (h : us.length = d26.ps.length) : bindArgs (PySem.W.fnOf d26.name d26.name d26.params d26.body d26.scope .none kV doc pm an cdv ct) ⟨us, []⟩ = pure (d26.ps.zip us) := match us, h with | [_, _], _ => rfl
theorem sc27 : FnScope d27.N d27.ps d27.scope := ⟨rfl, rfl, rfl, by decide +kernel, rfl, by decide +kernel, by decide +kernel⟩
theorem bd27 (kV doc pm : Value) (an : Option Addr) (cdv ct : Value) (us : List Value) (h : us.length = d27.ps.length) : bindArgs (PySem.W.fnOf d27.name d27.name d27.params d27.body d27.scope .none kV doc pm an cdv ct) ⟨us, []⟩ = pure (d27.ps.zip us) := match us, h with | [_], _ => rfl
theorem sc28 : FnScope d28.N d28.ps d28.scope := ⟨rfl, rfl, rfl, by decide +kernel, rfl, by decide +kernel, by decide +kernel⟩
theorem bd28 (kV doc pm : Value) (an : Option Addr) (cdv ct : Value) (us : List Value) (h : us.length = d28.ps.length) : bindArgs (PySem.W.fnOf d28.name d28.name d28.params d28.body d28.scope .none kV doc pm an cdv ct) ⟨us, []⟩ = pure (d28.ps.zip us) := match us, h with | [_], _ => rfl
theorem sc29 : FnScope d29.N d29.ps d29.scope := ⟨rfl, rfl, rfl, by decide +kernel, rfl, by decide +kernel, by decide +kernel⟩
theorem bd29 (kV doc pm : Value) (an : Option Addr) (cdv ct : Value) (us : List Value) (h : us.length = d29.ps.length) : bindArgs (PySem.W.fnOf d29.name d29.name d29.params d29.body d29.scope .none kV doc pm an cdv ct) ⟨us, []⟩ = pure (d29.ps.zip us) := match us, h with | [_], _ => rfl
theorem sc31 : FnScope d31.N d31.ps d31.scope := ⟨rfl, rfl, rfl, by decide +kernel, rfl, by decide +kernel, by decide +kernel⟩
theorem bd31 (kV doc pm : Value) (an : Option Addr) (cdv ct : Value) (us : List Value) (h : us.length = d31.ps.length) : bindArgs (PySem.W.fnOf d31.name d31.name d31.params d31.body d31.scope .none kV doc pm an cdv ct) ⟨us, []⟩ = pure (d31.ps.zip us) := match us, h with | [_], _ => rfl
theorem sc32 : FnScope d32.N d32.ps d32.scope := ⟨rfl, rfl, rfl, by decide +kernel, rfl, by decide +kernel, by decide +kernel⟩
theorem bd32 (kV doc pm : Value) (an : Option Addr) (cdv ct : Value) (us : List Value) (h : us.length = d32.ps.length) : bindArgs (PySem.W.fnOf d32.name d32.name d32.params d32.body d32.scope .none kV doc pm an cdv ct) ⟨us, []⟩ = pure (d32.ps.zip us) := match us, h with | [_, _], _ => rfl
theorem sc33 : FnScope d33.N d33.ps d33.scope := ⟨rfl, rfl, rfl, by decide +kernel, rfl, by decide +kernel, by decide +kernel⟩
theorem bd33 (kV doc pm : Value) (an : Option Addr) (cdv ct : Value) (us : List Value) (h : us.length = d33.ps.length) : bindArgs (PySem.W.fnOf d33.name d33.name d33.params d33.body d33.scope .none kV doc pm an cdv ct) ⟨us, []⟩ = pure (d33.ps.zip us) := match us, h with | [_, _], _ => rfl
theorem sc34 : FnScope d34.N d34.ps d34.scope := ⟨rfl, rfl, rfl, by decide +kernel, rfl, by decide +kernel, by decide +kernel⟩
theorem bd34 (kV doc pm : Value) (an : Option Addr) (cdv ct : Value) (us : List Value) (h : us.length = d34.ps.length) : bindArgs (PySem.W.fnOf d34.name d34.name d34.params d34.body d34.scope .none kV doc pm an cdv ct) ⟨us, []⟩ = pure (d34.ps.zip us) := match us, h with | [_], _ => rfl
theorem sc35 : FnScope d35.N d35.ps d35.scope := ⟨rfl, rfl, rfl, by decide +kernel, rfl, by decide +kernel, by decide +kernel⟩
theorem bd35 (kV doc pm : Value) (an : Option Addr) (cdv ct : Value) (us : List Value) (h : us.length = d35.ps.length) : bindArgs (PySem.W.fnOf d35.name d35.name d35.params d35.body d35.scope .none kV doc pm an cdv ct) ⟨us, []⟩ = pure (d35.ps.zip us) := match us, h with | [_], _ => rfl
theorem sc36 : FnScope d36.N d36.ps d36.scope := ⟨rfl, rfl, rfl, by decide +kernel, rfl, by decide +kernel, by decide +kernel⟩
theorem bd36 (kV doc pm : Value) (an : Option Addr) (cdv ct : Value) (us : List Value) (h : us.length = d36.ps.length) : bindArgs (PySem.W.fnOf d36.name d36.name d36.params d36.body d36.scope .none kV doc pm an cdv ct) ⟨us, []⟩ = pure (d36.ps.zip us) := match us, h with | [], _ => rfl
theorem sc37 : FnScope d37.N d37.ps d37.scope := ⟨rfl, rfl, rfl, by decide +kernel, rfl, by decide +kernel, by decide +kernel⟩
theorem bd37 (kV doc pm : Value) (an : Option Addr) (cdv ct : Value) (us : List Value) (h : us.length = d37.ps.length) : bindArgs (PySem.W.fnOf d37.name d37.name d37.params d37.body d37.scope .none kV doc pm an cdv ct) ⟨us, []⟩ = pure (d37.ps.zip us) := match us, h with | [], _ => rfl
theorem sc38 : FnScope d38.N d38.ps d38.scope := ⟨rfl, rfl, rfl, by decide +kernel, rfl, by decide +kernel, by decide +kernel⟩
theorem bd38 (kV doc pm : Value) (an : Option Addr) (cdv ct : Value) (us : List Value) (h : us.length = d38.ps.length) : bindArgs (PySem.W.fnOf d38.name d38.name d38.params d38.body d38.scope .none kV doc pm an cdv ct) ⟨us, []⟩ = pure (d38.ps.zip us) := match us, h with | [_], _ => rfl
theorem all_defs {P : DefI → Prop} (h5 : P d5) (h6 : P d6) (h7 : P d7) (h8 : P d8) (h9 : P d9) (h10 : P d10) (h11 : P d11) (h12 : P d12) (h13 : P d13) (h14 : P d14) (h15 : P d15) (h16 : P d16) (h17 : P d17) (h18 : P d18) (h19 : P d19) (h20 : P d20) (h21 : P d21) (h22 : P d22) (h23 : P d23) (h24 : P d24) (h25 : P d25) (h26 : P d26) (h27 : P d27) (h28 : P d28) (h29 : P d29) (h31 : P d31) (h32 : P d32) (h33 : P d33) (h34 : P d34) (h35 : P d35) (h36 : P d36) (h37 : P d37) (h38 : P d38) : ∀ d ∈ G.defs, P d := by
  intro d hd
  have hd : d ∈ defs := hd
  unfold defs at hd
  simp only [List.mem_cons, List.not_mem_nil, or_false] at hd
  rcases hd with rfl | rfl | rfl | rfl | rfl | rfl | rfl | rfl | rfl | rfl | rfl | rfl | rfl | rfl | rfl | rfl | rfl | rfl | rfl | rfl | rfl | rfl | rfl | rfl | rfl | rfl | rfl | rfl | rfl | rfl | rfl | rfl | rfl
  all_goals assumption
theorem form : Form G := ⟨fun q hq => List.all_eq_true.mp (show (G.consts.all conB) = true from rfl) q hq, all_defs (P := fun d => FnScope d.N d.ps d.scope) sc5 sc6 sc7 sc8 sc9 sc10 sc11 sc12 sc13 sc14 sc15 sc16 sc17 sc18 sc19 sc20 sc21 sc22 sc23 sc24 sc25 sc26 sc27 sc28 sc29 sc31 sc32 sc33 sc34 sc35 sc36 sc37 sc38, all_defs (P := fun d => ∀ (kV doc pm : Value) (an : Option Addr) (cdv ct : Value) (us : List Value), us.length = d.ps.length → bindArgs (PySem.W.fnOf d.name d.name d.params d.body d.scope .none kV doc pm an cdv ct) ⟨us, []⟩ = pure (d.ps.zip us)) bd5 bd6 bd7 bd8 bd9 bd10 bd11 bd12 bd13 bd14 bd15 bd16 bd17 bd18 bd19 bd20 bd21 bd22 bd23 bd24 bd25 bd26 bd27 bd28 bd29 bd31 bd32 bd33 bd34 bd35 bd36 bd37 bd38⟩
end K01
end Z
open PySem PySem.W PySem.Calls PyProof.Rows
theorem PySem.Challenge.cw_emustack_k01_words_of_bits_holds : PySem.Challenge.rw_emustack_k01_words_of_bits.Holds := by
  w_on; o_law
  refine HandSHeadRun.head_any (r := OpenLaw.row PySem.Challenge.rw_emustack_k01_words_of_bits) (q := view (OpenLaw.row PySem.Challenge.rw_emustack_k01_words_of_bits).prog [38]) (H := Z.K01.hk) (ob := Z.K01.ob) (M := 4000) (loose := Z.K01.loose) (d := HandSHeadRun.topDef (OpenLaw.row PySem.Challenge.rw_emustack_k01_words_of_bits).prog 38) (kwd := []) Z.K01.ob_eq
    (by kernel_rfl) (fun s => by kernel_rfl) Z.K01.run (by kernel_rfl) (by kernel_rfl) (by kernel_rfl) (by rfl) (by first | assumption | decide +kernel) (by decide +kernel) ⟨rfl, rfl, rfl, rfl, rfl, by decide +kernel⟩ ?hw ?hc
  case hw => w_witness2
  case hc =>
    refine LamX.walk_ofTsE (l := PySem.Challenge.rw_emustack_k01_words_of_bits) (n := 63) (k := 8 * (10 + 1)) (x := "script") (CX := fun w => L2.CX PySem.Challenge.rw_emustack_k01_words_of_bits.prog w) rfl (by decide) (by kernel_rfl) ⟨rfl, by decide, by decide⟩ ?F (fun w H s e s' z => by
      obtain ⟨_, _, _, _, _, _, _, _, _, _, _, _, q⟩ := z
      exact q)
    intro w mg fa h Y N hmg0
    obtain ⟨K, KX, c⟩ := Y
    have hmg : mg (Z.K01.d38).name = some (.ref fa) := by
      have e : (HandSHeadRun.topDef (OpenLaw.row PySem.Challenge.rw_emustack_k01_words_of_bits).prog 38).name = Z.K01.d38.name := by kernel_rfl
      rw [← e]
      exact hmg0
    exact ⟨K, KX, Z.law_at (d := Z.K01.d38) (i := 32) Z.K01.form rfl rfl KX N hmg c fun ns hl hb => Z.K01.law_true ns⟩

