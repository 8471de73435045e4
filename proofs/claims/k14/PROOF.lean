import PyProof.Rows.All
import Wide.All
import OpenK.AllK
import Wide.FinOn
import HandS.ForMost
import HandS.Exc
import HandS.ExcOwn
import HandS.TryOnly
import HandS.Lambda
import HandS.Nested
import HandS.TupAny
import HandS.TupMul
import HandS.Style
import HandS.TupLe
import HandS.Text
import HandS.FStr
import HandS.Small
import HandS.Iter
import HandS.Zip
import KE.GoesEnum
import HandS.WordsExc
import PyProof.GenArm
import HandS.GenList
import PyProof.CollectWalk
import PyProof.SumWalk
import PyProof.TupleOfGen
import KE.DataEq
import KE.KEqNest
import HandS.DictEq
import KE.KDictLaw
import HandS.More
import HandS.RaiseMore
import HandS.SortInts
import HandS.Deep
import KE.SortData
import KE.DataMinMax
import PyProof.MaxThree
import KE.KTupSum
import HandS.DictComp
import HandS.BoundDict
import HandS.ListItems
import HandS.Replace
import HandS.HeadHook4
import HandS.HeadWalk
import HandS.Head2
import KE.KStateDown
import HandS.Head0
import HandS.Head1
import HandS.HeadEnd
import PySem.Challenge.RW_rentstack_k14_wishes_taken_back
set_option Elab.async false
set_option linter.all false
set_option maxRecDepth 100000
/-! RS.C0: the plain side: values, objects, states, outcomes; how they lie in the hand layer's heap. -/
namespace RS
open PySem PySem.Spec PyProof.Rows L2

inductive W where
  | non | bl (b : Bool) | int (i : Int) | str (x : Str) | tup (l : List W) | ref (n : Nat) | lst (l : List W) | dct (ks : List Key) (vs : List W)
inductive O where
  | lst (l : List W) | dct (l : List (W × W)) | dtt (l : List (List W × W)) | ins (c : Str) (fs : List (Str × W))
structure S where
  nx : Nat
  at_ : Nat → Option O
  lk : List Nat
inductive Out (α : Type) where
  | ok (a : α) (s : S) | ex (c : Str) (s : S) | bad
abbrev M (α : Type) := S → Out α
abbrev Env := List (Option W)
abbrev E := Env → M W
abbrev Es := Env → M (List W)
abbrev T := Env → M Bool
inductive OutS where
  | nx (ρ : Env) (s : S) | rt (w : W) (s : S) | bk (ρ : Env) (s : S) | ct (ρ : Env) (s : S) | ex (c : Str) (s : S) | bad
abbrev B := Env → S → OutS

def Out.bind {α β : Type} (o : Out α) (f : α → M β) : Out β := match o with
  | .ok a s => f a s
  | .ex c s => .ex c s
  | .bad => .bad
def Out.bindS {α : Type} (o : Out α) (f : α → S → OutS) : OutS := match o with
  | .ok a s => f a s
  | .ex c s => .ex c s
  | .bad => .bad
def OutS.then (o : OutS) (f : Env → S → OutS) : OutS := match o with
  | .nx ρ s => f ρ s
  | o => o

def S.set (s : S) (a : Nat) (o : O) : S := { s with at_ := fun b => if b = a then some o else s.at_ b }
def S.new (s : S) (o : O) : S := { s with nx := s.nx + 1, at_ := fun b => if b = s.nx then some o else s.at_ b }

/-- where the tracked objects lie; the lists that nobody writes any more -/
structure Rm where
  m : Nat → Addr
  F : Addr → Prop
instance : CoeFun Rm (fun _ => Nat → Addr) := ⟨Rm.m⟩
/-! ### how a plain value lies in the abstract heap -/
/-- the tuple at p: tracked, or the module's -/
def TupAt (K : PySem.W.Frag) (H : Hp) (p : Addr) (xs : List V) : Prop :=
  H p = some (.tup xs) ∨ ∃ (o : Obj) (its : Array Value) (n : Nat), K.lookup p = some o ∧ o.cls = .type "tuple" ∧ o.data = .seq its n ∧ its.size ≤ sizeLine ∧ Vals xs its.toList
theorem TupAt.sq {K : PySem.W.Frag} {H : Hp} {p : Addr} {xs : List V} (h : TupAt K H p xs) : SqT K H p xs := h.elim (fun h => .inl (.inl h)) .inr

mutual
def RelW (K : PySem.W.Frag) (r : Rm) (n : Nat) (H : Hp) : W → V → Prop
  | .non, v => v = .non
  | .bl b, v => v = .bl b
  | .int i, v => v = .int i
  | .str x, v => v = .str x
  | .ref a, v => a < n ∧ v = .ref (r a)
  | .tup l, v => ∃ p xs, v = .ref p ∧ TupAt K H p xs ∧ RelWs K r n H l xs
  | .lst l, v => ∃ p xs, v = .ref p ∧ r.F p ∧ H p = some (.lst xs) ∧ RelWs K r n H l xs
  | .dct ks l, v => ∃ p od kvs, v = .ref p ∧ r.F p ∧ H p = some (.frz od (.dK kvs)) ∧ kvs.map (·.1) = ks ∧ RelWs K r n H l (kvs.map (·.2))
def RelWs (K : PySem.W.Frag) (r : Rm) (n : Nat) (H : Hp) : List W → List V → Prop
  | [], xs => xs = []
  | w :: ws, xs => ∃ x t, xs = x :: t ∧ RelW K r n H w x ∧ RelWs K r n H ws t
end
/-- what a step keeps of the heap, for values -/
structure Kp (r : Rm) (n : Nat) (H : Hp) (r' : Rm) (n' : Nat) (H' : Hp) : Prop where
  le : n ≤ n'
  eq : ∀ a, a < n → r' a = r a
  tup : ∀ p xs, H p = some (.tup xs) → H' p = some (.tup xs)
  fz : ∀ p, r.F p → r'.F p
  lst : ∀ p (o : HO), r.F p → H p = some o → H' p = some o
theorem Kp.refl {r : Rm} {n : Nat} {H : Hp} : Kp r n H r n H := ⟨Nat.le_refl _, fun _ _ => rfl, fun _ _ h => h, fun _ h => h, fun _ _ _ h => h⟩
theorem Kp.trans {r r1 r2 : Rm} {n n1 n2 : Nat} {H H1 H2 : Hp} (a : Kp r n H r1 n1 H1) (b : Kp r1 n1 H1 r2 n2 H2) : Kp r n H r2 n2 H2 :=
  ⟨Nat.le_trans a.le b.le, fun c h => (b.eq c (Nat.lt_of_lt_of_le h a.le)).trans (a.eq c h), fun p xs h => b.tup p xs (a.tup p xs h), fun p h => b.fz p (a.fz p h), fun p xs f h => b.lst p xs (a.fz p f) (a.lst p xs f h)⟩
theorem TupAt.kp {K : PySem.W.Frag} {r r' : Rm} {n n' : Nat} {H H' : Hp} {p : Addr} {xs : List V} (k : Kp r n H r' n' H') (h : TupAt K H p xs) : TupAt K H' p xs := h.imp (k.tup p xs) id
mutual
theorem RelW.kp {K : PySem.W.Frag} {r r' : Rm} {n n' : Nat} {H H' : Hp} (k : Kp r n H r' n' H') : ∀ {w : W} {v : V}, RelW K r n H w v → RelW K r' n' H' w v
  | .non, _, h => by unfold RelW at h ⊢; exact h
  | .bl _, _, h => by unfold RelW at h ⊢; exact h
  | .int _, _, h => by unfold RelW at h ⊢; exact h
  | .str _, _, h => by unfold RelW at h ⊢; exact h
  | .ref a, _, h => by
    unfold RelW at h ⊢
    exact ⟨Nat.lt_of_lt_of_le h.1 k.le, by rw [k.eq a h.1]; exact h.2⟩
  | .tup l, _, h => by
    unfold RelW at h ⊢
    obtain ⟨p, xs, e, t, q⟩ := h
    exact ⟨p, xs, e, t.kp k, RelWs.kp k q⟩
  | .lst l, _, h => by
    unfold RelW at h ⊢
    obtain ⟨p, xs, e, f, t, q⟩ := h
    exact ⟨p, xs, e, k.fz p f, k.lst p _ f t, RelWs.kp k q⟩
  | .dct ks l, _, h => by
    unfold RelW at h ⊢
    obtain ⟨p, od, kvs, e, f, t, e2, q⟩ := h
    exact ⟨p, od, kvs, e, k.fz p f, k.lst p _ f t, e2, RelWs.kp k q⟩
theorem RelWs.kp {K : PySem.W.Frag} {r r' : Rm} {n n' : Nat} {H H' : Hp} (k : Kp r n H r' n' H') : ∀ {ws : List W} {xs : List V}, RelWs K r n H ws xs → RelWs K r' n' H' ws xs
  | [], _, h => by unfold RelWs at h ⊢; exact h
  | w :: ws, _, h => by
    unfold RelWs at h ⊢
    obtain ⟨x, t, e, h1, h2⟩ := h
    exact ⟨x, t, e, RelW.kp k h1, RelWs.kp k h2⟩
end
theorem RelWs.len {K : PySem.W.Frag} {r : Rm} {n : Nat} {H : Hp} : ∀ {ws : List W} {xs : List V}, RelWs K r n H ws xs → ws.length = xs.length
  | [], _, h => by unfold RelWs at h; subst h; rfl
  | w :: ws, _, h => by
    unfold RelWs at h
    obtain ⟨x, t, e, _, h2⟩ := h
    subst e
    simp [RelWs.len h2]
theorem RelWs.get {K : PySem.W.Frag} {r : Rm} {n : Nat} {H : Hp} : ∀ {ws : List W} {xs : List V} {i : Nat} {w : W}, RelWs K r n H ws xs → ws[i]? = some w → ∃ x, xs[i]? = some x ∧ RelW K r n H w x
  | [], _, _, _, _, e => by simp at e
  | w :: ws, _, i, w', h, e => by
    unfold RelWs at h
    obtain ⟨x, t, e1, h1, h2⟩ := h
    subst e1
    cases i with
    | zero => simp at e; subst e; exact ⟨x, by simp, h1⟩
    | succ i => obtain ⟨y, hy, q⟩ := RelWs.get (i := i) h2 (by simpa using e); exact ⟨y, by simpa using hy, q⟩
theorem RelWs.app {K : PySem.W.Frag} {r : Rm} {n : Nat} {H : Hp} : ∀ {ws us : List W} {xs ys : List V}, RelWs K r n H ws xs → RelWs K r n H us ys → RelWs K r n H (ws ++ us) (xs ++ ys)
  | [], us, _, ys, h, q => by unfold RelWs at h; subst h; exact q
  | w :: ws, us, _, ys, h, q => by
    unfold RelWs at h
    obtain ⟨x, t, e1, h1, h2⟩ := h
    subst e1
    show RelWs K r n H (w :: (ws ++ us)) (x :: (t ++ ys))
    unfold RelWs
    exact ⟨x, _, rfl, h1, RelWs.app h2 q⟩
theorem RelWs.cons {K : PySem.W.Frag} {r : Rm} {n : Nat} {H : Hp} {w : W} {ws : List W} {x : V} {xs : List V} (h : RelW K r n H w x) (q : RelWs K r n H ws xs) : RelWs K r n H (w :: ws) (x :: xs) := by
  unfold RelWs; exact ⟨x, xs, rfl, h, q⟩
theorem RelWs.nil {K : PySem.W.Frag} {r : Rm} {n : Nat} {H : Hp} : RelWs K r n H [] [] := by unfold RelWs; rfl
theorem RelWs.uncons {K : PySem.W.Frag} {r : Rm} {n : Nat} {H : Hp} {w : W} {ws : List W} {xs : List V} (h : RelWs K r n H (w :: ws) xs) : ∃ x t, xs = x :: t ∧ RelW K r n H w x ∧ RelWs K r n H ws t := by
  unfold RelWs at h; exact h
theorem RelWs.take {K : PySem.W.Frag} {r : Rm} {n : Nat} {H : Hp} : ∀ {ws : List W} {xs : List V} (i : Nat), RelWs K r n H ws xs → RelWs K r n H (ws.take i) (xs.take i)
  | _, _, 0, _ => by simpa using RelWs.nil
  | [], _, i + 1, h => by unfold RelWs at h; subst h; simpa using RelWs.nil
  | w :: ws, _, i + 1, h => by
    obtain ⟨x, t, e, h1, h2⟩ := h.uncons
    subst e
    exact RelWs.cons h1 (RelWs.take i h2)
theorem RelWs.drop {K : PySem.W.Frag} {r : Rm} {n : Nat} {H : Hp} : ∀ {ws : List W} {xs : List V} (i : Nat), RelWs K r n H ws xs → RelWs K r n H (ws.drop i) (xs.drop i)
  | _, _, 0, h => h
  | [], _, i + 1, h => by unfold RelWs at h; subst h; simpa using RelWs.nil
  | w :: ws, _, i + 1, h => by
    obtain ⟨x, t, e, h1, h2⟩ := h.uncons
    subst e
    exact RelWs.drop i h2
theorem RelWs.set {K : PySem.W.Frag} {r : Rm} {n : Nat} {H : Hp} {w : W} {x : V} (q : RelW K r n H w x) : ∀ {ws : List W} {xs : List V} (i : Nat), RelWs K r n H ws xs → RelWs K r n H (ws.set i w) (xs.set i x)
  | [], _, i, h => by unfold RelWs at h; subst h; simpa using RelWs.nil
  | w' :: ws, _, 0, h => by
    obtain ⟨y, t, e, h1, h2⟩ := h.uncons
    subst e
    exact RelWs.cons q h2
  | w' :: ws, _, i + 1, h => by
    obtain ⟨y, t, e, h1, h2⟩ := h.uncons
    subst e
    exact RelWs.cons h1 (RelWs.set q i h2)

/-! ### equality of plain values (the same value; not Python's ==) -/
mutual
def W.beq : W → W → Bool
  | .non, .non => true
  | .bl a, .bl b => a == b
  | .int a, .int b => decide (a = b)
  | .str a, .str b => decide (a = b)
  | .tup a, .tup b => W.beqs a b
  | .lst a, .lst b => W.beqs a b
  | .dct ks a, .dct ls b => decide (ks = ls) && W.beqs a b
  | .ref a, .ref b => decide (a = b)
  | _, _ => false
def W.beqs : List W → List W → Bool
  | [], [] => true
  | a :: as, b :: bs => W.beq a b && W.beqs as bs
  | _, _ => false
end
mutual
theorem W.beq_eq : ∀ (a b : W), W.beq a b = true → a = b
  | .non, b, h => by cases b <;> simp_all [W.beq]
  | .bl _, b, h => by cases b <;> simp_all [W.beq]
  | .int _, b, h => by cases b <;> simp_all [W.beq]
  | .str _, b, h => by cases b <;> simp_all [W.beq]
  | .ref _, b, h => by cases b <;> simp_all [W.beq]
  | .tup l, b, h => by
    cases b with
    | tup m => simp only [W.beq] at h; rw [W.beqs_eq l m h]
    | _ => simp [W.beq] at h
  | .lst l, b, h => by
    cases b with
    | lst m => simp only [W.beq] at h; rw [W.beqs_eq l m h]
    | _ => simp [W.beq] at h
  | .dct ks l, b, h => by
    cases b with
    | dct ls m =>
      simp only [W.beq, Bool.and_eq_true, decide_eq_true_eq] at h
      rw [W.beqs_eq l m h.2, h.1]
    | _ => simp [W.beq] at h
theorem W.beqs_eq : ∀ (a b : List W), W.beqs a b = true → a = b
  | [], b, h => by cases b <;> simp_all [W.beqs]
  | a :: as, b, h => by
    cases b with
    | nil => simp [W.beqs] at h
    | cons b bs =>
      simp only [W.beqs, Bool.and_eq_true] at h
      rw [W.beq_eq a b h.1, W.beqs_eq as bs h.2]
end
mutual
theorem W.beq_self : ∀ (a : W), W.beq a a = true
  | .non => by simp [W.beq]
  | .bl _ => by simp [W.beq]
  | .int _ => by simp [W.beq]
  | .str _ => by simp [W.beq]
  | .ref _ => by simp [W.beq]
  | .tup l => by simp only [W.beq]; exact W.beqs_self l
  | .lst l => by simp only [W.beq]; exact W.beqs_self l
  | .dct ks l => by simp only [W.beq, decide_true, Bool.true_and]; exact W.beqs_self l
theorem W.beqs_self : ∀ (a : List W), W.beqs a a = true
  | [] => by simp [W.beqs]
  | a :: as => by simp only [W.beqs, W.beq_self a, W.beqs_self as, Bool.and_self]
end
instance : DecidableEq W := fun a b => if h : W.beq a b = true then .isTrue (W.beq_eq a b h) else .isFalse fun e => h (e ▸ W.beq_self a)
end RS
set_option Elab.async false
set_option linter.all false
set_option maxRecDepth 100000
set_option autoImplicit false
/-! RS.C1: states over the heap, steps, refinement. -/
namespace RS
open PySem PySem.Spec PyProof.Rows L2

def kW : Key → W
  | .inl i => .int i
  | .inr x => .str x
abbrev RKV (K : PySem.W.Frag) (r : Rm) (n : Nat) (H : Hp) : List (W × W) → List (Key × V) → Prop := Paired fun p q => p.1 = kW q.1 ∧ RelW K r n H p.2 q.2
abbrev RKT (K : PySem.W.Frag) (r : Rm) (n : Nat) (H : Hp) : List (List W × W) → List (List Key × V) → Prop := Paired fun p q => p.1 = q.1.map kW ∧ RelW K r n H p.2 q.2
abbrev RFs (K : PySem.W.Frag) (r : Rm) (n : Nat) (H : Hp) : List (Str × W) → List (Str × V) → Prop := Paired fun p q => p.1 = q.1 ∧ RelW K r n H p.2 q.2
/-- locked while it is walked -/
def Lkd (b : Prop) (u ho : HO) : Prop := (b → ∃ od, ho = .frz od u) ∧ (¬ b → ho = u)
def RelO (K : PySem.W.Frag) (mg : Str → Option Value) (r : Rm) (n : Nat) (lk : List Nat) (H : Hp) (a : Nat) : O → HO → Prop
  | .lst l, ho => ∃ xs, ho = .lst xs ∧ RelWs K r n H l xs
  | .dct l, ho => ∃ kvs, Lkd (a ∈ lk) (.dK kvs) ho ∧ RKV K r n H l kvs
  | .dtt l, ho => ∃ kvs, Lkd (a ∈ lk) (.dT kvs) ho ∧ RKT K r n H l kvs
  | .ins c fs, ho => ∃ C dx fv, ho = .ins C dx fv ∧ mg c = some (.ref C) ∧ RFs K r n H fs fv

theorem RelO.kp {K : PySem.W.Frag} {mg : Str → Option Value} {r r' : Rm} {n n' : Nat} {lk : List Nat} {H H' : Hp} {a : Nat} (k : Kp r n H r' n' H') : ∀ {o : O} {ho : HO}, RelO K mg r n lk H a o ho → RelO K mg r' n' lk H' a o ho
  | .lst l, _, ⟨xs, e, q⟩ => ⟨xs, e, RelWs.kp k q⟩
  | .dct l, _, ⟨kvs, e, q⟩ => ⟨kvs, e, Paired.mapP q fun _ _ z => ⟨z.1, z.2.kp k⟩⟩
  | .dtt l, _, ⟨kvs, e, q⟩ => ⟨kvs, e, Paired.mapP q fun _ _ z => ⟨z.1, z.2.kp k⟩⟩
  | .ins c fs, _, ⟨C, dx, fv, e, g, q⟩ => ⟨C, dx, fv, e, g, Paired.mapP q fun _ _ z => ⟨z.1, z.2.kp k⟩⟩
/-- no such object is a tuple, a table -/
theorem RelO.notup {K : PySem.W.Frag} {mg : Str → Option Value} {r : Rm} {n : Nat} {lk : List Nat} {H : Hp} {a : Nat} {o : O} {ho : HO} (h : RelO K mg r n lk H a o ho) : (∀ xs, ho ≠ .tup xs) ∧ (∀ ps, ho ≠ .tbl ps) ∧ (∀ x, ho ≠ .own x) ∧ (∀ φ, ho ≠ .ext φ) := by
  have dd : ∀ {b : Prop} {u : HO}, Lkd b u ho → (∀ xs, u ≠ .tup xs) → (∀ ps, u ≠ .tbl ps) → (∀ x, u ≠ .own x) → (∀ φ, u ≠ .ext φ) → (∀ xs, ho ≠ .tup xs) ∧ (∀ ps, ho ≠ .tbl ps) ∧ (∀ x, ho ≠ .own x) ∧ (∀ φ, ho ≠ .ext φ) := by
    intro b u hl h1 h2 h3 h4
    by_cases hb : b
    · obtain ⟨od, e⟩ := hl.1 hb
      subst e
      exact ⟨(fun _ z => nomatch z), (fun _ z => nomatch z), (fun _ z => nomatch z), (fun _ z => nomatch z)⟩
    · have e := hl.2 hb
      subst e
      exact ⟨h1, h2, h3, h4⟩
  cases o with
  | lst l => obtain ⟨xs, e, _⟩ := h; subst e; exact ⟨(fun _ z => nomatch z), (fun _ z => nomatch z), (fun _ z => nomatch z), (fun _ z => nomatch z)⟩
  | dct l => obtain ⟨kvs, e, _⟩ := h; exact dd e (fun _ z => nomatch z) (fun _ z => nomatch z) (fun _ z => nomatch z) (fun _ z => nomatch z)
  | dtt l => obtain ⟨kvs, e, _⟩ := h; exact dd e (fun _ z => nomatch z) (fun _ z => nomatch z) (fun _ z => nomatch z) (fun _ z => nomatch z)
  | ins c fs => obtain ⟨C, dx, fv, e, _⟩ := h; subst e; exact ⟨(fun _ z => nomatch z), (fun _ z => nomatch z), (fun _ z => nomatch z), (fun _ z => nomatch z)⟩

structure Mt (T : List NdefX.NTab) (K : PySem.W.Frag) (mg : Str → Option Value) (r : Rm) (s : S) (H : Hp) : Prop where
  inj : ∀ a b, a < s.nx → b < s.nx → r a = r b → a = b
  ob : ∀ a o, s.at_ a = some o → a < s.nx ∧ ∃ ho, H (r a) = some ho ∧ RelO K mg r s.nx s.lk H a o ho
  dom : ∀ a, a < s.nx → ∃ ho, H (r a) = some ho ∧ ∀ ps, ho ≠ .tbl ps
  tab : NdefX.TabsN T H
  lkb : ∀ a, a ∈ s.lk → a < s.nx
  fr : ∀ p, r.F p → (∀ a, a < s.nx → r a ≠ p) ∧ ∃ o, H p = some o ∧ ∀ ps, o ≠ .tbl ps

/-- D is no plain object, no list that is kept -/
def Off (r : Rm) (n : Nat) (p : Addr) : Prop := (∀ a, a < n → r a ≠ p) ∧ ¬ r.F p
structure Stp (T : List NdefX.NTab) (K : PySem.W.Frag) (mg : Str → Option Value) (r : Rm) (s : S) (H : Hp) (r' : Rm) (s' : S) (H' : Hp) : Prop where
  kp : Kp r s.nx H r' s'.nx H'
  mt : Mt T K mg r' s' H'
  lk : s'.lk = s.lk
  lkd : ∀ a, a ∈ s.lk → s'.at_ a = s.at_ a
  lkh : ∀ a, a ∈ s.lk → a < s.nx ∧ H' (r a) = H (r a)
  frm : ∀ p o, H p = some o → (∀ a, a < s.nx → r a ≠ p) → (∀ ps, o ≠ .tbl ps) → H' p = some o
  tbl : ∀ p ps, H p = some (.tbl ps) → ∃ more, H' p = some (.tbl (ps ++ more))
  fre : ∀ a, s.nx ≤ a → a < s'.nx → H (r' a) = none
  fn : ∀ p, r'.F p → r.F p ∨ H p = none
section
variable {T : List NdefX.NTab} {K : PySem.W.Frag} {mg : Str → Option Value} {r r1 r2 : Rm} {s s1 s2 : S} {H H1 H2 : Hp}
theorem Stp.refl (m : Mt T K mg r s H) : Stp T K mg r s H r s H :=
  ⟨.refl, m, rfl, fun _ _ => rfl, fun a h => ⟨m.lkb a h, rfl⟩, fun _ _ h _ _ => h, fun _ ps h => ⟨#[], by simpa using h⟩, fun a h1 h2 => absurd (Nat.lt_of_le_of_lt h1 h2) (Nat.lt_irrefl _), fun _ h => .inl h⟩
theorem Stp.there (x : Stp T K mg r s H r1 s1 H1) {p : Addr} {o : HO} (h : H p = some o) : ∃ o', H1 p = some o' := by
  by_cases z : ∃ a, a < s.nx ∧ r a = p
  · obtain ⟨a, ha, e⟩ := z
    obtain ⟨ho, q, _⟩ := x.mt.dom a (Nat.lt_of_lt_of_le ha x.kp.le)
    rw [x.kp.eq a ha, e] at q
    exact ⟨ho, q⟩
  · by_cases t : ∃ ps, o = .tbl ps
    · obtain ⟨ps, e⟩ := t
      subst e
      obtain ⟨m, q⟩ := x.tbl p ps h
      exact ⟨_, q⟩
    · exact ⟨o, x.frm p o h (fun a ha e => z ⟨a, ha, e⟩) (fun ps e => t ⟨ps, e⟩)⟩
theorem Stp.none (x : Stp T K mg r s H r1 s1 H1) {p : Addr} (h : H1 p = none) : H p = none := by
  cases e : H p with
  | none => rfl
  | some o =>
    obtain ⟨o', q⟩ := x.there e
    rw [h] at q; cases q
theorem Stp.trans (x : Stp T K mg r s H r1 s1 H1) (y : Stp T K mg r1 s1 H1 r2 s2 H2) : Stp T K mg r s H r2 s2 H2 where
  kp := x.kp.trans y.kp
  mt := y.mt
  lk := y.lk.trans x.lk
  lkd := fun a h => (y.lkd a (by rw [x.lk]; exact h)).trans (x.lkd a h)
  lkh := fun a h => by
    obtain ⟨h1, h2⟩ := x.lkh a h
    obtain ⟨_, q⟩ := y.lkh a (by rw [x.lk]; exact h)
    rw [x.kp.eq a h1] at q
    exact ⟨h1, q.trans h2⟩
  frm := fun p o h n t => by
    refine y.frm p o (x.frm p o h n t) (fun a ha e => ?_) t
    by_cases h1 : a < s.nx
    · exact n a h1 ((x.kp.eq a h1).symm.trans e)
    · have q := x.fre a (Nat.le_of_not_lt h1) ha
      rw [e, h] at q; cases q
  tbl := fun p ps h => by
    obtain ⟨m1, e1⟩ := x.tbl p ps h
    obtain ⟨m2, e2⟩ := y.tbl p _ e1
    exact ⟨m1 ++ m2, by rw [e2, Array.append_assoc]⟩
  fre := fun a h1 h2 => by
    by_cases h3 : a < s1.nx
    · rw [y.kp.eq a h3]; exact x.fre a h1 h3
    · exact x.none (y.fre a (Nat.le_of_not_lt h3) h2)
  fn := fun p h => (y.fn p h).elim (x.fn p) fun z => .inr (x.none z)
end

/-! ### what is wanted behind -/
/-- the wish about exceptions, by the class' name -/
abbrev Wish := Str → Hp → Prop
def PostE (T : List NdefX.NTab) (K : PySem.W.Frag) (mg : Str → Option Value) (r : Rm) (s : S) (H : Hp) (o : Out W) (Q : VK) (X : Wish) : Prop := match o with
  | .ok w s' => ∀ r' H' v, Stp T K mg r s H r' s' H' → RelW K r' s'.nx H' w v → Q v H'
  | .ex c s' => ∀ r' H', Stp T K mg r s H r' s' H' → X c H'
  | .bad => False
def PostA (T : List NdefX.NTab) (K : PySem.W.Frag) (mg : Str → Option Value) (r : Rm) (s : S) (H : Hp) (o : Out (List W)) (Q : List V → Hp → Prop) (X : Wish) : Prop := match o with
  | .ok w s' => ∀ r' H' v, Stp T K mg r s H r' s' H' → RelWs K r' s'.nx H' w v → Q v H'
  | .ex c s' => ∀ r' H', Stp T K mg r s H r' s' H' → X c H'
  | .bad => False
def PostT (T : List NdefX.NTab) (K : PySem.W.Frag) (mg : Str → Option Value) (r : Rm) (s : S) (H : Hp) (o : Out Bool) (Q : Bool → Hp → Prop) (X : Wish) : Prop := match o with
  | .ok b s' => ∀ r' H', Stp T K mg r s H r' s' H' → Q b H'
  | .ex c s' => ∀ r' H', Stp T K mg r s H r' s' H' → X c H'
  | .bad => False
section
variable {T : List NdefX.NTab} {K : PySem.W.Frag} {mg : Str → Option Value} {r r1 : Rm} {s s1 : S} {H H1 : Hp} {X : Wish}
theorem PostE.shift {o : Out W} {Q : VK} (h : PostE T K mg r s H o Q X) (x : Stp T K mg r s H r1 s1 H1) : PostE T K mg r1 s1 H1 o Q X := by
  cases o with
  | ok w s' => exact fun r' H' v y rl => h r' H' v (x.trans y) rl
  | ex c s' => exact fun r' H' y => h r' H' (x.trans y)
  | bad => exact h
theorem PostA.shift {o : Out (List W)} {Q : List V → Hp → Prop} (h : PostA T K mg r s H o Q X) (x : Stp T K mg r s H r1 s1 H1) : PostA T K mg r1 s1 H1 o Q X := by
  cases o with
  | ok w s' => exact fun r' H' v y rl => h r' H' v (x.trans y) rl
  | ex c s' => exact fun r' H' y => h r' H' (x.trans y)
  | bad => exact h
theorem PostT.shift {o : Out Bool} {Q : Bool → Hp → Prop} (h : PostT T K mg r s H o Q X) (x : Stp T K mg r s H r1 s1 H1) : PostT T K mg r1 s1 H1 o Q X := by
  cases o with
  | ok w s' => exact fun r' H' y => h r' H' (x.trans y)
  | ex c s' => exact fun r' H' y => h r' H' (x.trans y)
  | bad => exact h
end

/-! ### the frame's names -/
structure MtE (T : List NdefX.NTab) (X : Cx) (r : Rm) (ρ : Env) (s : S) (σ : L2.St) (H : Hp) : Prop where
  mt : Mt T X.K X.mg r s H
  len : ρ.length = σ.length
  env : ∀ (i : Nat) (w : W), ρ[i]? = some (some w) → ∃ v, σ[i]? = some (some v) ∧ RelW X.K r s.nx H w v
theorem MtE.step {T : List NdefX.NTab} {X : Cx} {r r' : Rm} {ρ : Env} {s s' : S} {σ : L2.St} {H H' : Hp} (m : MtE T X r ρ s σ H) (x : Stp T X.K X.mg r s H r' s' H') : MtE T X r' ρ s' σ H' :=
  ⟨x.mt, m.len, fun i w e => let ⟨v, e1, q⟩ := m.env i w e; ⟨v, e1, q.kp x.kp⟩⟩
theorem MtE.set {T : List NdefX.NTab} {X : Cx} {r : Rm} {ρ : Env} {s : S} {σ : L2.St} {H : Hp} {w : W} {v : V} (m : MtE T X r ρ s σ H) (q : RelW X.K r s.nx H w v) (i : Nat) : MtE T X r (ρ.set i (some w)) s (σ.set i (some v)) H := by
  refine ⟨m.mt, by simp [m.len], fun j w' e => ?_⟩
  by_cases h : i = j
  · subst h
    by_cases hl : i < ρ.length
    · rw [List.getElem?_set_self hl] at e
      cases e
      exact ⟨v, List.getElem?_set_self (by rw [← m.len]; exact hl), q⟩
    · rw [List.getElem?_eq_none (by simpa using hl)] at e; cases e
  · rw [List.getElem?_set_ne h] at e ⊢
    exact m.env j w' e

/-! ### exceptions in the air of a context, its frame at L -/
def XEF (X : Cx) (W : Value → Option Addr → Hp → Prop) (u : Value) (s' : Shared) : Prop :=
  ∃ (a : Addr) (B : Heap) (sI : Shared) (pins : List (Addr × Obj)) (σ : L2.St) (H : Hp) (cls : Value) (d : Option Addr) (L : Addr),
    u = .ref a ∧ X.env.frame = some L ∧ Inv X pins σ H sI ∧ (∀ b o, sI.heap.get? b = some o → b ∉ frs X.stack → B.get? b = some o) ∧ sI.heap.UpToSlots s'.heap ∧
      Sky B X.stack a (Zc cls d) L s'.heap ∧ H a = none ∧ s'.os = sI.os ∧ AllBare s'.gens ∧ W cls d H
def WxV (X : Cx) (Wx : Wish) : Value → Option Addr → Hp → Prop := fun cls d H => d = none ∧ ∃ c C, cls = .ref C ∧ X.mg c = some (.ref C) ∧ Wx c H
/-- what this context wants of exceptions is had of the wish -/
def Tk (X : Cx) (Wx : Wish) : Prop := ∀ u s', XEF X (WxV X Wx) u s' → X.xe u s'
section
variable {X : Cx} {pins : List (Addr × Obj)} {σ : L2.St} {H : Hp} {s : Shared}
theorem XEF.of_call {W : Value → Option Addr → Hp → Prop} {E : XK} {L : Addr} {s' : Shared} (hf : X.env.frame = some L) (I : Inv X pins σ H s) (hW : ∀ cls d H', E cls d H' → W cls d H') {u : Value} (c : CX X.prog X.w X.stack H s E u s') : XEF X W u s' := by
  obtain ⟨a, B, H', cls, d, rfl, fl, hok, ub, na, os, ag, hE⟩ := c
  obtain ⟨G, g1, g2⟩ := restrict s'.heap fun b => (B.get? b).isSome || decide (b ∈ frs X.stack)
  have st : B.StaysIn s'.heap := fl.1
  have gB : ∀ b o, B.get? b = some o → G.get? b = some o := fun b o e => by
    rw [g1 b (by simp [e])]
    exact st b o e
  have gF : ∀ b, b ∈ frs X.stack → G.get? b = s'.heap.get? b := fun b hb => g1 b (by simp [hb])
  have og : ∀ b o, G.get? b = some o → s'.heap.get? b = some o ∧ ((B.get? b).isSome = true ∨ b ∈ frs X.stack) := fun b o e => by
    cases q : ((B.get? b).isSome || decide (b ∈ frs X.stack)) with
    | false => rw [g2 b q] at e; cases e
    | true =>
      rw [g1 b q] at e
      exact ⟨e, by simpa [Bool.or_eq_true] using q⟩
  refine ⟨a, B, { s with heap := G, gens := s'.gens, drawn := s'.drawn, toks := s'.toks }, pins, σ, H', cls, d, L, rfl, hf, ?_, fun b o e hb => ?_, Heap.UpToSlots.of_keeps fun b o e => (og b o e).1, .inr (.inl fl), na, os, ag, hW _ _ _ hE⟩
  · refine I.call (ch := []) ⟨fun b o e n hb _ => gB b o (ub.keep b o e n hb), fun b o e n hb _ => ?_, fun b o e n _ => ub.free b o e n, fun b o e _ => ?_, ub.tups, ub.frzs, ub.tbls⟩ (hok.kept gB) ag (fun _ z => nomatch z)
    · obtain ⟨sl, q⟩ := ub.slot b o e hb
      exact ⟨sl, by rw [gF b hb]; exact q⟩
    · by_cases hb : b ∈ frs X.stack
      · obtain ⟨sl, q⟩ := ub.slot b o e hb
        exact ⟨_, by rw [gF b hb]; exact q⟩
      · obtain ⟨o', q⟩ := ub.there b o e hb
        exact ⟨o', gB b o' q⟩
  · obtain ⟨e', h⟩ := og b o e
    rcases h with h | h
    · obtain ⟨o', q⟩ := Option.isSome_iff_exists.mp h
      have z := st b o' q
      rw [e'] at z; cases z
      exact q
    · exact absurd h hb
end

/-! ### refinement -/
section
variable (T : List NdefX.NTab) (X : Cx)
def rdE (m : E) (Wx : Wish) : TE := fun σ H Q => ∃ r ρ s, MtE T X r ρ s σ H ∧ PostE T X.K X.mg r s H (m ρ s) Q Wx
def rdA (m : Es) (Wx : Wish) : TA := fun σ H Q => ∃ r ρ s, MtE T X r ρ s σ H ∧ PostA T X.K X.mg r s H (m ρ s) Q Wx
def rdT (m : RS.T) (Wx : Wish) : TT := fun σ H Q => ∃ r ρ s, MtE T X r ρ s σ H ∧ PostT T X.K X.mg r s H (m ρ s) Q Wx
def RE (e : Expr) (m : E) : Prop := ∀ Wx, Tk X Wx → PE X e (rdE T X m Wx)
def RA (es : List Expr) (m : Es) : Prop := ∀ Wx, Tk X Wx → PA X es (rdA T X m Wx)
def RT (e : Expr) (m : RS.T) : Prop := ∀ Wx, Tk X Wx → PT X e (rdT T X m Wx)
def RW (e : Expr) (m : RS.T) : Prop := ∀ Wx, Tk X Wx → PW X e (rdT T X m Wx)
end
theorem _root_.L2.PE.imp {X : Cx} {e : Expr} {t t' : TE} (h : PE X e t) (i : ∀ σ H Q, t' σ H Q → t σ H Q) : PE X e t' := ⟨fun pins s σ H Q I q => h.run pins s σ H Q I (i σ H Q q)⟩
theorem _root_.L2.PA.imp {X : Cx} {e : List Expr} {t t' : TA} (h : PA X e t) (i : ∀ σ H Q, t' σ H Q → t σ H Q) : PA X e t' := ⟨fun pos pins s σ H Q I q => h.run pos pins s σ H Q I (i σ H Q q)⟩
theorem _root_.L2.PT.imp {X : Cx} {e : Expr} {t t' : TT} (h : PT X e t) (i : ∀ σ H Q, t' σ H Q → t σ H Q) : PT X e t' := ⟨fun pins s σ H Q I q => h.run pins s σ H Q I (i σ H Q q)⟩
theorem _root_.L2.PW.imp {X : Cx} {e : Expr} {t t' : TT} (h : PW X e t) (i : ∀ σ H Q, t' σ H Q → t σ H Q) : PW X e t' := ⟨fun wh pins s σ H Q I q => h.run wh pins s σ H Q I (i σ H Q q)⟩
theorem _root_.L2.PS.imp {X : Cx} {e : Stmt} {t t' : TS} (h : PS X e t) (i : ∀ D σ H, t' D σ H → t D σ H) : PS X e t' := ⟨fun pins s σ H D I q => h.run pins s σ H D I (i D σ H q)⟩
theorem _root_.L2.PSs.imp {X : Cx} {e : List Stmt} {t t' : TS} (h : PSs X e t) (i : ∀ D σ H, t' D σ H → t D σ H) : PSs X e t' := ⟨fun pins s σ H D I q => h.run pins s σ H D I (i D σ H q)⟩
/-- the reading of a part, at the state at hand -/
theorem rdE.go {T : List NdefX.NTab} {X : Cx} {m : E} {Wx : Wish} {r : Rm} {ρ : Env} {s : S} {σ : L2.St} {H : Hp} {Q : VK} (h : MtE T X r ρ s σ H)
    (ok : ∀ w s', m ρ s = .ok w s' → ∀ r' H' v, Stp T X.K X.mg r s H r' s' H' → RelW X.K r' s'.nx H' w v → MtE T X r' ρ s' σ H' → Q v H')
    (ex : ∀ c s', m ρ s = .ex c s' → ∀ r' H', Stp T X.K X.mg r s H r' s' H' → Wx c H') (nb : m ρ s ≠ .bad) : rdE T X m Wx σ H Q := by
  refine ⟨r, ρ, s, h, ?_⟩
  cases e : m ρ s with
  | ok w s' => exact fun r' H' v x q => ok w s' e r' H' v x q (h.step x)
  | ex c s' => exact fun r' H' x => ex c s' e r' H' x
  | bad => exact nb e
theorem rdA.go {T : List NdefX.NTab} {X : Cx} {m : Es} {Wx : Wish} {r : Rm} {ρ : Env} {s : S} {σ : L2.St} {H : Hp} {Q : List V → Hp → Prop} (h : MtE T X r ρ s σ H)
    (ok : ∀ w s', m ρ s = .ok w s' → ∀ r' H' v, Stp T X.K X.mg r s H r' s' H' → RelWs X.K r' s'.nx H' w v → MtE T X r' ρ s' σ H' → Q v H')
    (ex : ∀ c s', m ρ s = .ex c s' → ∀ r' H', Stp T X.K X.mg r s H r' s' H' → Wx c H') (nb : m ρ s ≠ .bad) : rdA T X m Wx σ H Q := by
  refine ⟨r, ρ, s, h, ?_⟩
  cases e : m ρ s with
  | ok w s' => exact fun r' H' v x q => ok w s' e r' H' v x q (h.step x)
  | ex c s' => exact fun r' H' x => ex c s' e r' H' x
  | bad => exact nb e
theorem rdT.go {T : List NdefX.NTab} {X : Cx} {m : RS.T} {Wx : Wish} {r : Rm} {ρ : Env} {s : S} {σ : L2.St} {H : Hp} {Q : Bool → Hp → Prop} (h : MtE T X r ρ s σ H)
    (ok : ∀ b s', m ρ s = .ok b s' → ∀ r' H', Stp T X.K X.mg r s H r' s' H' → MtE T X r' ρ s' σ H' → Q b H')
    (ex : ∀ c s', m ρ s = .ex c s' → ∀ r' H', Stp T X.K X.mg r s H r' s' H' → Wx c H') (nb : m ρ s ≠ .bad) : rdT T X m Wx σ H Q := by
  refine ⟨r, ρ, s, h, ?_⟩
  cases e : m ρ s with
  | ok w s' => exact fun r' H' x => ok w s' e r' H' x (h.step x)
  | ex c s' => exact fun r' H' x => ex c s' e r' H' x
  | bad => exact nb e
end RS
set_option Elab.async false
set_option linter.all false
set_option maxRecDepth 100000
set_option autoImplicit false
/-! RS.C2: expressions. -/
namespace RS
open PySem PySem.Spec PyProof.Rows L2

/-! ### plain side -/
abbrev szL : Nat := 16777216
theorem szL_eq : szL = sizeLine := by rw [sizeLine_eq]
def eVar (i : Nat) : E := fun ρ s => match ρ[i]? with
  | some (some w) => .ok w s
  | _ => .bad
def eK (w : W) : E := fun _ s => .ok w s
def eBin (f : W → W → M W) (a b : E) : E := fun ρ s => (a ρ s).bind fun x s1 => (b ρ s1).bind fun y s2 => f x y s2
def eUn (f : W → M W) (a : E) : E := fun ρ s => (a ρ s).bind f
def eNil : Es := fun _ s => .ok [] s
def eCons (a : E) (b : Es) : Es := fun ρ s => (a ρ s).bind fun x s1 => (b ρ s1).bind fun xs s2 => .ok (x :: xs) s2
def eTup (a : Es) : E := fun ρ s => (a ρ s).bind fun xs s1 => if xs.length ≤ szL then .ok (.tup xs) s1 else .bad
/-- a new list: one that nobody writes any more (a value), or an object -/
def mkL (v : Bool) (l : List W) : M W := fun s => if v = true then .ok (.lst l) s else .ok (.ref s.nx) (s.new (.lst l))
/-- the items of a list -/
def lsW (s : S) : W → Option (List W)
  | .lst l => some l
  | .ref a => match s.at_ a with
    | some (.lst l) => some l
    | _ => none
  | _ => none
def eLst (v : Bool) (a : Es) : E := fun ρ s => (a ρ s).bind fun xs s1 => if xs.length ≤ szL then mkL v xs s1 else .bad
/-- a test as a value, a value as a test -/
def eT (t : RS.T) : E := fun ρ s => (t ρ s).bind fun b s1 => .ok (.bl b) s1
def tE (a : E) : RS.T := fun ρ s => (a ρ s).bind fun x s1 => match x with
  | .bl b => .ok b s1
  | _ => .bad
def tNot (t : RS.T) : RS.T := fun ρ s => (t ρ s).bind fun b s1 => .ok (!b) s1
def tAnd (t u : RS.T) : RS.T := fun ρ s => (t ρ s).bind fun b s1 => if b = true then u ρ s1 else .ok false s1
def tOr (t u : RS.T) : RS.T := fun ρ s => (t ρ s).bind fun b s1 => if b = true then .ok true s1 else u ρ s1
def eIf (t : RS.T) (a b : E) : E := fun ρ s => (t ρ s).bind fun c s1 => if c = true then a ρ s1 else b ρ s1
def eAnd (a b : E) : E := fun ρ s => (a ρ s).bind fun x s1 => match x with
  | .bl c => if c = true then b ρ s1 else .ok (.bl false) s1
  | _ => .bad
def eOr (a b : E) : E := fun ρ s => (a ρ s).bind fun x s1 => match x with
  | .bl c => if c = true then .ok (.bl true) s1 else b ρ s1
  | _ => .bad
def eNot (a : E) : E := fun ρ s => (a ρ s).bind fun x s1 => match x with
  | .bl c => .ok (.bl (!c)) s1
  | _ => .bad
def eChain (f g : W → W → M W) (a b c : E) : E := fun ρ s => (a ρ s).bind fun x s1 => (b ρ s1).bind fun y s2 => (f x y s2).bind fun z s3 => match z with
  | .bl k => if k = true then (c ρ s3).bind fun w s4 => g y w s4 else .ok (.bl false) s3
  | _ => .bad

/-! ### operators -/
def addW (v : Bool) (x y : W) : M W := match x, y with
  | .int i, .int j => fun s => .ok (.int (i + j)) s
  | .str x, .str y => fun s => if x.length + y.length ≤ szL then .ok (.str (x ++ y)) s else .bad
  | .tup a, .tup b => fun s => if a.length + b.length ≤ szL then .ok (.tup (a ++ b)) s else .bad
  | x, y => fun s => match lsW s x, lsW s y with
    | some l, some m => if l.length + m.length ≤ szL then mkL v (l ++ m) s else .bad
    | _, _ => .bad
abbrev addV : W → W → M W := addW true
abbrev addR : W → W → M W := addW false
def subV : W → W → M W
  | .int i, .int j => fun s => .ok (.int (i - j)) s
  | _, _ => fun _ => .bad
def mulOk (i j : Int) : Bool := decide (-(2 ^ 64) < i ∧ i < 2 ^ 64) || decide (-(2 ^ 64) < j ∧ j < 2 ^ 64)
def mulW (v : Bool) (x y : W) : M W := match x, y with
  | .int i, .int j => fun s => if mulOk i j = true then .ok (.int (i * j)) s else .bad
  | .tup l, .int k => fun s => if l ≠ [] ∧ 2 ≤ k ∧ k ≤ 1000 ∧ l.length ≤ 1000 then .ok (.tup (List.replicate k.toNat l).flatten) s else .bad
  | x, .int k => fun s => match lsW s x with
    | some l => if -(2 ^ 63) ≤ k ∧ k < 2 ^ 63 ∧ l.length * k.toNat ≤ szL then mkL v (List.replicate k.toNat l).flatten s else .bad
    | none => .bad
  | _, _ => fun _ => .bad
abbrev mulV : W → W → M W := mulW true
abbrev mulR : W → W → M W := mulW false
def fdivV : W → W → M W
  | .int i, .int j => fun s => if 0 < j ∧ j < 1073741824 then .ok (.int (i / j)) s else .bad
  | _, _ => fun _ => .bad
def modV : W → W → M W
  | .int i, .int j => fun s => if 0 < j then .ok (.int (i % j)) s else .bad
  | _, _ => fun _ => .bad
def powV : W → W → M W
  | .int i, .int j => fun s => if 0 ≤ j ∧ j ≤ 1000000 ∧ i.natAbs < 2 ^ 64 then .ok (.int (i ^ j.toNat)) s else .bad
  | _, _ => fun _ => .bad
def negV : W → M W
  | .int i => fun s => .ok (.int (-i)) s
  | _ => fun _ => .bad
def cmpI (p : Int → Int → Bool) : W → W → M W
  | .int i, .int j => fun s => .ok (.bl (p i j)) s
  | _, _ => fun _ => .bad
def ltV : W → W → M W := cmpI fun i j => decide (i < j)
def leV : W → W → M W := cmpI fun i j => decide (i ≤ j)
def gtV : W → W → M W := cmpI fun i j => decide (j < i)
def geV : W → W → M W := cmpI fun i j => decide (j ≤ i)
def isN : W → W → M W
  | x, .non => fun s => match x with
    | .non => .ok (.bl true) s
    | _ => .ok (.bl false) s
  | .bl a, .bl b => fun s => .ok (.bl (decide (a = b))) s
  | _, _ => fun _ => .bad
def notN : W → W → M W
  | x, .non => fun s => match x with
    | .non => .ok (.bl false) s
    | _ => .ok (.bl true) s
  | .bl a, .bl b => fun s => .ok (.bl (!decide (a = b))) s
  | _, _ => fun _ => .bad

/-! ### the laying of a new object -/
section
variable {T : List NdefX.NTab} {K : PySem.W.Frag} {mg : Str → Option Value} {r : Rm} {s : S} {H : Hp}
theorem kp_upd {p : Addr} {ho : HO} (hp : H p = none) : Kp r s.nx H r s.nx (upd H p ho) :=
  ⟨Nat.le_refl _, fun _ _ => rfl, fun q xs h => by rw [upd_ne (ne_of_none h hp)]; exact h, fun _ h => h, fun q xs _ h => by rw [upd_ne (ne_of_none h hp)]; exact h⟩
theorem Mt.ne (m : Mt T K mg r s H) {p : Addr} (hp : H p = none) {a : Nat} (ha : a < s.nx) : r a ≠ p := fun e => by
  obtain ⟨ho, q, _⟩ := m.dom a ha
  rw [e, hp] at q; cases q
/-- an object that no plain address names (a tuple) is laid -/
theorem Mt.junk (m : Mt T K mg r s H) {p : Addr} {ho : HO} (hp : H p = none) : Stp T K mg r s H r s (upd H p ho) := by
  refine ⟨kp_upd hp, ⟨m.inj, fun a o h => ?_, fun a ha => ?_, ?_, m.lkb, fun q hq => ⟨(m.fr q hq).1, (m.fr q hq).2.elim fun o e => ⟨o, by rw [upd_ne (ne_of_none e.1 hp)]; exact e.1, e.2⟩⟩⟩, rfl, fun _ _ => rfl, fun a ha => ⟨m.lkb a ha, by rw [upd_ne (m.ne hp (m.lkb a ha))]⟩, fun q o h _ _ => by rw [upd_ne (ne_of_none h hp)]; exact h, fun q ps h => ⟨#[], by rw [upd_ne (ne_of_none h hp)]; simpa using h⟩,
    fun a h1 h2 => absurd (Nat.lt_of_le_of_lt h1 h2) (Nat.lt_irrefl _), fun _ h => .inl h⟩
  · obtain ⟨h1, u, h2, h3⟩ := m.ob a o h
    exact ⟨h1, u, by rw [upd_ne (m.ne hp h1)]; exact h2, h3.kp (kp_upd hp)⟩
  · obtain ⟨u, h2, h3⟩ := m.dom a ha
    exact ⟨u, by rw [upd_ne (m.ne hp ha)]; exact h2, h3⟩
  · exact NdefX.TabsN.ext m.tab fun b o e => by rw [upd_ne (ne_of_none e hp)]; exact e
/-- the map, one further -/
def rN (r : Rm) (n : Nat) (p : Addr) : Rm := ⟨fun a => if a = n then p else r a, r.F⟩
theorem rN_at {n : Nat} {p : Addr} : rN r n p n = p := by show (if n = n then p else r n) = p; rw [if_pos rfl]
theorem rN_lt {n : Nat} {p : Addr} {a : Nat} (h : a < n) : rN r n p a = r a := by show (if a = n then p else r a) = r a; rw [if_neg (Nat.ne_of_lt h)]
/-- one list more that nobody writes -/
def rF (r : Rm) (p : Addr) : Rm := ⟨r.m, fun q => q = p ∨ r.F q⟩
theorem kp_new {p : Addr} {ho : HO} (hp : H p = none) : Kp r s.nx H (rN r s.nx p) (s.nx + 1) (upd H p ho) :=
  ⟨Nat.le_succ _, fun a h => rN_lt h, fun q xs h => by rw [upd_ne (ne_of_none h hp)]; exact h, fun _ h => h, fun q xs _ h => by rw [upd_ne (ne_of_none h hp)]; exact h⟩
theorem kp_newF {p : Addr} {ho : HO} (hp : H p = none) : Kp r s.nx H (rF r p) s.nx (upd H p ho) :=
  ⟨Nat.le_refl _, fun _ _ => rfl, fun q xs h => by rw [upd_ne (ne_of_none h hp)]; exact h, fun _ h => .inr h, fun q xs _ h => by rw [upd_ne (ne_of_none h hp)]; exact h⟩
/-- a new list that nobody writes -/
theorem Mt.junkF (m : Mt T K mg r s H) {p : Addr} {ys : List V} (hp : H p = none) : Stp T K mg r s H (rF r p) s (upd H p (.lst ys)) := by
  have j := m.junk (ho := .lst ys) hp
  refine ⟨kp_newF hp, ⟨j.mt.inj, fun a o h => ?_, j.mt.dom, j.mt.tab, j.mt.lkb, fun q hq => ?_⟩, rfl, j.lkd, j.lkh, j.frm, j.tbl, j.fre, fun q hq => ?_⟩
  · obtain ⟨h1, u, h2, h3⟩ := m.ob a o h
    exact ⟨h1, u, by show upd H p (.lst ys) (r a) = some u; rw [upd_ne (m.ne hp h1)]; exact h2, h3.kp (kp_newF hp)⟩
  · rcases hq with e | hq
    · rw [e]; exact ⟨fun a ha => m.ne hp ha, _, upd_same, fun _ z => nomatch z⟩
    · exact j.mt.fr q hq
  · rcases hq with e | hq
    · exact .inr (by rw [e]; exact hp)
    · exact .inl hq
theorem Mt.new (m : Mt T K mg r s H) {p : Addr} {ho : HO} {o : O} (hp : H p = none) (hr : RelO K mg (rN r s.nx p) (s.nx + 1) s.lk (upd H p ho) s.nx o ho) :
    Stp T K mg r s H (rN r s.nx p) (s.new o) (upd H p ho) := by
  refine ⟨kp_new hp, ⟨fun a b ha hb e => ?_, fun a o' h => ?_, fun a ha => ?_, NdefX.TabsN.ext m.tab fun b o e => by rw [upd_ne (ne_of_none e hp)]; exact e, fun a ha => Nat.lt_succ_of_lt (m.lkb a ha), fun q hq => ?_⟩, rfl, fun a ha => ?_, fun a ha => ⟨m.lkb a ha, by rw [upd_ne (m.ne hp (m.lkb a ha))]⟩, fun q o h _ _ => by rw [upd_ne (ne_of_none h hp)]; exact h,
    fun q ps h => ⟨#[], by rw [upd_ne (ne_of_none h hp)]; simpa using h⟩, fun a h1 h2 => ?_, fun _ h => .inl h⟩
  · have ha : a < s.nx + 1 := ha
    have hb : b < s.nx + 1 := hb
    by_cases h1 : a = s.nx
    · by_cases h2 : b = s.nx
      · rw [h1, h2]
      · have hb' : b < s.nx := by omega
        rw [h1, rN_at, rN_lt hb'] at e
        exact absurd e.symm (m.ne hp hb')
    · have ha' : a < s.nx := by omega
      by_cases h2 : b = s.nx
      · rw [h2, rN_at, rN_lt ha'] at e
        exact absurd e (m.ne hp ha')
      · have hb' : b < s.nx := by omega
        rw [rN_lt ha', rN_lt hb'] at e
        exact m.inj a b ha' hb' e
  · have h : (if a = s.nx then some o else s.at_ a) = some o' := h
    by_cases h1 : a = s.nx
    · rw [if_pos h1] at h
      cases h
      subst h1
      exact ⟨Nat.lt_succ_self _, ho, by rw [rN_at, upd_same], hr⟩
    · rw [if_neg h1] at h
      obtain ⟨g1, u, g2, g3⟩ := m.ob a o' h
      exact ⟨Nat.lt_succ_of_lt g1, u, by rw [rN_lt g1, upd_ne (m.ne hp g1)]; exact g2, g3.kp (kp_new hp)⟩
  · have ha : a < s.nx + 1 := ha
    by_cases h1 : a = s.nx
    · subst h1
      exact ⟨ho, by rw [rN_at, upd_same], hr.notup.2.1⟩
    · have ha' : a < s.nx := by omega
      obtain ⟨u, h2, h3⟩ := m.dom a ha'
      exact ⟨u, by rw [rN_lt ha', upd_ne (m.ne hp ha')]; exact h2, h3⟩
  · obtain ⟨h1, xs, h2, h2n⟩ := m.fr q hq
    refine ⟨fun a ha e => ?_, xs, by rw [upd_ne (ne_of_none h2 hp)]; exact h2, h2n⟩
    have ha : a < s.nx + 1 := ha
    by_cases h3 : a = s.nx
    · subst h3
      rw [rN_at] at e
      rw [← e, hp] at h2
      cases h2
    · have ha' : a < s.nx := by omega
      rw [rN_lt ha'] at e
      exact h1 a ha' e
  · show (if a = s.nx then some o else s.at_ a) = s.at_ a
    rw [if_neg (Nat.ne_of_lt (m.lkb a ha))]
  · have h2 : a < s.nx + 1 := h2
    have e : a = s.nx := by omega
    subst e
    rw [rN_at]; exact hp
/-- an object is stored anew -/
theorem Mt.put (m : Mt T K mg r s H) {a : Nat} {o o₀ : O} {ho u₀ : HO} (ha : s.at_ a = some o₀) (hu : H (r a) = some u₀) (nu : ∀ xs, u₀ ≠ .tup xs) (nt : ∀ ps, u₀ ≠ .tbl ps) (nx : ∀ φ, u₀ ≠ .ext φ) (hn : a ∉ s.lk) (hr : RelO K mg r s.nx s.lk (upd H (r a) ho) a o ho) :
    Stp T K mg r s H r (s.set a o) (upd H (r a) ho) := by
  obtain ⟨hlt, _⟩ := m.ob a o₀ ha
  have kk : Kp r s.nx H r s.nx (upd H (r a) ho) := ⟨Nat.le_refl _, fun _ _ => rfl, fun q xs h => by
    rw [upd_ne fun e => ?_]; exact h
    rw [e, hu] at h; exact nu xs (Option.some.inj h), fun _ h => h, fun q xs f h => by
    rw [upd_ne (Ne.symm ((m.fr q f).1 a hlt))]; exact h⟩
  refine ⟨kk, ⟨m.inj, fun b o' h => ?_, fun b hb => ?_, fun p hp => ?_, m.lkb, fun q f => ⟨(m.fr q f).1, (m.fr q f).2.elim fun o e => ⟨o, kk.lst q o f e.1, e.2⟩⟩⟩, rfl, fun b hb => ?_, fun b hb => ⟨m.lkb b hb, by rw [upd_ne fun e => hn (by rw [← m.inj b a (m.lkb b hb) hlt e]; exact hb)]⟩, fun q o h n _ => by rw [upd_ne (Ne.symm (n a hlt))]; exact h, fun q ps h => ⟨#[], ?_⟩, fun b h1 h2 => absurd (Nat.lt_of_le_of_lt h1 h2) (Nat.lt_irrefl _), fun _ h => .inl h⟩
  · have h : (if b = a then some o else s.at_ b) = some o' := h
    by_cases h1 : b = a
    · rw [if_pos h1] at h
      cases h
      subst h1
      exact ⟨hlt, ho, upd_same, hr⟩
    · rw [if_neg h1] at h
      obtain ⟨g1, u, g2, g3⟩ := m.ob b o' h
      exact ⟨g1, u, by rw [upd_ne fun e => h1 (m.inj b a g1 hlt e)]; exact g2, g3.kp kk⟩
  · obtain ⟨u, h2, h3⟩ := m.dom b hb
    by_cases h1 : r b = r a
    · exact ⟨ho, by rw [h1, upd_same], hr.notup.2.1⟩
    · exact ⟨u, by rw [upd_ne h1]; exact h2, h3⟩
  · obtain ⟨ps, e1, e2, e3⟩ := m.tab p hp
    refine ⟨ps, by rw [upd_ne (fun e => by rw [e, hu] at e1; exact nt ps (Option.some.inj e1))]; exact e1, e2, fun pos cv hc => ?_⟩
    obtain ⟨c, z1, z2⟩ := e3 pos cv hc
    refine ⟨c, z1, ?_⟩
    rw [upd_ne fun e => ?_]; exact z2
    rw [e, hu] at z2
    exact nx _ (Option.some.inj z2)
  · show (if b = a then some o else s.at_ b) = s.at_ b
    rw [if_neg (fun z => hn (by rw [← z]; exact hb))]
  · rw [upd_ne (fun e => by rw [e, hu] at h; exact nt ps (Option.some.inj h))]
    simpa using h
end

/-! ### rules -/
section
variable {T : List NdefX.NTab} {X : Cx} {pos : Pos}
theorem rs_var {i : Nat} {x : Str} (hN : X.N[i]? = some x := by rfl) (hv : Vis X.env.scope x := by first | exact Or.inl rfl | exact Or.inr (Or.inl rfl) | exact Or.inr (Or.inr rfl))
    (hd : (x == ("__debug__" : Str)) = false := by decide) (hcd : (x == ("__classdict__" : Str)) = false := by decide) : RE T X (.Name x pos) (eVar i) := fun Wx _ => by
  refine (pe_var (i := i) hN hv hd hcd).imp fun σ H Q h => ?_
  obtain ⟨r, ρ, s, m, q⟩ := h
  cases e : ρ[i]? with
  | none => simp only [eVar, e] at q; exact q.elim
  | some o =>
    cases o with
    | none => simp only [eVar, e] at q; exact q.elim
    | some w =>
      obtain ⟨v, hv, rl⟩ := m.env i w e
      simp only [eVar, e] at q
      exact ⟨v, hv, q r H v (.refl m.mt) rl⟩
theorem rs_k {e : Expr} {w : W} {v : V} (h : PE X e (tC v)) (hw : ∀ K r n H, RelW K r n H w v) : RE T X e (eK w) := fun Wx _ => by
  refine h.imp fun σ H Q h => ?_
  obtain ⟨r, ρ, s, m, q⟩ := h
  exact q r H v (.refl m.mt) (hw _ _ _ _)
theorem rs_int {i j} : RE T X (.Constant (.int i) j pos) (eK (.int i)) := rs_k pe_int fun _ _ _ _ => by unfold RelW; rfl
theorem rs_bl {b j} : RE T X (.Constant (.bool b) j pos) (eK (.bl b)) := rs_k pe_bl fun _ _ _ _ => by unfold RelW; rfl
theorem rs_non {j} : RE T X (.Constant .none j pos) (eK .non) := rs_k pe_non fun _ _ _ _ => by unfold RelW; rfl
theorem rs_str {x j} : RE T X (.Constant (.str x) j pos) (eK (.str x)) := rs_k pe_str fun _ _ _ _ => by unfold RelW; rfl
/-- a module's constant -/
structure GlobK (K : PySem.W.Frag) (mg : Str → Option Value) (x : Str) (w : W) : Prop where
  ex : ∃ u v, mg x = some u ∧ RelV v u ∧ ∀ r n H, RelW K r n H w v
theorem rs_glob {x : Str} {w : W} (g : GlobK X.K X.mg x w) (hg : Gl X x := by rfl) (hd : (x == ("__debug__" : Str)) = false := by decide) : RE T X (.Name x pos) (eK w) := fun Wx _ => by
  obtain ⟨u, v, h1, h2, h3⟩ := g.ex
  refine (pe_glob hg h1 h2 hd).imp fun σ H Q h => ?_
  obtain ⟨r, ρ, s, m, q⟩ := h
  exact q r H v (.refl m.mt) (h3 _ _ _)

/-- an operation on values refines one on plain values -/
def OpW (T : List NdefX.NTab) (X : Cx) (f : Value → Value → Sem Value) (g : W → W → M W) : Prop := ∀ Wx, Tk X Wx → OpR X f fun x y H Q =>
  ∃ r s a b, Mt T X.K X.mg r s H ∧ RelW X.K r s.nx H a x ∧ RelW X.K r s.nx H b y ∧ PostE T X.K X.mg r s H (g a b s) Q Wx
def UnW (T : List NdefX.NTab) (X : Cx) (f : Value → Sem Value) (g : W → M W) : Prop := ∀ Wx, Tk X Wx → UnR X f fun x H Q =>
  ∃ r s a, Mt T X.K X.mg r s H ∧ RelW X.K r s.nx H a x ∧ PostE T X.K X.mg r s H (g a s) Q Wx
theorem rs_bin {op : Operator} {g : W → W → M W} {a b : Expr} {ma mb : E} (ho : OpW T X (binaryOp op) g) (ha : RE T X a ma) (hb : RE T X b mb) : RE T X (.BinOp a op b pos) (eBin g ma mb) := fun Wx tk => by
  refine (pe_op (ho Wx tk) (ha Wx tk) (hb Wx tk)).imp fun σ H Q h => ?_
  obtain ⟨r, ρ, s, m, q⟩ := h
  unfold eBin at q
  refine rdE.go m (fun x s1 e1 r1 H1 v1 p1 l1 m1 => ?_) (fun c s1 e1 r1 H1 p1 => ?_) (fun e1 => ?_)
  · rw [e1] at q
    refine rdE.go m1 (fun y s2 e2 r2 H2 v2 p2 l2 m2 => ?_) (fun c s2 e2 r2 H2 p2 => ?_) (fun e2 => ?_)
    · simp only [Out.bind, e2] at q
      exact ⟨r2, s2, x, y, m2.mt, l1.kp p2.kp, l2, q.shift (p1.trans p2)⟩
    · simp only [Out.bind, e2] at q
      exact q r2 H2 (p1.trans p2)
    · simp only [Out.bind, e2] at q
      exact q
  · rw [e1] at q; exact q r1 H1 p1
  · rw [e1] at q; exact q
theorem rs_cmp {op : CmpOp} {g : W → W → M W} {a b : Expr} {ma mb : E} (ho : OpW T X (compareOp op) g) (ha : RE T X a ma) (hb : RE T X b mb) (hm : behindInMarks op b = false := by first | exact nomark _ | rfl) : RE T X (.Compare a [op] [b] pos) (eBin g ma mb) := fun Wx tk => by
  refine (pe_cmpR (ho Wx tk) (ha Wx tk) (hb Wx tk) hm).imp fun σ H Q h => ?_
  obtain ⟨r, ρ, s, m, q⟩ := h
  unfold eBin at q
  refine rdE.go m (fun x s1 e1 r1 H1 v1 p1 l1 m1 => ?_) (fun c s1 e1 r1 H1 p1 => ?_) (fun e1 => ?_)
  · rw [e1] at q
    refine rdE.go m1 (fun y s2 e2 r2 H2 v2 p2 l2 m2 => ?_) (fun c s2 e2 r2 H2 p2 => ?_) (fun e2 => ?_)
    · simp only [Out.bind, e2] at q
      exact ⟨r2, s2, x, y, m2.mt, l1.kp p2.kp, l2, q.shift (p1.trans p2)⟩
    · simp only [Out.bind, e2] at q
      exact q r2 H2 (p1.trans p2)
    · simp only [Out.bind, e2] at q
      exact q
  · rw [e1] at q; exact q r1 H1 p1
  · rw [e1] at q; exact q
theorem rs_un {op : UnaryOp} {g : W → M W} {a : Expr} {ma : E} (ho : UnW T X (unaryOp op) g) (ha : RE T X a ma) : RE T X (.UnaryOp op a pos) (eUn g ma) := fun Wx tk => by
  refine (pe_un (ho Wx tk) (ha Wx tk)).imp fun σ H Q h => ?_
  obtain ⟨r, ρ, s, m, q⟩ := h
  unfold eUn at q
  refine rdE.go m (fun x s1 e1 r1 H1 v1 p1 l1 m1 => ?_) (fun c s1 e1 r1 H1 p1 => ?_) (fun e1 => ?_)
  · rw [e1] at q
    exact ⟨r1, s1, x, m1.mt, l1, q.shift p1⟩
  · rw [e1] at q; exact q r1 H1 p1
  · rw [e1] at q; exact q
theorem ra_nil : RA T X [] eNil := fun Wx _ => by
  refine pa_nil.imp fun σ H Q h => ?_
  obtain ⟨r, ρ, s, m, q⟩ := h
  exact q r H [] (.refl m.mt) RelWs.nil
theorem ra_cons {e : Expr} {es : List Expr} {me : E} {ms : Es} (ha : RE T X e me) (hs : RA T X es ms) (hst : starEach (e :: es) X.env = (false, eval e X.env) :: starEach es X.env := by rfl) : RA T X (e :: es) (eCons me ms) := fun Wx tk => by
  refine (pa_cons (ha Wx tk) (hs Wx tk) hst).imp fun σ H Q h => ?_
  obtain ⟨r, ρ, s, m, q⟩ := h
  unfold eCons at q
  refine rdE.go m (fun x s1 e1 r1 H1 v1 p1 l1 m1 => ?_) (fun c s1 e1 r1 H1 p1 => ?_) (fun e1 => ?_)
  · rw [e1] at q
    refine rdA.go m1 (fun y s2 e2 r2 H2 v2 p2 l2 m2 => ?_) (fun c s2 e2 r2 H2 p2 => ?_) (fun e2 => ?_)
    · simp only [Out.bind, e2] at q
      exact q r2 H2 _ (p1.trans p2) (RelWs.cons (l1.kp p2.kp) l2)
    · simp only [Out.bind, e2] at q
      exact q r2 H2 (p1.trans p2)
    · simp only [Out.bind, e2] at q
      exact q
  · rw [e1] at q; exact q r1 H1 p1
  · rw [e1] at q; exact q
theorem rs_tup {es : List Expr} {ms : Es} {x1} (h : RA T X es ms) : RE T X (.Tuple es x1 pos) (eTup ms) := fun Wx tk => by
  refine (pe_tup (h Wx tk)).imp fun σ H Q h => ?_
  obtain ⟨r, ρ, s, m, q⟩ := h
  unfold eTup at q
  refine rdA.go m (fun xs s1 e1 r1 H1 v1 p1 l1 m1 => ?_) (fun c s1 e1 r1 H1 p1 => ?_) (fun e1 => ?_)
  · rw [e1] at q
    simp only [Out.bind] at q
    split at q
    · rename_i hl
      rw [szL_eq] at hl
      refine ⟨by rw [← l1.len]; exact hl, fun p hp => ?_⟩
      have j := m1.mt.junk (ho := .tup v1) hp
      refine q r1 _ (.ref p) (p1.trans j) ?_
      unfold RelW
      exact ⟨p, v1, rfl, .inl upd_same, RelWs.kp j.kp l1⟩
    · exact q.elim
  · rw [e1] at q; exact q r1 H1 p1
  · rw [e1] at q; exact q
end
end RS
set_option Elab.async false
set_option linter.all false
set_option maxRecDepth 100000
set_option autoImplicit false
/-! RS.C3: operators, tests, displays, items, slices. -/
namespace RS
open PySem PySem.Spec PyProof.Rows L2
section
variable {T : List NdefX.NTab} {K : PySem.W.Frag} {mg : Str → Option Value} {r : Rm} {s : S} {H : Hp} {Q : VK} {Wx : Wish}
theorem rInt {i : Int} {v : V} {n : Nat} (h : RelW K r n H (.int i) v) : v = .int i := by unfold RelW at h; exact h
theorem rStr {i : Str} {v : V} {n : Nat} (h : RelW K r n H (.str i) v) : v = .str i := by unfold RelW at h; exact h
theorem rBl {i : Bool} {v : V} {n : Nat} (h : RelW K r n H (.bl i) v) : v = .bl i := by unfold RelW at h; exact h
theorem rNon {v : V} {n : Nat} (h : RelW K r n H .non v) : v = .non := by unfold RelW at h; exact h
theorem rRef {a : Nat} {v : V} {n : Nat} (h : RelW K r n H (.ref a) v) : a < n ∧ v = .ref (r a) := by unfold RelW at h; exact h
theorem rTup {l : List W} {v : V} {n : Nat} (h : RelW K r n H (.tup l) v) : ∃ p xs, v = .ref p ∧ TupAt K H p xs ∧ RelWs K r n H l xs := by unfold RelW at h; exact h
theorem mInt {i : Int} {n : Nat} : RelW K r n H (.int i) (.int i) := by unfold RelW; rfl
theorem mStr {i : Str} {n : Nat} : RelW K r n H (.str i) (.str i) := by unfold RelW; rfl
theorem mBl {i : Bool} {n : Nat} : RelW K r n H (.bl i) (.bl i) := by unfold RelW; rfl
theorem mNon {n : Nat} : RelW K r n H .non .non := by unfold RelW; rfl
theorem mRef {a n : Nat} (h : a < n) : RelW K r n H (.ref a) (.ref (r a)) := by unfold RelW; exact ⟨h, rfl⟩
theorem rLst {l : List W} {v : V} {n : Nat} (h : RelW K r n H (.lst l) v) : ∃ p xs, v = .ref p ∧ r.F p ∧ H p = some (.lst xs) ∧ RelWs K r n H l xs := by unfold RelW at h; exact h
theorem rDct {ks : List Key} {l : List W} {v : V} {n : Nat} (h : RelW K r n H (.dct ks l) v) : ∃ p od kvs, v = .ref p ∧ r.F p ∧ H p = some (.frz od (.dK kvs)) ∧ kvs.map (·.1) = ks ∧ RelWs K r n H l (kvs.map (·.2)) := by unfold RelW at h; exact h
theorem mLst {l : List W} {n : Nat} {p : Addr} {xs : List V} (f : r.F p) (h : H p = some (.lst xs)) (q : RelWs K r n H l xs) : RelW K r n H (.lst l) (.ref p) := by unfold RelW; exact ⟨p, xs, rfl, f, h, q⟩
theorem mTup {l : List W} {n : Nat} {p : Addr} {xs : List V} (h : TupAt K H p xs) (q : RelWs K r n H l xs) : RelW K r n H (.tup l) (.ref p) := by unfold RelW; exact ⟨p, xs, rfl, h, q⟩
/-- the answer is at hand -/
theorem PostE.at {w : W} {v : V} (m : Mt T K mg r s H) (q : PostE T K mg r s H (.ok w s) Q Wx) (h : RelW K r s.nx H w v) : Q v H := q r H v (.refl m) h
/-- a new tuple -/
theorem PostE.tup {l : List W} {xs : List V} (m : Mt T K mg r s H) (q : PostE T K mg r s H (.ok (.tup l) s) Q Wx) (h : RelWs K r s.nx H l xs) : ∀ p, H p = none → Q (.ref p) (upd H p (.tup xs)) := fun p hp =>
  q r _ _ (m.junk hp) (mTup (.inl upd_same) (RelWs.kp (kp_upd hp) h))
/-- a new list -/
theorem PostE.lst {v : Bool} {l : List W} {xs : List V} (m : Mt T K mg r s H) (q : PostE T K mg r s H (mkL v l s) Q Wx) (h : RelWs K r s.nx H l xs) : ∀ p, H p = none → Q (.ref p) (upd H p (.lst xs)) := fun p hp => by
  cases v with
  | true => exact q _ _ _ (m.junkF hp) (mLst (r := rF r p) (.inl rfl) upd_same (RelWs.kp (kp_newF hp) h))
  | false => ?_
  have k : Kp r s.nx H (rN r s.nx p) (s.nx + 1) (upd H p (.lst xs)) := kp_new hp
  refine q _ _ _ (m.new (o := .lst l) hp ⟨xs, rfl, RelWs.kp k h⟩) ?_
  unfold RelW
  exact ⟨Nat.lt_succ_self _, by rw [rN_at]⟩
/-- a list of the state, to be read or written -/
theorem Mt.lst (m : Mt T K mg r s H) {a : Nat} {l : List W} (h : s.at_ a = some (.lst l)) : a < s.nx ∧ ∃ xs, H (r a) = some (.lst xs) ∧ RelWs K r s.nx H l xs := by
  obtain ⟨h1, ho, h2, xs, e, q⟩ := m.ob a _ h
  subst e
  exact ⟨h1, xs, h2, q⟩
/-- a list, however it lies -/
theorem Mt.ls (m : Mt T K mg r s H) {w : W} {v : V} {l : List W} (h : RelW K r s.nx H w v) (e : lsW s w = some l) : ∃ p xs, v = .ref p ∧ H p = some (.lst xs) ∧ RelWs K r s.nx H l xs := by
  cases w <;> first | (cases e; done) | skip
  · obtain ⟨ha, rfl⟩ := rRef h
    simp only [lsW] at e
    split at e
    · rename_i l2 e2
      cases e
      obtain ⟨_, xs, h1, h2⟩ := m.lst e2
      exact ⟨_, xs, rfl, h1, h2⟩
    · cases e
  · cases e
    obtain ⟨p, xs, rfl, _, h1, h2⟩ := rLst h
    exact ⟨p, xs, rfl, h1, h2⟩
theorem Mt.putL (m : Mt T K mg r s H) {a : Nat} {l l' : List W} {xs' : List V} (h : s.at_ a = some (.lst l)) (hn : a ∉ s.lk) (q : RelWs K r s.nx H l' xs') : Stp T K mg r s H r (s.set a (.lst l')) (upd H (r a) (.lst xs')) := by
  obtain ⟨h1, xs, h2, h3⟩ := m.lst h
  refine m.put h h2 (fun _ z => nomatch z) (fun _ z => nomatch z) (fun _ z => nomatch z) hn ⟨xs', rfl, RelWs.kp (r := r) (n := s.nx) (H := H) ?_ q⟩
  exact ⟨Nat.le_refl _, fun _ _ => rfl, fun p ys z => by
    by_cases e : p = r a
    · rw [e, h2] at z; cases z
    · rw [upd_ne e]; exact z, fun _ z => z, fun p ys f z => by
    rw [upd_ne (Ne.symm ((m.fr p f).1 a h1))]; exact z⟩
end

section
variable {T : List NdefX.NTab} {X : Cx} {pos : Pos}
theorem ow_int {f : Value → Value → Sem Value} {g : W → W → M W} {rr : R2} (h : OpR X f rr) {p : Int → Int → W} {pv : Int → Int → V} (c : Int → Int → Prop) (hp : ∀ i j K r n H, RelW K r n H (p i j) (pv i j))
    (hr : ∀ i j Hh Qq, c i j → Qq (pv i j) Hh → rr (.int i) (.int j) Hh Qq) (hg : ∀ a b s, g a b s = .bad ∨ ∃ i j, a = .int i ∧ b = .int j ∧ g a b s = .ok (p i j) s ∧ c i j) : OpW T X f g := fun Wx tk pins s σ H x y v u Q I rx ry hh => by
  obtain ⟨r, S, a, b, m, ra, rb, q⟩ := hh
  rcases hg a b S with e | ⟨i, j, ea, eb, e, hc⟩
  · rw [e] at q; exact False.elim q
  · subst ea; subst eb
    rw [e] at q
    obtain rfl := rInt ra
    obtain rfl := rInt rb
    exact h pins s σ H _ _ v u Q I rx ry (hr i j H Q hc (q.at m (hp i j _ _ _ _)))
theorem ow_sub : OpW T X (binaryOp .Sub) subV := ow_int op_sub (p := fun i j => .int (i - j)) (fun _ _ => True) (fun _ _ _ _ _ _ => mInt) (fun i j _ _ _ q => ⟨i, j, rfl, rfl, q⟩) fun a b s => by
  cases a <;> cases b <;> first | exact .inl rfl | exact .inr ⟨_, _, rfl, rfl, rfl, trivial⟩
theorem ow_fdiv : OpW T X (binaryOp .FloorDiv) fdivV := ow_int op_fdiv (p := fun i j => .int (i / j)) CDiv (fun _ _ _ _ _ _ => mInt) (fun i j _ _ c q => ⟨i, j, rfl, rfl, c, q⟩) fun a b s => by
  cases a <;> cases b <;> first | exact .inl rfl | skip
  rename_i i j
  by_cases h : 0 < j ∧ j < 1073741824
  · exact .inr ⟨_, _, rfl, rfl, by simp [fdivV, h], h⟩
  · exact .inl (by simp [fdivV, h])
theorem ow_mod : OpW T X (binaryOp .Mod) modV := ow_int op_mod (p := fun i j => .int (i % j)) (fun _ j => 0 < j) (fun _ _ _ _ _ _ => mInt) (fun i j _ _ c q => ⟨i, j, rfl, rfl, c, q⟩) fun a b s => by
  cases a <;> cases b <;> first | exact .inl rfl | skip
  rename_i i j
  by_cases h : 0 < j
  · exact .inr ⟨_, _, rfl, rfl, by simp [modV, h], h⟩
  · exact .inl (by simp [modV, h])
theorem ow_pow : OpW T X (binaryOp .Pow) powV := ow_int op_pow (p := fun i j => .int (i ^ j.toNat)) CPow (fun _ _ _ _ _ _ => mInt) (fun i j _ _ c q => ⟨i, j, rfl, rfl, c, q⟩) fun a b s => by
  cases a <;> cases b <;> first | exact .inl rfl | skip
  rename_i i j
  by_cases h : 0 ≤ j ∧ j ≤ 1000000 ∧ i.natAbs < 2 ^ 64
  · exact .inr ⟨_, _, rfl, rfl, by simp only [powV, if_pos h], h⟩
  · exact .inl (by simp only [powV, if_neg h])
theorem ow_cmp {op : CmpOp} {p : Int → Int → Bool} (h : OpR X (compareOp op) (rI0 fun i j => .bl (p i j))) : OpW T X (compareOp op) (cmpI p) := ow_int h (p := fun i j => .bl (p i j)) (fun _ _ => True) (fun _ _ _ _ _ _ => mBl) (fun i j _ _ _ q => ⟨i, j, rfl, rfl, q⟩) fun a b s => by
  cases a <;> cases b <;> first | exact .inl rfl | exact .inr ⟨_, _, rfl, rfl, rfl, trivial⟩
theorem ow_lt : OpW T X (compareOp .Lt) ltV := ow_cmp op_lt
theorem ow_le : OpW T X (compareOp .LtE) leV := ow_cmp op_le
theorem ow_gt : OpW T X (compareOp .Gt) gtV := ow_cmp op_gt
theorem ow_ge : OpW T X (compareOp .GtE) geV := ow_cmp op_ge
theorem uw_neg : UnW T X (unaryOp .USub) negV := fun Wx tk pins s σ H x v Q I rx hh => by
  obtain ⟨r, S, a, m, ra, q⟩ := hh
  cases a <;> first | exact False.elim q | skip
  obtain rfl := rInt ra
  exact un_neg pins s σ H _ v Q I rx ⟨_, rfl, q.at m mInt⟩
theorem ow_add {vr : Bool} : OpW T X (binaryOp .Add) (addW vr) := fun Wx tk pins s σ H x y v u Q I rx ry hh => by
  obtain ⟨r, S, a, b, m, ra, rb, q⟩ := hh
  have ll : ∀ l l', lsW S a = some l → lsW S b = some l' → PostE T X.K X.mg r S H (if l.length + l'.length ≤ szL then mkL vr (l ++ l') S else .bad) Q Wx → wpAny (model X.prog X.w) X.A (binaryOp .Add v u) (EP X pins σ Q) X.xe s := fun l l' e1 e2 q => by
    obtain ⟨p1, xs, rfl, h1, l1⟩ := m.ls ra e1
    obtain ⟨p2, ys, rfl, h2, l2⟩ := m.ls rb e2
    split at q
    · rename_i h
      rw [szL_eq, l1.len, l2.len] at h
      exact op_cat pins s σ H _ _ v u Q I rx ry ⟨_, _, xs, ys, rfl, rfl, h1, h2, h, q.lst m (RelWs.app l1 l2)⟩
    · exact False.elim q
  cases a <;> cases b <;> first | exact False.elim q | skip
  · obtain rfl := rInt ra
    obtain rfl := rInt rb
    exact op_add pins s σ H _ _ v u Q I rx ry ⟨_, _, rfl, rfl, q.at m mInt⟩
  · obtain rfl := rStr ra
    obtain rfl := rStr rb
    simp only [addW] at q
    split at q
    · rename_i h
      rw [szL_eq] at h
      exact op_add_str pins s σ H _ _ v u Q I rx ry ⟨_, _, rfl, rfl, h, q.at m mStr⟩
    · exact False.elim q
  · obtain ⟨p1, xs, rfl, t1, l1⟩ := rTup ra
    obtain ⟨p2, ys, rfl, t2, l2⟩ := rTup rb
    simp only [addW] at q
    split at q
    · rename_i h
      rw [szL_eq, l1.len, l2.len] at h
      refine op_catA pins s σ H _ _ v u Q I rx ry ⟨p1, p2, xs, ys, rfl, rfl, t1.sq, t2.sq, h, fun e => ?_, fun _ e => ?_, fun _ _ => q.tup m (RelWs.app l1 l2)⟩
      · subst e
        exact q.at m (mTup t2 (by have := RelWs.app l1 l2; simpa using this))
      · subst e
        exact q.at m (mTup t1 (by have := RelWs.app l1 l2; simpa using this))
    · exact False.elim q
  all_goals
    simp only [addW] at q
    split at q
    · rename_i l l' e1 e2
      exact ll l l' e1 e2 q
    · exact False.elim q
theorem relWs_rep {K : PySem.W.Frag} {r : Rm} {n : Nat} {H : Hp} {l : List W} {xs : List V} (h : RelWs K r n H l xs) : ∀ k : Nat, RelWs K r n H (List.replicate k l).flatten (List.replicate k xs).flatten
  | 0 => RelWs.nil
  | k + 1 => by
    rw [List.replicate_succ, List.replicate_succ, List.flatten_cons, List.flatten_cons]
    exact RelWs.app h (relWs_rep h k)
theorem ow_mul {vr : Bool} : OpW T X (binaryOp .Mult) (mulW vr) := fun Wx tk pins s σ H x y v u Q I rx ry hh => by
  obtain ⟨r, S, a, b, m, ra, rb, q⟩ := hh
  cases a <;> cases b <;> first | exact False.elim q | skip
  · rename_i i j
    obtain rfl := rInt ra
    obtain rfl := rInt rb
    simp only [mulW] at q
    split at q
    · rename_i h
      have hc : CMul i j := by
        unfold mulOk at h
        rcases Bool.or_eq_true_iff.mp h with z | z
        · exact .inl (of_decide_eq_true z)
        · exact .inr (of_decide_eq_true z)
      exact op_mul pins s σ H _ _ v u Q I rx ry ⟨_, _, rfl, rfl, hc, q.at m mInt⟩
    · exact False.elim q
  · obtain ⟨p1, xs, rfl, t1, l1⟩ := rTup ra
    obtain rfl := rInt rb
    simp only [mulW] at q
    split at q
    · rename_i h
      obtain ⟨h1, h2, h3, h4⟩ := h
      refine op_repT pins s σ H _ _ v u Q I rx ry ⟨p1, _, xs, rfl, rfl, t1.sq, ?_, h2, h3, by rw [← l1.len]; exact h4, q.tup m (relWs_rep l1 _)⟩
      intro e
      subst e
      exact h1 (List.eq_nil_of_length_eq_zero l1.len)
    · exact False.elim q
  all_goals
    obtain rfl := rInt rb
    simp only [mulW] at q
    split at q
    · rename_i l e1
      obtain ⟨p1, xs, rfl, h1, l1⟩ := m.ls ra e1
      split at q
      · rename_i h
        rw [szL_eq, l1.len] at h
        exact op_rep pins s σ H _ _ v u Q I rx ry ⟨_, _, xs, rfl, rfl, h1, h.1, h.2.1, h.2.2, q.lst m (relWs_rep l1 _)⟩
      · exact False.elim q
    · exact False.elim q
theorem ow_is : OpW T X (compareOp .Is) isN := fun Wx tk pins s σ H x y v u Q I rx ry hh => by
  obtain ⟨r, S, a, b, m, ra, rb, q⟩ := hh
  cases b with
  | non =>
    obtain rfl := rNon rb
    refine op_isN pins s σ H _ _ v u Q I rx ry ⟨rfl, ?_⟩
    cases a with
    | non => obtain rfl := rNon ra; exact q.at m mBl
    | bl _ => obtain rfl := rBl ra; exact q.at m mBl
    | int _ => obtain rfl := rInt ra; exact q.at m mBl
    | str _ => obtain rfl := rStr ra; exact q.at m mBl
    | ref _ => obtain ⟨_, rfl⟩ := rRef ra; exact q.at m mBl
    | tup _ => obtain ⟨_, _, rfl, _⟩ := rTup ra; exact q.at m mBl
    | lst _ => obtain ⟨_, _, rfl, _⟩ := rLst ra; exact q.at m mBl
    | dct _ _ => obtain ⟨_, _, _, rfl, _⟩ := rDct ra; exact q.at m mBl
  | bl c =>
    cases a <;> first | exact False.elim q | skip
    obtain rfl := rBl ra
    obtain rfl := rBl rb
    exact op_is_bl pins s σ H _ _ v u Q I rx ry ⟨_, _, rfl, rfl, q.at m mBl⟩
  | _ => cases a <;> exact False.elim q
theorem ow_isnot : OpW T X (compareOp .IsNot) notN := fun Wx tk pins s σ H x y v u Q I rx ry hh => by
  obtain ⟨r, S, a, b, m, ra, rb, q⟩ := hh
  cases b with
  | non =>
    obtain rfl := rNon rb
    refine op_notN pins s σ H _ _ v u Q I rx ry ⟨rfl, ?_⟩
    cases a with
    | non => obtain rfl := rNon ra; exact q.at m mBl
    | bl _ => obtain rfl := rBl ra; exact q.at m mBl
    | int _ => obtain rfl := rInt ra; exact q.at m mBl
    | str _ => obtain rfl := rStr ra; exact q.at m mBl
    | ref _ => obtain ⟨_, rfl⟩ := rRef ra; exact q.at m mBl
    | tup _ => obtain ⟨_, _, rfl, _⟩ := rTup ra; exact q.at m mBl
    | lst _ => obtain ⟨_, _, rfl, _⟩ := rLst ra; exact q.at m mBl
    | dct _ _ => obtain ⟨_, _, _, rfl, _⟩ := rDct ra; exact q.at m mBl
  | bl c =>
    cases a <;> first | exact False.elim q | skip
    obtain rfl := rBl ra
    obtain rfl := rBl rb
    exact op_isnot_bl pins s σ H _ _ v u Q I rx ry ⟨_, _, rfl, rfl, q.at m mBl⟩
  | _ => cases a <;> exact False.elim q

/-! ### tests -/
theorem rt_val {e : Expr} {me : E} (h : RE T X e me) (he : ∀ whole, isTrue e X.env whole = (do let v ← whole; standAt e.pos; holding [v] (truthy v)) := by intro _; rfl) : RT T X e (tE me) := fun Wx tk => by
  refine (pt_val (h Wx tk) he).imp fun σ H Q h => ?_
  obtain ⟨r, ρ, s, m, q⟩ := h
  unfold tE at q
  refine rdE.go m (fun x s1 e1 r1 H1 v1 p1 l1 m1 => ?_) (fun c s1 e1 r1 H1 p1 => ?_) (fun e1 => ?_)
  · rw [e1] at q
    cases x <;> first | exact False.elim q | skip
    obtain rfl := rBl l1
    exact ⟨_, rfl, q r1 H1 p1⟩
  · rw [e1] at q; exact q r1 H1 p1
  · rw [e1] at q; exact q
theorem rt_cmp {op : CmpOp} {g : W → W → M W} {a b : Expr} {ma mb : E} (ho : OpW T X (compareOp op) g) (ha : RE T X a ma) (hb : RE T X b mb) (hm : behindInMarks op b = false := by first | exact nomark _ | rfl) : RT T X (.Compare a [op] [b] pos) (tE (eBin g ma mb)) := fun Wx tk => by
  refine (pt_cmpR (ho Wx tk) (ha Wx tk) (hb Wx tk) hm).imp fun σ H Q h => ?_
  obtain ⟨r, ρ, s, m, q⟩ := h
  unfold tE eBin at q
  refine rdE.go m (fun x s1 e1 r1 H1 v1 p1 l1 m1 => ?_) (fun c s1 e1 r1 H1 p1 => ?_) (fun e1 => ?_)
  · rw [e1] at q
    refine rdE.go m1 (fun y s2 e2 r2 H2 v2 p2 l2 m2 => ?_) (fun c s2 e2 r2 H2 p2 => ?_) (fun e2 => ?_)
    · simp only [Out.bind, e2] at q
      refine ⟨r2, s2, x, y, m2.mt, l1.kp p2.kp, l2, ?_⟩
      cases e3 : g x y s2 with
      | ok z s3 =>
        rw [e3] at q
        intro r3 H3 v3 p3 l3
        cases z <;> first | exact False.elim q | skip
        obtain rfl := rBl l3
        exact ⟨_, rfl, q r3 H3 ((p1.trans p2).trans p3)⟩
      | ex c s3 => rw [e3] at q; exact fun r3 H3 p3 => q r3 H3 ((p1.trans p2).trans p3)
      | bad => rw [e3] at q; exact q
    · simp only [Out.bind, e2] at q
      exact q r2 H2 (p1.trans p2)
    · simp only [Out.bind, e2] at q
      exact q
  · rw [e1] at q; exact q r1 H1 p1
  · rw [e1] at q; exact q
theorem rt_not {e : Expr} {t : RS.T} (h : RT T X e t) : RT T X (.UnaryOp .Not e pos) (tNot t) := fun Wx tk => by
  refine (pt_not (h Wx tk)).imp fun σ H Q h => ?_
  obtain ⟨r, ρ, s, m, q⟩ := h
  unfold RS.tNot at q
  refine rdT.go m (fun x s1 e1 r1 H1 p1 m1 => ?_) (fun c s1 e1 r1 H1 p1 => ?_) (fun e1 => ?_)
  · rw [e1] at q; exact q r1 H1 p1
  · rw [e1] at q; exact q r1 H1 p1
  · rw [e1] at q; exact q
theorem rw_rt {e : Expr} {t : RS.T} (h : RW T X e t) : RT T X e t := fun Wx tk => (h Wx tk).pt
theorem rw_and1 {a : Expr} {t : RS.T} (h : RT T X a t) : RW T X (.BoolOp .And [a] pos) t := fun Wx tk => pw_and1 (h Wx tk)
theorem rw_or1 {a : Expr} {t : RS.T} (h : RT T X a t) : RW T X (.BoolOp .Or [a] pos) t := fun Wx tk => pw_or1 (h Wx tk)
theorem rw_and {a b : Expr} {rest : List Expr} {t u : RS.T} (ha : RT T X a t) (hb : RW T X (.BoolOp .And (b :: rest) pos) u) : RW T X (.BoolOp .And (a :: b :: rest) pos) (tAnd t u) := fun Wx tk => by
  refine (pw_and (ha Wx tk) (hb Wx tk)).imp fun σ H Q h => ?_
  obtain ⟨r, ρ, s, m, q⟩ := h
  unfold RS.tAnd at q
  refine rdT.go m (fun x s1 e1 r1 H1 p1 m1 => ?_) (fun c s1 e1 r1 H1 p1 => ?_) (fun e1 => ?_)
  · rw [e1] at q
    cases x with
    | true => exact ⟨r1, ρ, s1, m1, PostT.shift q p1⟩
    | false => exact q r1 H1 p1
  · rw [e1] at q; exact q r1 H1 p1
  · rw [e1] at q; exact q
theorem rw_or {a b : Expr} {rest : List Expr} {t u : RS.T} (ha : RT T X a t) (hb : RW T X (.BoolOp .Or (b :: rest) pos) u) : RW T X (.BoolOp .Or (a :: b :: rest) pos) (tOr t u) := fun Wx tk => by
  refine (pw_or (ha Wx tk) (hb Wx tk)).imp fun σ H Q h => ?_
  obtain ⟨r, ρ, s, m, q⟩ := h
  unfold RS.tOr at q
  refine rdT.go m (fun x s1 e1 r1 H1 p1 m1 => ?_) (fun c s1 e1 r1 H1 p1 => ?_) (fun e1 => ?_)
  · rw [e1] at q
    cases x with
    | false => exact ⟨r1, ρ, s1, m1, PostT.shift q p1⟩
    | true => exact q r1 H1 p1
  · rw [e1] at q; exact q r1 H1 p1
  · rw [e1] at q; exact q
theorem rs_if {c a b : Expr} {t : RS.T} {ma mb : E} (hc : RT T X c t) (ha : RE T X a ma) (hb : RE T X b mb) : RE T X (.IfExp c a b pos) (eIf t ma mb) := fun Wx tk => by
  refine (pe_ifExp (hc Wx tk) (ha Wx tk) (hb Wx tk)).imp fun σ H Q h => ?_
  obtain ⟨r, ρ, s, m, q⟩ := h
  unfold eIf at q
  refine rdT.go m (fun x s1 e1 r1 H1 p1 m1 => ?_) (fun c s1 e1 r1 H1 p1 => ?_) (fun e1 => ?_)
  · rw [e1] at q
    cases x with
    | true => exact ⟨r1, ρ, s1, m1, PostE.shift q p1⟩
    | false => exact ⟨r1, ρ, s1, m1, PostE.shift q p1⟩
  · rw [e1] at q; exact q r1 H1 p1
  · rw [e1] at q; exact q
/-! values -/
theorem rs_one {op} {e : Expr} {m : E} (h : RE T X e m) : RE T X (.BoolOp op [e] pos) m := fun Wx tk => pe_one (h Wx tk)
theorem rs_and {a b : Expr} {rest : List Expr} {ma mb : E} (ha : RE T X a ma) (hb : RE T X (.BoolOp .And (b :: rest) pos) mb) : RE T X (.BoolOp .And (a :: b :: rest) pos) (eAnd ma mb) := fun Wx tk => by
  refine (pe_and (ha Wx tk) (hb Wx tk)).imp fun σ H Q h => ?_
  obtain ⟨r, ρ, s, m, q⟩ := h
  unfold eAnd at q
  refine rdE.go m (fun x s1 e1 r1 H1 v1 p1 l1 m1 => ?_) (fun c s1 e1 r1 H1 p1 => ?_) (fun e1 => ?_)
  · rw [e1] at q
    cases x <;> first | exact False.elim q | skip
    rename_i c
    obtain rfl := rBl l1
    refine ⟨c, rfl, ?_⟩
    cases c with
    | true => exact ⟨r1, ρ, s1, m1, PostE.shift q p1⟩
    | false => exact q r1 H1 _ p1 mBl
  · rw [e1] at q; exact q r1 H1 p1
  · rw [e1] at q; exact q
theorem rs_or {a b : Expr} {rest : List Expr} {ma mb : E} (ha : RE T X a ma) (hb : RE T X (.BoolOp .Or (b :: rest) pos) mb) : RE T X (.BoolOp .Or (a :: b :: rest) pos) (eOr ma mb) := fun Wx tk => by
  refine (pe_or (ha Wx tk) (hb Wx tk)).imp fun σ H Q h => ?_
  obtain ⟨r, ρ, s, m, q⟩ := h
  unfold eOr at q
  refine rdE.go m (fun x s1 e1 r1 H1 v1 p1 l1 m1 => ?_) (fun c s1 e1 r1 H1 p1 => ?_) (fun e1 => ?_)
  · rw [e1] at q
    cases x <;> first | exact False.elim q | skip
    rename_i c
    obtain rfl := rBl l1
    refine ⟨c, rfl, ?_⟩
    cases c with
    | false => exact ⟨r1, ρ, s1, m1, PostE.shift q p1⟩
    | true => exact q r1 H1 _ p1 mBl
  · rw [e1] at q; exact q r1 H1 p1
  · rw [e1] at q; exact q
theorem rs_not {a : Expr} {ma : E} (ha : RE T X a ma) : RE T X (.UnaryOp .Not a pos) (eNot ma) := fun Wx tk => by
  refine (pe_not (ha Wx tk)).imp fun σ H Q h => ?_
  obtain ⟨r, ρ, s, m, q⟩ := h
  unfold eNot at q
  refine rdE.go m (fun x s1 e1 r1 H1 v1 p1 l1 m1 => ?_) (fun c s1 e1 r1 H1 p1 => ?_) (fun e1 => ?_)
  · rw [e1] at q
    cases x <;> first | exact False.elim q | skip
    rename_i c
    obtain rfl := rBl l1
    exact ⟨c, rfl, q r1 H1 _ p1 mBl⟩
  · rw [e1] at q; exact q r1 H1 p1
  · rw [e1] at q; exact q
theorem rs_chain {op op' : CmpOp} {f g : W → W → M W} {a b c : Expr} {ma mb mc : E} (ho : OpW T X (compareOp op) f) (ho' : OpW T X (compareOp op') g) (ha : RE T X a ma) (hb : RE T X b mb) (hc : RE T X c mc)
    (hm : lastMarks [op, op'] [b, c] = false := by with_unfolding_all rfl) : RE T X (.Compare a [op, op'] [b, c] pos) (eChain f g ma mb mc) := fun Wx tk => by
  refine (pe_chain (ho Wx tk) (ho' Wx tk) (ha Wx tk) (hb Wx tk) (hc Wx tk) hm).imp fun σ H Q h => ?_
  obtain ⟨r, ρ, s, m, q⟩ := h
  unfold eChain at q
  refine rdE.go m (fun x s1 e1 r1 H1 v1 p1 l1 m1 => ?_) (fun c s1 e1 r1 H1 p1 => ?_) (fun e1 => ?_)
  · rw [e1] at q
    refine rdE.go m1 (fun y s2 e2 r2 H2 v2 p2 l2 m2 => ?_) (fun c s2 e2 r2 H2 p2 => ?_) (fun e2 => ?_)
    · simp only [Out.bind, e2] at q
      refine ⟨r2, s2, x, y, m2.mt, l1.kp p2.kp, l2, ?_⟩
      cases e3 : f x y s2 with
      | ok z s3 =>
        rw [e3] at q
        intro r3 H3 v3 p3 l3
        cases z <;> first | exact False.elim q | skip
        rename_i k
        obtain rfl := rBl l3
        refine ⟨k, rfl, ?_⟩
        cases k with
        | false => exact q r3 H3 _ ((p1.trans p2).trans p3) mBl
        | true =>
          refine rdE.go (m2.step p3) (fun w s4 e4 r4 H4 v4 p4 l4 m4 => ?_) (fun c s4 e4 r4 H4 p4 => ?_) (fun e4 => ?_)
          · simp only [if_true, e4] at q
            exact ⟨r4, s4, y, w, m4.mt, (l2.kp p3.kp).kp p4.kp, l4, PostE.shift q (((p1.trans p2).trans p3).trans p4)⟩
          · simp only [if_true, e4] at q
            exact q r4 H4 (((p1.trans p2).trans p3).trans p4)
          · simp only [if_true, e4] at q
            exact q
      | ex c s3 => rw [e3] at q; exact fun r3 H3 p3 => q r3 H3 ((p1.trans p2).trans p3)
      | bad => rw [e3] at q; exact q
    · simp only [Out.bind, e2] at q
      exact q r2 H2 (p1.trans p2)
    · simp only [Out.bind, e2] at q
      exact q
  · rw [e1] at q; exact q r1 H1 p1
  · rw [e1] at q; exact q
theorem rt_chain {op op' : CmpOp} {f g : W → W → M W} {a b c : Expr} {ma mb mc : E} (ho : OpW T X (compareOp op) f) (ho' : OpW T X (compareOp op') g) (ha : RE T X a ma) (hb : RE T X b mb) (hc : RE T X c mc)
    (hm : lastMarks [op, op'] [b, c] = false := by with_unfolding_all rfl) : RT T X (.Compare a [op, op'] [b, c] pos) (tE (eChain f g ma mb mc)) := fun Wx tk => by
  refine (pt_chain (ho Wx tk) (ho' Wx tk) (ha Wx tk) (hb Wx tk) (hc Wx tk) hm).imp fun σ H Q h => ?_
  obtain ⟨r, ρ, s, m, q⟩ := h
  unfold tE eChain at q
  refine rdE.go m (fun x s1 e1 r1 H1 v1 p1 l1 m1 => ?_) (fun c s1 e1 r1 H1 p1 => ?_) (fun e1 => ?_)
  · rw [e1] at q
    refine rdE.go m1 (fun y s2 e2 r2 H2 v2 p2 l2 m2 => ?_) (fun c s2 e2 r2 H2 p2 => ?_) (fun e2 => ?_)
    · simp only [Out.bind, e2] at q
      refine ⟨r2, s2, x, y, m2.mt, l1.kp p2.kp, l2, ?_⟩
      cases e3 : f x y s2 with
      | ok z s3 =>
        rw [e3] at q
        intro r3 H3 v3 p3 l3
        cases z <;> first | exact False.elim q | skip
        rename_i k
        obtain rfl := rBl l3
        refine ⟨k, rfl, ?_⟩
        cases k with
        | false => exact ⟨false, rfl, q r3 H3 ((p1.trans p2).trans p3)⟩
        | true =>
          refine rdE.go (m2.step p3) (fun w s4 e4 r4 H4 v4 p4 l4 m4 => ?_) (fun c s4 e4 r4 H4 p4 => ?_) (fun e4 => ?_)
          · simp only [if_true, e4] at q
            refine ⟨r4, s4, y, w, m4.mt, (l2.kp p3.kp).kp p4.kp, l4, ?_⟩
            cases e5 : g y w s4 with
            | ok z s5 =>
              rw [e5] at q
              intro r5 H5 v5 p5 l5
              cases z <;> first | exact False.elim q | skip
              obtain rfl := rBl l5
              exact ⟨_, rfl, q r5 H5 ((((p1.trans p2).trans p3).trans p4).trans p5)⟩
            | ex c s5 => rw [e5] at q; exact fun r5 H5 p5 => q r5 H5 ((((p1.trans p2).trans p3).trans p4).trans p5)
            | bad => rw [e5] at q; exact q
          · simp only [if_true, e4] at q
            exact q r4 H4 (((p1.trans p2).trans p3).trans p4)
          · simp only [if_true, e4] at q
            exact q
      | ex c s3 => rw [e3] at q; exact fun r3 H3 p3 => q r3 H3 ((p1.trans p2).trans p3)
      | bad => rw [e3] at q; exact q
    · simp only [Out.bind, e2] at q
      exact q r2 H2 (p1.trans p2)
    · simp only [Out.bind, e2] at q
      exact q
  · rw [e1] at q; exact q r1 H1 p1
  · rw [e1] at q; exact q
theorem rs_lst {vr : Bool} {es : List Expr} {ms : Es} (h : RA T X es ms) : RE T X (.List es pos) (eLst vr ms) := fun Wx tk => by
  refine (pe_lst (h Wx tk)).imp fun σ H Q h => ?_
  obtain ⟨r, ρ, s, m, q⟩ := h
  unfold eLst at q
  refine rdA.go m (fun xs s1 e1 r1 H1 v1 p1 l1 m1 => ?_) (fun c s1 e1 r1 H1 p1 => ?_) (fun e1 => ?_)
  · rw [e1] at q
    simp only [Out.bind] at q
    split at q
    · rename_i hl
      rw [szL_eq] at hl
      exact ⟨by rw [← l1.len]; exact hl, (PostE.shift q p1).lst m1.mt l1⟩
    · exact False.elim q
  · rw [e1] at q; exact q r1 H1 p1
  · rw [e1] at q; exact q
end
end RS
set_option Elab.async false
set_option linter.all false
set_option maxRecDepth 100000
set_option autoImplicit false
/-! RS.C4: dicts, items, slices, attributes. -/
namespace RS
open PySem PySem.Spec PyProof.Rows L2

/-! ### dicts on the plain side -/
def dget : List (W × W) → W → Option W
  | [], _ => none
  | (k, v) :: r, x => if k = x then some v else dget r x
def dhas (l : List (W × W)) (x : W) : Bool := (dget l x).isSome
def dput (l : List (W × W)) (x y : W) : List (W × W) := if dhas l x = true then l.map (fun p => if p.1 = x then (p.1, y) else p) else l ++ [(x, y)]
def ddrop (l : List (W × W)) (x : W) : List (W × W) := l.filter fun p => !decide (p.1 = x)
def isKey : W → Bool
  | .int _ => true
  | .str _ => true
  | _ => false
theorem kW_inj {a b : Key} (h : kW a = kW b) : a = b := by
  cases a <;> cases b <;> simp_all [kW]
theorem isKey_ex {w : W} (h : isKey w = true) : ∃ k, w = kW k := by
  cases w with
  | int i => exact ⟨.inl i, rfl⟩
  | str x => exact ⟨.inr x, rfl⟩
  | _ => cases h
theorem relW_key {K : PySem.W.Frag} {r : Rm} {n : Nat} {H : Hp} {k : Key} {v : V} (h : RelW K r n H (kW k) v) : v = kV k := by
  cases k <;> (unfold kW RelW at h; exact h)
theorem relW_kV {K : PySem.W.Frag} {r : Rm} {n : Nat} {H : Hp} {k : Key} : RelW K r n H (kW k) (kV k) := by
  cases k <;> (unfold kW RelW; rfl)
section
variable {K : PySem.W.Frag} {r : Rm} {n : Nat} {H : Hp}
theorem RKV.get {l : List (W × W)} {kvs : List (Key × V)} (h : RKV K r n H l kvs) (k : Key) : (dget l (kW k) = none ∧ valV kvs k = none) ∨ ∃ w v, dget l (kW k) = some w ∧ valV kvs k = some v ∧ RelW K r n H w v := by
  induction h with
  | nil => exact .inl ⟨rfl, rfl⟩
  | @cons p q ps qs hq t ih =>
    obtain ⟨h1, h2⟩ := hq
    by_cases e : q.1 = k
    · refine .inr ⟨p.2, q.2, ?_, valV_pos e, h2⟩
      show (if p.1 = kW k then some p.2 else dget ps (kW k)) = some p.2
      rw [if_pos (by rw [h1, e])]
    · have e1 : dget (p :: ps) (kW k) = dget ps (kW k) := by
        show (if p.1 = kW k then some p.2 else dget ps (kW k)) = _
        rw [if_neg (fun z => e (kW_inj (h1.symm.trans z)))]
      rw [e1, valV_neg e]
      exact ih
theorem RKV.has {l : List (W × W)} {kvs : List (Key × V)} (h : RKV K r n H l kvs) (k : Key) : dhas l (kW k) = (valV kvs k).isSome := by
  unfold dhas
  rcases h.get k with ⟨e1, e2⟩ | ⟨w, v, e1, e2, _⟩ <;> rw [e1, e2] <;> rfl
theorem RKV.len {l : List (W × W)} {kvs : List (Key × V)} (h : RKV K r n H l kvs) : l.length = kvs.length := Paired.length h
theorem RKV.put {l : List (W × W)} {kvs : List (Key × V)} (h : RKV K r n H l kvs) (k : Key) {w : W} {v : V} (q : RelW K r n H w v) : RKV K r n H (dput l (kW k) w) (putK kvs k v) := by
  unfold dput putK
  rw [h.has k, valV_any]
  by_cases e : (valV kvs k).isSome = true
  · rw [if_pos e, if_pos e]
    clear e
    induction h with
    | nil => exact .nil
    | @cons p p' ps qs hq t ih =>
      refine .cons ?_ ih
      obtain ⟨h1, h2⟩ := hq
      dsimp only
      by_cases z : p'.1 = k
      · rw [if_pos z, if_pos (by rw [h1, z])]; exact ⟨h1, q⟩
      · rw [if_neg z, if_neg (fun y => z (kW_inj (h1.symm.trans y)))]; exact ⟨h1, h2⟩
  · rw [if_neg e, if_neg e]
    exact Paired.snoc h ⟨rfl, q⟩
theorem RKV.drop {l : List (W × W)} {kvs : List (Key × V)} (h : RKV K r n H l kvs) (k : Key) : RKV K r n H (ddrop l (kW k)) (dropK kvs k) := by
  unfold ddrop dropK
  induction h with
  | nil => exact .nil
  | @cons p p' ps qs hq t ih =>
    obtain ⟨h1, h2⟩ := hq
    by_cases z : p'.1 = k
    · rw [List.filter_cons_of_neg (by simp [h1, z]), List.filter_cons_of_neg (by simp [z])]; exact ih
    · rw [List.filter_cons_of_pos (by simpa using fun y => z (kW_inj (h1.symm.trans y))), List.filter_cons_of_pos (by simp [z])]
      exact .cons ⟨h1, h2⟩ ih
theorem RKV.nokey {l : List (W × W)} {kvs : List (Key × V)} (h : RKV K r n H l kvs) {x : W} (hx : isKey x = false) : dget l x = none := by
  induction h with
  | nil => rfl
  | @cons p p' ps qs hq t ih =>
    show (if p.1 = x then some p.2 else dget ps x) = none
    rw [if_neg (fun z => ?_)]
    · exact ih
    · rw [← z, hq.1] at hx
      cases h2 : p'.1 with
      | inl _ => rw [h2] at hx; cases hx
      | inr _ => rw [h2] at hx; cases hx
end
theorem rkv_zip {K : PySem.W.Frag} {r : Rm} {n : Nat} {H : Hp} : ∀ {kvs : List (Key × V)} {l : List W}, RelWs K r n H l (kvs.map (·.2)) → RKV K r n H (List.zip ((kvs.map (·.1)).map kW) l) kvs
  | [], l, h => by
    have := h.len
    cases l with
    | nil => exact .nil
    | cons _ _ => cases this
  | (k, v) :: kvs, l, h => by
    cases l with
    | nil => have := h.len; cases this
    | cons w l =>
      obtain ⟨x, t, e, h1, h2⟩ := h.uncons
      cases e
      exact .cons ⟨rfl, h1⟩ (rkv_zip h2)
/-- the items of a dict -/
def dcW (s : S) : W → Option (List (W × W))
  | .dct ks vs => some (List.zip (ks.map kW) vs)
  | .ref a => match s.at_ a with
    | some (.dct l) => some l
    | _ => none
  | _ => none
/-- a dict of the state, to be read -/
theorem Mt.dct {T : List NdefX.NTab} {K : PySem.W.Frag} {mg : Str → Option Value} {r : Rm} {s : S} {H : Hp} (m : Mt T K mg r s H) {a : Nat} {l : List (W × W)} (h : s.at_ a = some (.dct l)) :
    a < s.nx ∧ ∃ kvs, Rd H (r a) (.dK kvs) ∧ (a ∉ s.lk → H (r a) = some (.dK kvs)) ∧ (a ∈ s.lk → ∃ od, H (r a) = some (.frz od (.dK kvs))) ∧ RKV K r s.nx H l kvs := by
  obtain ⟨h1, ho, h2, kvs, hl, q⟩ := m.ob a _ h
  refine ⟨h1, kvs, ?_, fun hn => ?_, fun hi => ?_, q⟩
  · by_cases z : a ∈ s.lk
    · obtain ⟨od, e⟩ := hl.1 z
      rw [e] at h2
      exact .inr ⟨od, h2⟩
    · rw [hl.2 z] at h2
      exact .inl h2
  · rw [hl.2 hn] at h2; exact h2
  · obtain ⟨od, e⟩ := hl.1 hi
    rw [e] at h2
    exact ⟨od, h2⟩
theorem Mt.dc {T : List NdefX.NTab} {K : PySem.W.Frag} {mg : Str → Option Value} {r : Rm} {s : S} {H : Hp} (m : Mt T K mg r s H) {w : W} {v : V} {l : List (W × W)} (h : RelW K r s.nx H w v) (e : dcW s w = some l) :
    ∃ p kvs, v = .ref p ∧ Rd H p (.dK kvs) ∧ RKV K r s.nx H l kvs := by
  cases w <;> first | (cases e; done) | skip
  · obtain ⟨ha, rfl⟩ := rRef h
    simp only [dcW] at e
    split at e
    · rename_i l2 e2
      cases e
      obtain ⟨_, kvs, h1, _, _, h2⟩ := m.dct e2
      exact ⟨_, kvs, rfl, h1, h2⟩
    · cases e
  · obtain ⟨p, od, kvs, rfl, _, h1, rfl, h2⟩ := rDct h
    cases e
    exact ⟨p, kvs, rfl, .inr ⟨od, h1⟩, rkv_zip h2⟩
theorem Mt.putD {T : List NdefX.NTab} {K : PySem.W.Frag} {mg : Str → Option Value} {r : Rm} {s : S} {H : Hp} (m : Mt T K mg r s H) {a : Nat} {l l' : List (W × W)} {kvs kvs' : List (Key × V)} (h : s.at_ a = some (.dct l)) (hn : a ∉ s.lk) (h2 : H (r a) = some (.dK kvs)) (q : RKV K r s.nx H l' kvs') :
    Stp T K mg r s H r (s.set a (.dct l')) (upd H (r a) (.dK kvs')) := by
  refine m.put h h2 (fun _ z => nomatch z) (fun _ z => nomatch z) (fun _ z => nomatch z) hn ⟨kvs', ⟨fun z => absurd z hn, fun _ => rfl⟩, ?_⟩
  refine Paired.mapP q fun _ _ z => ⟨z.1, z.2.kp ⟨Nat.le_refl _, fun _ _ => rfl, fun p ys y => ?_, fun _ f => f, fun p ys f y => ?_⟩⟩
  · by_cases e : p = r a
    · rw [e, h2] at y; cases y
    · rw [upd_ne e]; exact y
  · rw [upd_ne (Ne.symm ((m.fr p f).1 a (m.ob a _ h).1))]; exact y

/-! ### plain side: items, slices, attributes -/
theorem RelWs.atI {K : PySem.W.Frag} {r : Rm} {n : Nat} {H : Hp} {ws : List W} {xs : List V} {i : Int} {w : W} (h : RelWs K r n H ws xs) (e : L2.atI ws i = some w) : ∃ v, L2.atI xs i = some v ∧ RelW K r n H w v := by
  unfold L2.atI at e ⊢
  rw [← h.len]
  cases e1 : ixN ws.length i with
  | none => rw [e1] at e; cases e
  | some j =>
    rw [e1] at e
    exact h.get (i := j) e
def ixV : W → W → M W
  | .ref a, k => fun s => match s.at_ a with
    | some (.lst l) => match k with
      | .int i => match L2.atI l i with
        | some w => .ok w s
        | none => .bad
      | _ => .bad
    | some (.dct l) => match dget l k with
      | some w => .ok w s
      | none => .bad
    | _ => .bad
  | .tup l, .int i => fun s => match L2.atI l i with
    | some w => .ok w s
    | none => .bad
  | .lst l, .int i => fun s => match L2.atI l i with
    | some w => .ok w s
    | none => .bad
  | .dct ks l, k => fun s => match dget (List.zip (ks.map kW) l) k with
    | some w => .ok w s
    | none => .bad
  | .str x, .int i => fun s => if x.length ≤ szL then match L2.atI x.cps.toList i with
    | some c => .ok (.str ⟨#[c]⟩) s
    | none => .bad
    else .bad
  | _, _ => fun _ => .bad
def cutW {α : Type} (xs : List α) (lo hi : Option Int) : List α := (xs.drop (HT.sIx xs.length 0 lo)).take (HT.sIx xs.length xs.length hi - HT.sIx xs.length 0 lo)
def slV (v : Bool) (x : W) (lo hi : Option Int) : M W := match x with
  | .tup l => fun s => .ok (.tup (cutW l lo hi)) s
  | .str z => fun s => if z.length ≤ szL then .ok (.str (cutS z lo hi)) s else .bad
  | x => fun s => match lsW s x with
    | some l => mkL v (cutW l lo hi) s
    | none => .bad
abbrev EO := Env → M (Option Int)
def oNone : EO := fun _ s => .ok none s
def oSome (a : E) : EO := fun ρ s => (a ρ s).bind fun x s1 => match x with
  | .int i => .ok (some i) s1
  | _ => .bad
def eSl (v : Bool) (a : E) (lo hi : EO) : E := fun ρ s => (a ρ s).bind fun x s1 => (lo ρ s1).bind fun l s2 => (hi ρ s2).bind fun u s3 => slV v x l u s3
def eRev (v : Bool) (a : E) : E := fun ρ s => (a ρ s).bind fun x s1 => match lsW s1 x with
  | some l => mkL v l.reverse s1
  | none => .bad
/-- o.f of an instance of one of the classes -/
def fldV (cs : List Str) (f : Str) : W → M W
  | .ref a => fun s => match s.at_ a with
    | some (.ins c fs) => if c ∈ cs then match fs.lookup f with
      | some w => .ok w s
      | none => .bad
      else .bad
    | _ => .bad
  | _ => fun _ => .bad
def eFld (cs : List Str) (f : Str) (a : E) : E := fun ρ s => (a ρ s).bind (fldV cs f)
def inDV (neg : Bool) (k d : W) : M W := fun s => match dcW s d with
  | some l => if isKey k = true then .ok (.bl (if neg then !(dhas l k) else dhas l k)) s else .bad
  | none => .bad

def toKey : W → Key
  | .int i => .inl i
  | .str x => .inr x
  | _ => .inl 0
/-- a new dict: a value (nobody writes it), or an object -/
def mkD (v : Bool) (l : List (W × W)) : M W := fun s => if v = true then .ok (.dct (l.map fun p => toKey p.1) (l.map (·.2))) s else .ok (.ref s.nx) (s.new (.dct l))
/-- what is wanted of a new dict, ahead of its being frozen -/
def FzQ (v : Bool) (Q : VK) : VK := if v = true then fun w H => ∃ p kvs, w = .ref p ∧ H p = some (.dK kvs) ∧ ∀ od, Q w (upd H p (.frz od (.dK kvs))) else Q
theorem EP_fz {X : Cx} {pins : List (Addr × Obj)} {σ : L2.St} {v : Bool} {Q : VK} {u : Value} {s : Shared} (h : EP X pins σ (FzQ v Q) u s) : EP X pins σ Q u s := by
  cases v with
  | false => exact h
  | true =>
    obtain ⟨w, H, I, r, p, kvs, rfl, e, q⟩ := h
    obtain ⟨od, I2⟩ := I.lock e trivial
    exact ⟨_, _, I2, r, q od⟩
theorem PE.fz {X : Cx} {e : Expr} {t : TE} {v : Bool} (h : PE X e t) : PE X e fun σ H Q => t σ H (FzQ v Q) := ⟨fun pins s σ H Q I q => wpAny_mono (h.run pins s σ H _ I q) (fun _ _ z => EP_fz z) fun _ _ z => z⟩
theorem CallR.fz {X : Cx} {f : Value} {r : List V → Hp → VK → Prop} {v : Bool} (h : CallR X f r) : CallR X f fun xs H Q => r xs H (FzQ v Q) := fun pins s σ H xs us Q I rv q => wpAny_mono (h pins s σ H xs us _ I rv q) (fun _ _ z => EP_fz z) fun _ _ z => z
theorem rkv_vals {K : PySem.W.Frag} {r : Rm} {n : Nat} {H : Hp} {l : List (W × W)} {kvs : List (Key × V)} (h : RKV K r n H l kvs) : kvs.map (·.1) = l.map (fun p => toKey p.1) ∧ RelWs K r n H (l.map (·.2)) (kvs.map (·.2)) := by
  induction h with
  | nil => exact ⟨rfl, RelWs.nil⟩
  | cons a _ ih =>
    rw [List.map_cons, List.map_cons, List.map_cons, List.map_cons, ih.1, a.1]
    refine ⟨?_, RelWs.cons a.2 ih.2⟩
    rename_i p q _ _ _
    cases q.1 <;> rfl
theorem Mt.junkZ {T : List NdefX.NTab} {K : PySem.W.Frag} {mg : Str → Option Value} {r : Rm} {s : S} {H : Hp} (m : Mt T K mg r s H) {p : Addr} {ho : HO} (nt : ∀ ps, ho ≠ .tbl ps) (hp : H p = none) : Stp T K mg r s H (rF r p) s (upd H p ho) := by
  have j := m.junk (ho := ho) hp
  refine ⟨kp_newF hp, ⟨j.mt.inj, fun a o h => ?_, j.mt.dom, j.mt.tab, j.mt.lkb, fun q hq => ?_⟩, rfl, j.lkd, j.lkh, j.frm, j.tbl, j.fre, fun q hq => ?_⟩
  · obtain ⟨h1, u, h2, h3⟩ := m.ob a o h
    exact ⟨h1, u, by show upd H p ho (r a) = some u; rw [upd_ne (m.ne hp h1)]; exact h2, h3.kp (kp_newF hp)⟩
  · rcases hq with e | hq
    · rw [e]; exact ⟨fun a ha => m.ne hp ha, _, upd_same, nt⟩
    · exact j.mt.fr q hq
  · rcases hq with e | hq
    · exact .inr (by rw [e]; exact hp)
    · exact .inl hq
theorem mDct {K : PySem.W.Frag} {r : Rm} {H : Hp} {l : List (W × W)} {n : Nat} {p : Addr} {od : Obj} {kvs : List (Key × V)} (f : r.F p) (h : H p = some (.frz od (.dK kvs))) (q : RKV K r n H l kvs) : RelW K r n H (.dct (l.map fun p => toKey p.1) (l.map (·.2))) (.ref p) := by
  unfold RelW
  exact ⟨p, od, kvs, rfl, f, h, (rkv_vals q).1, (rkv_vals q).2⟩
def eDNew (v : Bool) : E := fun _ s => mkD v [] s
theorem PostE.dct {T : List NdefX.NTab} {K : PySem.W.Frag} {mg : Str → Option Value} {r : Rm} {s : S} {H : Hp} {Q : VK} {Wx : Wish} {v : Bool} {l : List (W × W)} {kvs : List (Key × V)} (m : Mt T K mg r s H)
    (q : PostE T K mg r s H (mkD v l s) Q Wx) (h : RKV K r s.nx H l kvs) : ∀ p, H p = none → FzQ v Q (.ref p) (upd H p (.dK kvs)) := fun p hp => by
  cases v with
  | true =>
    refine ⟨p, kvs, rfl, upd_same, fun od => ?_⟩
    have e : upd (upd H p (.dK kvs)) p (.frz od (.dK kvs)) = upd H p (.frz od (.dK kvs)) := by
      funext b
      by_cases hb : b = p
      · rw [hb, upd_same, upd_same]
      · rw [upd_ne hb, upd_ne hb, upd_ne hb]
    rw [e]
    have k : Kp r s.nx H (rF r p) s.nx (upd H p (.frz od (.dK kvs))) := kp_newF hp
    exact q _ _ _ (m.junkZ (fun _ z => nomatch z) hp) (mDct (r := rF r p) (.inl rfl) upd_same (Paired.mapP h fun _ _ z => ⟨z.1, z.2.kp k⟩))
  | false =>
    have k : Kp r s.nx H (rN r s.nx p) (s.nx + 1) (upd H p (.dK kvs)) := kp_new hp
    have hn : s.nx ∉ s.lk := fun z => Nat.lt_irrefl _ (m.lkb _ z)
    refine q _ _ _ (m.new (o := .dct l) hp ⟨kvs, ⟨fun z => absurd z hn, fun _ => rfl⟩, Paired.mapP h fun _ _ z => ⟨z.1, z.2.kp k⟩⟩) ?_
    unfold RelW
    exact ⟨Nat.lt_succ_self _, by rw [rN_at]⟩

section
variable {T : List NdefX.NTab} {X : Cx} {pos : Pos}
/-- the item of a dict -/
theorem ix_dict (hu : X.A.units + 1 < cLine) : IxR X (fun x y H Q => ∃ a v, x = .ref a ∧ DGet H a y (some v) ∧ Q v H) := by
  intro value slice pins s σ H x y v u Q I rx ry h hs
  obtain ⟨a, w, rfl, g, q⟩ := h
  obtain rfl : v = Value.ref a := rx
  exact tail_any (dict_typeIs I g) PySem.F.slot_dict_getitem.lookup (d_getItem hu I g ry fun w' s3 I3 rw' => ⟨w, H, I3, rw', q⟩) hs
theorem ixw (hu : X.A.units + 1 < cLine) (Wx : Wish) (tk : Tk X Wx) : IxR X fun x y H Q => ∃ r s a b, Mt T X.K X.mg r s H ∧ RelW X.K r s.nx H a x ∧ RelW X.K r s.nx H b y ∧ PostE T X.K X.mg r s H (ixV a b s) Q Wx := by
  intro value slice pins s σ H x y v u Q I rx ry h hs
  obtain ⟨r, S, a, b, m, ra, rb, q⟩ := h
  cases a with
  | ref a =>
    obtain ⟨ha, rfl⟩ := rRef ra
    simp only [ixV] at q
    split at q
    · rename_i l el
      cases b <;> first | exact False.elim q | skip
      obtain rfl := rInt rb
      simp only at q
      split at q
      · rename_i w ew
        obtain ⟨_, xs, h1, l1⟩ := m.lst el
        obtain ⟨v', e', r'⟩ := l1.atI ew
        exact ix_list value slice pins s σ H _ _ v u Q I rx ry ⟨_, xs, _, v', rfl, rfl, .inl (.inl h1), e', q.at m r'⟩ hs
      · exact False.elim q
    · rename_i l el
      split at q
      · rename_i w ew
        obtain ⟨_, kvs, h1, _, _, l1⟩ := m.dct el
        by_cases hk : isKey b = true
        · obtain ⟨k, rfl⟩ := isKey_ex hk
          rcases l1.get k with ⟨e1, _⟩ | ⟨w', v', e1, e2, r'⟩
          · rw [e1] at ew; cases ew
          · rw [e1] at ew; cases ew
            obtain rfl := relW_key rb
            exact ix_dict hu value slice pins s σ H _ _ v u Q I rx ry ⟨_, v', rfl, .inl ⟨kvs, k, h1, rfl, e2.symm⟩, q.at m r'⟩ hs
        · rw [l1.nokey (by simpa using hk)] at ew; cases ew
      · exact False.elim q
    · exact False.elim q
  | dct ks l =>
    simp only [ixV] at q
    split at q
    · rename_i w ew
      obtain ⟨p, kvs, rfl, h1, l1⟩ := m.dc ra (by rfl)
      by_cases hk : isKey b = true
      · obtain ⟨k, rfl⟩ := isKey_ex hk
        rcases l1.get k with ⟨e1, _⟩ | ⟨w', v', e1, e2, r'⟩
        · rw [e1] at ew; cases ew
        · rw [e1] at ew; cases ew
          obtain rfl := relW_key rb
          exact ix_dict hu value slice pins s σ H _ _ v u Q I rx ry ⟨_, v', rfl, .inl ⟨kvs, k, h1, rfl, e2.symm⟩, q.at m r'⟩ hs
      · rw [l1.nokey (by simpa using hk)] at ew; cases ew
    · exact False.elim q
  | tup l =>
    cases b <;> first | exact False.elim q | skip
    obtain ⟨p, xs, rfl, t1, l1⟩ := rTup ra
    obtain rfl := rInt rb
    simp only [ixV] at q
    split at q
    · rename_i w ew
      obtain ⟨v', e', r'⟩ := l1.atI ew
      exact ix_tup value slice pins s σ H _ _ v u Q I rx ry ⟨p, xs, _, v', rfl, rfl, t1.sq, e', q.at m r'⟩ hs
    · exact False.elim q
  | lst l =>
    cases b <;> first | exact False.elim q | skip
    obtain ⟨p, xs, rfl, _, t1, l1⟩ := rLst ra
    obtain rfl := rInt rb
    simp only [ixV] at q
    split at q
    · rename_i w ew
      obtain ⟨v', e', r'⟩ := l1.atI ew
      exact ix_list value slice pins s σ H _ _ v u Q I rx ry ⟨p, xs, _, v', rfl, rfl, .inl (.inl t1), e', q.at m r'⟩ hs
    · exact False.elim q
  | str z =>
    cases b <;> first | exact False.elim q | skip
    obtain rfl := rStr ra
    obtain rfl := rInt rb
    simp only [ixV] at q
    split at q
    · rename_i hz
      rw [szL_eq] at hz
      split at q
      · rename_i c ec
        exact ix_str value slice pins s σ H _ _ v u Q I rx ry ⟨_, _, c, rfl, rfl, hz, ec, q.at m mStr⟩ hs
      · exact False.elim q
    · exact False.elim q
  | _ => cases b <;> exact False.elim q
theorem rs_ix {a b : Expr} {ma mb : E} {k : Nat} (hr : Room k X.A) (ha : RE T X a ma) (hb : RE T X b mb) (hs : PlainIx b := by intro _ _; rfl) : RE T X (.Subscript a b pos) (eBin ixV ma mb) := fun Wx tk => by
  refine (pe_ix (ixw (T := T) (hu_of hr) Wx tk) (ha Wx tk) (hb Wx tk) hs).imp fun σ H Q h => ?_
  obtain ⟨r, ρ, s, m, q⟩ := h
  unfold eBin at q
  refine rdE.go m (fun x s1 e1 r1 H1 v1 p1 l1 m1 => ?_) (fun c s1 e1 r1 H1 p1 => ?_) (fun e1 => ?_)
  · rw [e1] at q
    refine rdE.go m1 (fun y s2 e2 r2 H2 v2 p2 l2 m2 => ?_) (fun c s2 e2 r2 H2 p2 => ?_) (fun e2 => ?_)
    · simp only [Out.bind, e2] at q
      exact ⟨r2, s2, x, y, m2.mt, l1.kp p2.kp, l2, PostE.shift q (p1.trans p2)⟩
    · simp only [Out.bind, e2] at q
      exact q r2 H2 (p1.trans p2)
    · simp only [Out.bind, e2] at q
      exact q
  · rw [e1] at q; exact q r1 H1 p1
  · rw [e1] at q; exact q

/-! ### slices -/
def PostO (T : List NdefX.NTab) (K : PySem.W.Frag) (mg : Str → Option Value) (r : Rm) (s : S) (H : Hp) (o : Out (Option Int)) (Q : Option Int → Hp → Prop) (X : Wish) : Prop := match o with
  | .ok b s' => ∀ r' H', Stp T K mg r s H r' s' H' → Q b H'
  | .ex c s' => ∀ r' H', Stp T K mg r s H r' s' H' → X c H'
  | .bad => False
def RO (T : List NdefX.NTab) (X : Cx) (e : Option Expr) (m : EO) : Prop := ∀ Wx, Tk X Wx → PO X e fun σ H Q => ∃ r ρ s, MtE T X r ρ s σ H ∧ PostO T X.K X.mg r s H (m ρ s) Q Wx
theorem ro_none : RO T X none oNone := fun Wx _ => ⟨fun pins s σ H Q I h => by
  obtain ⟨r, ρ, S, m, q⟩ := h
  exact po_none.run pins s σ H Q I (q r H (.refl m.mt))⟩
theorem ro_some {e : Expr} {me : E} (h : RE T X e me) : RO T X (some e) (oSome me) := fun Wx tk => ⟨fun pins s σ H Q I hh => by
  refine (po_some (h Wx tk)).run pins s σ H Q I ?_
  obtain ⟨r, ρ, S, m, q⟩ := hh
  unfold oSome at q
  refine rdE.go m (fun x s1 e1 r1 H1 v1 p1 l1 m1 => ?_) (fun c s1 e1 r1 H1 p1 => ?_) (fun e1 => ?_)
  · rw [e1] at q
    cases x <;> first | exact False.elim q | skip
    obtain rfl := rInt l1
    exact ⟨_, rfl, q r1 H1 p1⟩
  · rw [e1] at q; exact q r1 H1 p1
  · rw [e1] at q; exact q⟩
theorem RelWs.cut {K : PySem.W.Frag} {r : Rm} {n : Nat} {H : Hp} {ws : List W} {xs : List V} (h : RelWs K r n H ws xs) (lo hi : Option Int) : RelWs K r n H (cutW ws lo hi) (cutV xs lo hi) := by
  unfold cutW cutV
  rw [h.len]
  exact (h.drop _).take _
theorem slw (vr : Bool) (Wx : Wish) (tk : Tk X Wx) : SlR X fun x lo hi H Q => ∃ r s a, Mt T X.K X.mg r s H ∧ RelW X.K r s.nx H a x ∧ PostE T X.K X.mg r s H (slV vr a lo hi s) Q Wx := by
  intro pins s σ H x v vl vu lo hi sl Q I rx hs pl pu h
  obtain ⟨r, S, a, m, ra, q⟩ := h
  cases a with
  | tup l =>
    obtain ⟨p, xs, rfl, t1, l1⟩ := rTup ra
    have q : PostE T X.K X.mg r S H (.ok (.tup (cutW l lo hi)) S) Q Wx := q
    refine sl_tupA pins s σ H _ v vl vu lo hi sl Q I rx hs pl pu ⟨p, xs, rfl, t1.sq, fun e => ?_, fun _ => q.tup m (l1.cut lo hi)⟩
    refine q.at m ?_
    have e2 : cutW l lo hi = l := by
      unfold cutW
      rw [l1.len, e.1, e.2, Nat.sub_zero, List.drop_zero, ← l1.len, List.take_length]
    rw [e2]
    exact mTup t1 l1
  | str z =>
    obtain rfl := rStr ra
    simp only [slV] at q
    split at q
    · rename_i hz
      rw [szL_eq] at hz
      exact sl_str pins s σ H _ v vl vu lo hi sl Q I rx hs pl pu ⟨_, rfl, hz, q.at m mStr⟩
    · exact False.elim q
  | _ =>
    simp only [slV] at q
    split at q
    · rename_i l e1
      obtain ⟨p1, xs, rfl, h1, l1⟩ := m.ls ra e1
      exact sl_list pins s σ H _ v vl vu lo hi sl Q I rx hs pl pu ⟨_, xs, rfl, .inl (.inl h1), q.lst m (l1.cut lo hi)⟩
    · exact False.elim q
theorem PostO.shift {o : Out (Option Int)} {K : PySem.W.Frag} {mg : Str → Option Value} {r r1 : Rm} {s s1 : S} {H H1 : Hp} {Q : Option Int → Hp → Prop} {X : Wish} (h : PostO T K mg r s H o Q X) (x : Stp T K mg r s H r1 s1 H1) : PostO T K mg r1 s1 H1 o Q X := by
  cases o with
  | ok w s' => exact fun r' H' y => h r' H' (x.trans y)
  | ex c s' => exact fun r' H' y => h r' H' (x.trans y)
  | bad => exact h
theorem rs_sl {vr : Bool} {e : Expr} {lo hi : Option Expr} {p2 : Pos} {me : E} {ml mh : EO} (he : RE T X e me) (hl : RO T X lo ml) (hu : RO T X hi mh) : RE T X (.Subscript e (.Slice lo hi none p2) pos) (eSl vr me ml mh) := fun Wx tk => by
  refine (pe_slice (slw (T := T) vr Wx tk) (he Wx tk) (hl Wx tk) (hu Wx tk)).imp fun σ H Q h => ?_
  obtain ⟨r, ρ, s, m, q⟩ := h
  unfold eSl at q
  refine rdE.go m (fun x s1 e1 r1 H1 v1 p1 l1 m1 => ?_) (fun c s1 e1 r1 H1 p1 => ?_) (fun e1 => ?_)
  · rw [e1] at q
    refine ⟨r1, ρ, s1, m1, ?_⟩
    cases e2 : ml ρ s1 with
    | ok l s2 =>
      simp only [Out.bind, e2] at q
      intro r2 H2 p2
      refine ⟨r2, ρ, s2, m1.step p2, ?_⟩
      cases e3 : mh ρ s2 with
      | ok u s3 =>
        simp only [e3] at q
        intro r3 H3 p3
        exact ⟨r3, s3, x, p3.mt, (l1.kp p2.kp).kp p3.kp, PostE.shift q ((p1.trans p2).trans p3)⟩
      | ex c s3 => simp only [e3] at q; exact fun r3 H3 p3 => q r3 H3 ((p1.trans p2).trans p3)
      | bad => simp only [e3] at q; exact q
    | ex c s2 => simp only [Out.bind, e2] at q; exact fun r2 H2 p2 => q r2 H2 (p1.trans p2)
    | bad => simp only [Out.bind, e2] at q; exact q
  · rw [e1] at q; exact q r1 H1 p1
  · rw [e1] at q; exact q
theorem RelWs.rev {K : PySem.W.Frag} {r : Rm} {n : Nat} {H : Hp} : ∀ {ws : List W} {xs : List V}, RelWs K r n H ws xs → RelWs K r n H ws.reverse xs.reverse
  | [], _, h => by unfold RelWs at h; subst h; exact RelWs.nil
  | w :: ws, _, h => by
    obtain ⟨x, t, e, h1, h2⟩ := h.uncons
    subst e
    rw [List.reverse_cons, List.reverse_cons]
    exact RelWs.app (RelWs.rev h2) (RelWs.cons h1 RelWs.nil)
theorem rs_rev {vr : Bool} {e : Expr} {me : E} {k : Nat} {p1 p2 p3 : Pos} (he : RE T X e me) : RE T X (.Subscript e (.Slice none none (some (.UnaryOp .USub (.Constant (.int 1) k p1) p2)) p3) pos) (eRev vr me) := fun Wx tk => by
  refine (pe_revL (he Wx tk)).imp fun σ H Q h => ?_
  obtain ⟨r, ρ, s, m, q⟩ := h
  unfold eRev at q
  refine rdE.go m (fun x s1 e1 r1 H1 v1 p1 l1 m1 => ?_) (fun c s1 e1 r1 H1 p1 => ?_) (fun e1 => ?_)
  · rw [e1] at q
    simp only [Out.bind] at q
    split at q
    · rename_i l el
      obtain ⟨_, xs, rfl, h1, l2⟩ := m1.mt.ls l1 el
      exact ⟨_, xs, rfl, .inl (.inl h1), (PostE.shift q p1).lst m1.mt l2.rev⟩
    · exact False.elim q
  · rw [e1] at q; exact q r1 H1 p1
  · rw [e1] at q; exact q

/-! ### attributes -/
/-- what the class facts say of an field -/
def FldOk (K : PySem.W.Frag) (mg : Str → Option Value) (cs : List Str) (f : Str) : Prop := ∀ c ∈ cs, ∀ C, mg c = some (.ref C) → Cls K C ∧ NoAttr K C f
theorem RFs.look {K : PySem.W.Frag} {r : Rm} {n : Nat} {H : Hp} {f : Str} {fs : List (Str × W)} {fv : List (Str × V)} (h : RFs K r n H fs fv) : (fs.lookup f = none ∧ fv.lookup f = none) ∨ ∃ w v, fs.lookup f = some w ∧ fv.lookup f = some v ∧ RelW K r n H w v := by
  induction h with
  | nil => exact .inl ⟨rfl, rfl⟩
  | @cons p q ps qs hq t ih =>
    obtain ⟨p1, p2⟩ := p
    obtain ⟨q1, q2⟩ := q
    obtain ⟨h1, h2⟩ := hq
    have h1 : p1 = q1 := h1
    subst h1
    simp only [List.lookup_cons]
    cases f == p1 with
    | true => exact .inr ⟨p2, q2, rfl, rfl, h2⟩
    | false => exact ih
theorem Mt.ins {K : PySem.W.Frag} {mg : Str → Option Value} {r : Rm} {s : S} {H : Hp} (m : Mt T K mg r s H) {a : Nat} {c : Str} {fs : List (Str × W)} (h : s.at_ a = some (.ins c fs)) :
    a < s.nx ∧ ∃ C dx fv, H (r a) = some (.ins C dx fv) ∧ mg c = some (.ref C) ∧ RFs K r s.nx H fs fv := by
  obtain ⟨h1, ho, h2, C, dx, fv, e, g, q⟩ := m.ob a _ h
  subst e
  exact ⟨h1, C, dx, fv, h2, g, q⟩
theorem rs_fld {e : Expr} {f : Str} {me : E} {cs : List Str} (ok : FldOk X.K X.mg cs f) (he : RE T X e me) (hb : attributeBase e f X.env (eval e X.env) = eval e X.env := by rfl) : RE T X (.Attribute e f pos) (eFld cs f me) := fun Wx tk => by
  refine (pe_fld (he Wx tk) hb).imp fun σ H Q h => ?_
  obtain ⟨r, ρ, s, m, q⟩ := h
  unfold eFld at q
  refine rdE.go m (fun x s1 e1 r1 H1 v1 p1 l1 m1 => ?_) (fun c s1 e1 r1 H1 p1 => ?_) (fun e1 => ?_)
  · rw [e1] at q
    cases x <;> first | exact False.elim q | skip
    obtain ⟨ha, rfl⟩ := rRef l1
    simp only [Out.bind, fldV] at q
    split at q
    · rename_i c fs el
      obtain ⟨_, C, dx, fv, h1, g, l2⟩ := m1.mt.ins el
      split at q
      · rename_i hc
        rcases l2.look (f := f) with ⟨e2, _⟩ | ⟨w, v, e2, e3, r2⟩
        · rw [e2] at q; exact False.elim q
        · rw [e2] at q
          obtain ⟨c1, c2⟩ := ok c hc C g
          exact ⟨_, C, dx, fv, v, rfl, h1, c1, c2, e3, q r1 H1 v p1 r2⟩
      · exact False.elim q
    · exact False.elim q
  · rw [e1] at q; exact q r1 H1 p1
  · rw [e1] at q; exact q
/-! ### in a dict, {} -/
theorem ow_dict (hu : X.A.units + 1 < cLine) : OpR X (compareOp .In) (fun y x H Q => ∃ a o, x = .ref a ∧ DGet H a y o ∧ Q (.bl o.isSome) H) := by
  intro pins s σ H x y v u Q I rx ry h
  obtain ⟨a, o, rfl, g, q⟩ := h
  obtain rfl : u = Value.ref a := ry
  exact d_in hu I g rx fun s3 I3 => ⟨.bl o.isSome, H, I3, rfl, q⟩
theorem ow_dictN (hu : X.A.units + 1 < cLine) : OpR X (compareOp .NotIn) (fun y x H Q => ∃ a o, x = .ref a ∧ DGet H a y o ∧ Q (.bl (!o.isSome)) H) := by
  intro pins s σ H x y v u Q I rx ry h
  obtain ⟨a, o, rfl, g, q⟩ := h
  obtain rfl : u = Value.ref a := ry
  exact d_notIn hu I g rx fun s3 I3 => ⟨.bl (!o.isSome), H, I3, rfl, q⟩
theorem ow_inD (hu : X.A.units + 1 < cLine) : OpW T X (compareOp .In) (inDV false) := fun Wx tk pins s σ H x y v u Q I rx ry hh => by
  obtain ⟨r, S, a, b, m, ra, rb, q⟩ := hh
  simp only [inDV] at q
  split at q
  · rename_i l el
    obtain ⟨p, kvs, rfl, h1, l1⟩ := m.dc rb el
    split at q
    · rename_i hk
      obtain ⟨k, rfl⟩ := isKey_ex hk
      obtain rfl := relW_key ra
      refine ow_dict hu pins s σ H _ _ v u Q I rx ry ⟨_, valV kvs k, rfl, .inl ⟨kvs, k, h1, rfl, rfl⟩, ?_⟩
      rw [← l1.has k]
      exact q.at m mBl
    · exact False.elim q
  · exact False.elim q
theorem ow_notInD (hu : X.A.units + 1 < cLine) : OpW T X (compareOp .NotIn) (inDV true) := fun Wx tk pins s σ H x y v u Q I rx ry hh => by
  obtain ⟨r, S, a, b, m, ra, rb, q⟩ := hh
  simp only [inDV] at q
  split at q
  · rename_i l el
    obtain ⟨p, kvs, rfl, h1, l1⟩ := m.dc rb el
    split at q
    · rename_i hk
      obtain ⟨k, rfl⟩ := isKey_ex hk
      obtain rfl := relW_key ra
      refine ow_dictN hu pins s σ H _ _ v u Q I rx ry ⟨_, valV kvs k, rfl, .inl ⟨kvs, k, h1, rfl, rfl⟩, ?_⟩
      rw [← l1.has k]
      exact q.at m mBl
    · exact False.elim q
  · exact False.elim q
theorem rs_dnew {vr : Bool} : RE T X (.Dict [] [] pos) (eDNew vr) := fun Wx _ => by
  refine (PE.fz (v := vr) pe_dnewK).imp fun σ H Q h => ?_
  obtain ⟨r, ρ, s, m, q⟩ := h
  exact PostE.dct m.mt q .nil
end
end RS
set_option Elab.async false
set_option linter.all false
set_option maxRecDepth 100000
set_option autoImplicit false
/-! RS.C5: statements. -/
namespace RS
open PySem PySem.Spec PyProof.Rows L2

/-! ### plain side -/
def bNil : B := fun ρ s => .nx ρ s
def bSeq (a b : B) : B := fun ρ s => (a ρ s).then b
def bIf (t : RS.T) (a b : B) : B := fun ρ s => (t ρ s).bindS fun c s1 => if c = true then a ρ s1 else b ρ s1
def bRet (e : E) : B := fun ρ s => (e ρ s).bindS fun w s1 => .rt w s1
def bRetN : B := fun _ s => .rt .non s
def bExpr (e : E) : B := fun ρ s => (e ρ s).bindS fun _ s1 => .nx ρ s1
def bBrk : B := fun ρ s => .bk ρ s
def bCnt : B := fun ρ s => .ct ρ s
abbrev G := W → B
def gN (i : Nat) : G := fun w ρ s => .nx (ρ.set i (some w)) s
abbrev Gs := List W → B
def gsNil : Gs := fun ws ρ s => match ws with
  | [] => .nx ρ s
  | _ => .bad
def gsCons (g : G) (gs : Gs) : Gs := fun ws ρ s => match ws with
  | w :: t => (g w ρ s).then (gs t)
  | [] => .bad
def gSeq (n : Nat) (gs : Gs) : G := fun w ρ s => match w with
  | .tup l => if l.length = n then gs l ρ s else .bad
  | .ref a => match s.at_ a with
    | some (.lst l) => if l.length = n then gs l ρ s else .bad
    | _ => .bad
  | .lst l => if l.length = n then gs l ρ s else .bad
  | _ => .bad
/-- o[i] = w -/
def setV (o i w : W) : S → Option S := fun s => match o with
  | .ref a => if a ∈ s.lk then none else match s.at_ a with
    | some (.lst l) => match i with
      | .int k => match ixN l.length k with
        | some j => some (s.set a (.lst (l.set j w)))
        | none => none
      | _ => none
    | some (.dct l) => if isKey i = true ∧ l.length < szL then some (s.set a (.dct (dput l i w))) else none
    | _ => none
  | _ => none
def okS (ρ : Env) : Option S → OutS
  | some s => .nx ρ s
  | none => .bad
def gIx (o i : E) : G := fun w ρ s => (o ρ s).bindS fun x s1 => (i ρ s1).bindS fun y s2 => okS ρ (setV x y w s2)
def putFW (f : Str) (v : W) : List (Str × W) → List (Str × W)
  | [] => [(f, v)]
  | (g, x) :: r => if g = f then (g, v) :: r else (g, x) :: putFW f v r
def setFV (cs : List Str) (f : Str) (o w : W) : S → Option S := fun s => match o with
  | .ref a => if a ∈ s.lk then none else match s.at_ a with
    | some (.ins c fs) => if c ∈ cs ∧ fs.length < 1000 then some (s.set a (.ins c (putFW f w fs))) else none
    | _ => none
  | _ => none
/-- a store ends plainly -/
def _root_.RS.OutS.g : OutS → OutS
  | .nx ρ s => .nx ρ s
  | .ex c s => .ex c s
  | _ => .bad
def bAsg (e : E) (g : G) : B := fun ρ s => (e ρ s).bindS fun w s1 => (g w ρ s1).g
def bFld (cs : List Str) (f : Str) (o e : E) : B := fun ρ s => (e ρ s).bindS fun w s1 => (o ρ s1).bindS fun x s2 => okS ρ (setFV cs f x w s2)
/-- in place -/
def iaddV (x y : W) : M W := match x, y with
  | .int i, .int j => fun s => .ok (.int (i + j)) s
  | .str x, .str y => fun s => if x.length + y.length ≤ szL then .ok (.str (x ++ y)) s else .bad
  | .tup a, .tup b => fun s => if a.length + b.length ≤ szL then .ok (.tup (a ++ b)) s else .bad
  | .ref a, y => fun s => if a ∈ s.lk then .bad else match s.at_ a, lsW s y with
    | some (.lst l), some m => if l.length + m.length ≤ szL then .ok (.ref a) (s.set a (.lst (l ++ m))) else .bad
    | _, _ => .bad
  | _, _ => fun _ => .bad
def bAug (i : Nat) (f : W → W → M W) (e : E) : B := fun ρ s => match ρ[i]? with
  | some (some x) => (e ρ s).bindS fun y s1 => (f x y s1).bindS fun z s2 => .nx (ρ.set i (some z)) s2
  | _ => .bad
def bFldAug (cs : List Str) (f : Str) (op : W → W → M W) (o e : E) : B := fun ρ s => (o ρ s).bindS fun x s1 => (fldV cs f x s1).bindS fun v s2 => (e ρ s2).bindS fun y s3 => (op v y s3).bindS fun z s4 => okS ρ (setFV cs f x z s4)
def ixMV : W → W → M W
  | .ref a, k => ixV (.ref a) k
  | _, _ => fun _ => .bad
def bIxAug (op : W → W → M W) (o i e : E) : B := fun ρ s => (o ρ s).bindS fun x s1 => (i ρ s1).bindS fun y s2 => (ixMV x y s2).bindS fun v s3 => (e ρ s3).bindS fun u s4 => (op v u s4).bindS fun z s5 => okS ρ (setV x y z s5)
def delV (o i : W) : S → Option S := fun s => match o with
  | .ref a => if a ∈ s.lk then none else match s.at_ a with
    | some (.dct l) => if isKey i = true ∧ dhas l i = true then some (s.set a (.dct (ddrop l i))) else none
    | _ => none
  | _ => none
def bDel (o i : E) : B := fun ρ s => (o ρ s).bindS fun x s1 => (i ρ s1).bindS fun y s2 => okS ρ (delV x y s2)
def bRaise (c : Str) : B := fun _ s => .ex c s

/-! ### refinement -/
section
variable (T : List NdefX.NTab) (X : Cx)
def PostS (r : Rm) (s : S) (H : Hp) (o : OutS) (D : Ends) (Wx : Wish) : Prop := match o with
  | .nx ρ' s' => ∀ r' σ' H', Stp T X.K X.mg r s H r' s' H' → MtE T X r' ρ' s' σ' H' → D.nx σ' H'
  | .bk ρ' s' => ∀ r' σ' H', Stp T X.K X.mg r s H r' s' H' → MtE T X r' ρ' s' σ' H' → D.bk σ' H'
  | .ct ρ' s' => ∀ r' σ' H', Stp T X.K X.mg r s H r' s' H' → MtE T X r' ρ' s' σ' H' → D.ct σ' H'
  | .rt w s' => ∀ r' H' v, Stp T X.K X.mg r s H r' s' H' → RelW X.K r' s'.nx H' w v → D.rt v H'
  | .ex c s' => ∀ r' H', Stp T X.K X.mg r s H r' s' H' → Wx c H'
  | .bad => False
def PostG (r : Rm) (s : S) (H : Hp) (o : OutS) (Q : L2.St → Hp → Prop) (Wx : Wish) : Prop := match o with
  | .nx ρ' s' => ∀ r' σ' H', Stp T X.K X.mg r s H r' s' H' → MtE T X r' ρ' s' σ' H' → Q σ' H'
  | .ex c s' => ∀ r' H', Stp T X.K X.mg r s H r' s' H' → Wx c H'
  | _ => False
def rdS (b : B) (Wx : Wish) : TS := fun D σ H => ∃ r ρ s, MtE T X r ρ s σ H ∧ PostS T X r s H (b ρ s) D Wx
def RS_ (st : Stmt) (b : B) : Prop := ∀ Wx, Tk X Wx → PS X st (rdS T X b Wx)
def RSs (st : List Stmt) (b : B) : Prop := ∀ Wx, Tk X Wx → PSs X st (rdS T X b Wx)
def RG (tg : Expr) (g : G) : Prop := ∀ Wx, Tk X Wx → PG X tg fun v σ H Q => ∃ r ρ s w, MtE T X r ρ s σ H ∧ RelW X.K r s.nx H w v ∧ PostG T X r s H (g w ρ s) Q Wx
def RGs (tg : List Expr) (g : Gs) : Prop := ∀ Wx, Tk X Wx → PGs X tg fun vs σ H Q => ∃ r ρ s ws, MtE T X r ρ s σ H ∧ RelWs X.K r s.nx H ws vs ∧ PostG T X r s H (g ws ρ s) Q Wx
end
section
variable {T : List NdefX.NTab} {X : Cx} {r r1 : Rm} {s s1 : S} {H H1 : Hp} {Wx : Wish}
theorem PostS.shift {o : OutS} {D : Ends} (h : PostS T X r s H o D Wx) (x : Stp T X.K X.mg r s H r1 s1 H1) : PostS T X r1 s1 H1 o D Wx := by
  cases o with
  | nx _ _ => exact fun r' σ' H' y => h r' σ' H' (x.trans y)
  | bk _ _ => exact fun r' σ' H' y => h r' σ' H' (x.trans y)
  | ct _ _ => exact fun r' σ' H' y => h r' σ' H' (x.trans y)
  | rt _ _ => exact fun r' H' v y => h r' H' v (x.trans y)
  | ex _ _ => exact fun r' H' y => h r' H' (x.trans y)
  | bad => exact h
theorem PostG.shift {o : OutS} {D : L2.St → Hp → Prop} (h : PostG T X r s H o D Wx) (x : Stp T X.K X.mg r s H r1 s1 H1) : PostG T X r1 s1 H1 o D Wx := by
  cases o with
  | nx _ _ => exact fun r' σ' H' y => h r' σ' H' (x.trans y)
  | ex _ _ => exact fun r' H' y => h r' H' (x.trans y)
  | _ => exact h
theorem PostG.ofS {o : OutS} {D : Ends} (h : PostS T X r s H o.g D Wx) : PostG T X r s H o D.nx Wx := by
  cases o <;> exact h
end

section
variable {T : List NdefX.NTab} {X : Cx} {pos : Pos}
theorem rss_nil : RSs T X [] bNil := fun Wx _ => by
  refine pss_nil.imp fun D σ H h => ?_
  obtain ⟨r, ρ, s, m, q⟩ := h
  exact q r σ H (.refl m.mt) m
theorem rss_cons {st : Stmt} {rest : List Stmt} {a b : B} (h1 : RS_ T X st a) (h2 : RSs T X rest b) : RSs T X (st :: rest) (bSeq a b) := fun Wx tk => by
  refine (pss_cons (h1 Wx tk) (h2 Wx tk)).imp fun D σ H h => ?_
  obtain ⟨r, ρ, s, m, q⟩ := h
  unfold bSeq at q
  refine ⟨r, ρ, s, m, ?_⟩
  cases e : a ρ s with
  | nx ρ' s' =>
    rw [e] at q
    exact fun r' σ' H' x m' => ⟨r', ρ', s', m', PostS.shift q x⟩
  | _ => rw [e] at q; exact q
theorem rss_one {st : Stmt} {a : B} (h1 : RS_ T X st a) : RSs T X [st] a := fun Wx tk => pss_one (h1 Wx tk)
theorem st_pass : RS_ T X (.Pass pos) bNil := fun Wx _ => by
  refine ps_pass.imp fun D σ H h => ?_
  obtain ⟨r, ρ, s, m, q⟩ := h
  exact q r σ H (.refl m.mt) m
theorem st_break : RS_ T X (.Break pos) bBrk := fun Wx _ => by
  refine ps_break.imp fun D σ H h => ?_
  obtain ⟨r, ρ, s, m, q⟩ := h
  exact q r σ H (.refl m.mt) m
theorem st_cont : RS_ T X (.Continue pos) bCnt := fun Wx _ => by
  refine ps_continue.imp fun D σ H h => ?_
  obtain ⟨r, ρ, s, m, q⟩ := h
  exact q r σ H (.refl m.mt) m
theorem st_if {c : Expr} {a b : List Stmt} {t : RS.T} {ma mb : B} (hc : RT T X c t) (ha : RSs T X a ma) (hb : RSs T X b mb) : RS_ T X (.If c a b pos) (bIf t ma mb) := fun Wx tk => by
  refine (ps_if (hc Wx tk) (ha Wx tk) (hb Wx tk)).imp fun D σ H h => ?_
  obtain ⟨r, ρ, s, m, q⟩ := h
  unfold bIf at q
  refine rdT.go m (fun x s1 e1 r1 H1 p1 m1 => ?_) (fun c s1 e1 r1 H1 p1 => ?_) (fun e1 => ?_)
  · rw [e1] at q
    cases x with
    | true => exact ⟨r1, ρ, s1, m1, PostS.shift q p1⟩
    | false => exact ⟨r1, ρ, s1, m1, PostS.shift q p1⟩
  · rw [e1] at q; exact q r1 H1 p1
  · rw [e1] at q; exact q
theorem st_ret {e : Expr} {m : E} (he : RE T X e m) : RS_ T X (.Return (some e) pos) (bRet m) := fun Wx tk => by
  refine (ps_ret (he Wx tk)).imp fun D σ H h => ?_
  obtain ⟨r, ρ, s, m, q⟩ := h
  unfold bRet at q
  refine rdE.go m (fun x s1 e1 r1 H1 v1 p1 l1 m1 => ?_) (fun c s1 e1 r1 H1 p1 => ?_) (fun e1 => ?_)
  · rw [e1] at q; exact q r1 H1 v1 p1 l1
  · rw [e1] at q; exact q r1 H1 p1
  · rw [e1] at q; exact q
theorem st_retN : RS_ T X (.Return none pos) bRetN := fun Wx _ => by
  refine ps_retN.imp fun D σ H h => ?_
  obtain ⟨r, ρ, s, m, q⟩ := h
  exact q r H _ (.refl m.mt) mNon
theorem st_expr {e : Expr} {m : E} (he : RE T X e m) (hs : swapsWith e none pos.line X.env = pure false := by rfl) : RS_ T X (.Expr e pos) (bExpr m) := fun Wx tk => by
  refine (ps_expr (he Wx tk) hs).imp fun D σ H h => ?_
  obtain ⟨r, ρ, s, m, q⟩ := h
  unfold bExpr at q
  refine rdE.go m (fun x s1 e1 r1 H1 v1 p1 l1 m1 => ?_) (fun c s1 e1 r1 H1 p1 => ?_) (fun e1 => ?_)
  · rw [e1] at q; exact q r1 σ H1 p1 m1
  · rw [e1] at q; exact q r1 H1 p1
  · rw [e1] at q; exact q
theorem rg_name {i : Nat} {x : Str} (hN : X.N.Nodup) (hi : X.N[i]? = some x := by rfl) (hx : Loc X.env.scope x := by first | exact Or.inl rfl | exact Or.inr rfl) (hf : X.fn x = true ∨ X.env.scope.names.lookup x = some .local := by first | exact .inl rfl | exact .inr rfl) : RG T X (.Name x pos) (gN i) := fun Wx _ => ⟨fun pins s σ H v u Q I rv h => by
  refine (pg_name hN hi hx hf).run pins s σ H v u Q I rv ?_
  obtain ⟨r, ρ, S, w, m, rw', q⟩ := h
  exact q r _ H (.refl m.mt) (m.set rw' i)⟩
theorem rgs_nil : RGs T X [] gsNil := fun Wx _ => ⟨fun pins s σ H vs us Q I rv h => by
  refine pgs_nil.run pins s σ H vs us Q I rv ?_
  obtain ⟨r, ρ, S, ws, m, rw', q⟩ := h
  cases ws with
  | nil =>
    unfold RelWs at rw'
    exact ⟨rw', q r _ H (.refl m.mt) m⟩
  | cons _ _ => exact False.elim q⟩
theorem rgs_cons {e : Expr} {es : List Expr} {g : G} {gs : Gs} (h1 : RG T X e g) (h2 : RGs T X es gs) (hs : (assignEach (e :: es) X.env).map (·.2) = assign e X.env :: (assignEach es X.env).map (·.2) := by rfl) : RGs T X (e :: es) (gsCons g gs) := fun Wx tk => ⟨fun pins s σ H vs us Q I rv h => by
  refine (pgs_cons (h1 Wx tk) (h2 Wx tk) hs).run pins s σ H vs us Q I rv ?_
  obtain ⟨r, ρ, S, ws, m, rw', q⟩ := h
  cases ws with
  | nil => exact False.elim q
  | cons w ws =>
    obtain ⟨x, t, e, l1, l2⟩ := rw'.uncons
    subst e
    refine ⟨x, t, rfl, r, ρ, S, w, m, l1, ?_⟩
    unfold gsCons at q
    simp only at q
    cases e : g w ρ S with
    | nx ρ' s' =>
      rw [e] at q
      exact fun r' σ' H' y m' => ⟨r', ρ', s', ws, m', RelWs.kp y.kp l2, PostG.shift q y⟩
    | _ => rw [e] at q; exact q⟩
theorem rg_tup {es : List Expr} {k n : Nat} {gs : Gs} (hc : X.calm = true) (h : RGs T X es gs) (hn : (assignEach es X.env).length = n := by rfl) (hst : (assignEach es X.env).findIdx? (·.1) = none := by rfl) : RG T X (.Tuple es k pos) (gSeq n gs) := fun Wx tk => ⟨fun pins s σ H v u Q I rv hh => by
  obtain ⟨r, ρ, S, w, m, rw', q⟩ := hh
  unfold gSeq at q
  cases w with
  | tup l =>
    obtain ⟨p, xs, rfl, t1, l1⟩ := rTup rw'
    simp only at q
    split at q
    · rename_i hl
      exact (pg_tup hc (h Wx tk) hn hst).run pins s σ H _ u Q I rv ⟨p, xs, rfl, t1.sq, by rw [← l1.len]; exact hl, r, ρ, S, l, m, l1, q⟩
    · exact False.elim q
  | ref a =>
    obtain ⟨ha, rfl⟩ := rRef rw'
    simp only at q
    split at q
    · rename_i l el
      obtain ⟨_, xs, h1, l1⟩ := m.mt.lst el
      split at q
      · rename_i hl
        exact (pg_lst hc (h Wx tk) hn hst).run pins s σ H _ u Q I rv ⟨_, xs, rfl, .inl (.inl h1), by rw [← l1.len]; exact hl, r, ρ, S, l, m, l1, q⟩
      · exact False.elim q
    · exact False.elim q
  | lst l =>
    obtain ⟨p, xs, rfl, _, h1, l1⟩ := rLst rw'
    simp only at q
    split at q
    · rename_i hl
      exact (pg_lst hc (h Wx tk) hn hst).run pins s σ H _ u Q I rv ⟨_, xs, rfl, .inl (.inl h1), by rw [← l1.len]; exact hl, r, ρ, S, l, m, l1, q⟩
    · exact False.elim q
  | _ => exact False.elim q⟩
theorem st_asg {tg e : Expr} {m : E} {g : G} (he : RE T X e m) (hg : RG T X tg g) (hs : swapsWithSole [tg] e pos.line X.env = pure false := by rfl) (hw : swappedStores [tg] e X.env = pure none := by rfl) (h1 : (assignEach [tg] X.env).map (·.2) = [assign tg X.env] := by rfl) :
    RS_ T X (.Assign [tg] e pos) (bAsg m g) := fun Wx tk => by
  refine (ps_asg (he Wx tk) (hg Wx tk) hs hw h1).imp fun D σ H h => ?_
  obtain ⟨r, ρ, s, m, q⟩ := h
  unfold bAsg at q
  refine rdE.go m (fun x s1 e1 r1 H1 v1 p1 l1 m1 => ?_) (fun c s1 e1 r1 H1 p1 => ?_) (fun e1 => ?_)
  · rw [e1] at q
    exact ⟨r1, ρ, s1, x, m1, l1, PostG.ofS (PostS.shift q p1)⟩
  · rw [e1] at q; exact q r1 H1 p1
  · rw [e1] at q; exact q
/-- name = e -/
theorem st_set {i : Nat} {x : Str} {e : Expr} {m : E} {pos' : Pos} (hN : X.N.Nodup) (he : RE T X e m) (hi : X.N[i]? = some x := by rfl) (hx : Loc X.env.scope x := by first | exact Or.inl rfl | exact Or.inr rfl) (hs : swapsWith e (some (.Name x pos')) pos.line X.env = pure false := by rfl)
    (hf : X.fn x = true ∨ X.env.scope.names.lookup x = some .local := by first | exact .inl rfl | exact .inr rfl) : RS_ T X (.Assign [.Name x pos'] e pos) (bAsg m (gN i)) := fun Wx tk => by
  refine (ps_set hN hi hx (he Wx tk) hs hf).imp fun D σ H h => ?_
  obtain ⟨r, ρ, s, m, q⟩ := h
  unfold bAsg at q
  refine rdE.go m (fun x s1 e1 r1 H1 v1 p1 l1 m1 => ?_) (fun c s1 e1 r1 H1 p1 => ?_) (fun e1 => ?_)
  · rw [e1] at q
    exact q r1 _ H1 p1 (m1.set l1 i)
  · rw [e1] at q; exact q r1 H1 p1
  · rw [e1] at q; exact q

/-! ### stores into objects -/
theorem ixN_relw {K : PySem.W.Frag} {r : Rm} {n : Nat} {H : Hp} {ws : List W} {xs : List V} {k : Int} {j : Nat} (h : RelWs K r n H ws xs) (e : ixN ws.length k = some j) : ixN xs.length k = some j := by rw [← h.len]; exact e
theorem psetw (hu : X.A.units + 1 < cLine) : PSet X fun o i v H Q => ∃ r s wo wi w s', Mt T X.K X.mg r s H ∧ RelW X.K r s.nx H wo o ∧ RelW X.K r s.nx H wi i ∧ RelW X.K r s.nx H w v ∧ setV wo wi w s = some s' ∧ (∀ H', Stp T X.K X.mg r s H r s' H' → Q H') := by
  intro pins s σ H o i v ov iv u Q I ro ri rv h
  obtain ⟨r, S, wo, wi, w, S', m, lo, li, lw, e, q⟩ := h
  unfold setV at e
  cases wo with
  | ref a =>
    obtain ⟨ha, rfl⟩ := rRef lo
    simp only at e
    split at e
    · cases e
    · rename_i hn
      split at e
      · rename_i l el
        cases wi <;> first | (cases e; done) | skip
        obtain rfl := rInt li
        simp only at e
        split at e
        · rename_i j ej
          cases e
          obtain ⟨_, xs, h1, l1⟩ := m.lst el
          exact set_list pins s σ H _ _ v ov iv u Q I ro ri rv ⟨_, xs, _, j, rfl, rfl, h1, ixN_relw l1 ej, q _ (m.putL el hn (l1.set lw j))⟩
        · cases e
      · rename_i l el
        split at e
        · rename_i hk
          cases e
          obtain ⟨k, rfl⟩ := isKey_ex hk.1
          obtain rfl := relW_key li
          obtain ⟨_, kvs, _, h1, _, l1⟩ := m.dct el
          have h1 := h1 hn
          exact set_dict hu pins s σ H _ _ v ov iv u Q I ro ri rv ⟨_, _, rfl, DPut.k h1 (by rw [← l1.len, ← szL_eq]; exact hk.2), q _ (m.putD el hn h1 (l1.put k lw))⟩
        · cases e
      · cases e
  | _ => cases e
/-- o[i] = e as a target -/
theorem rg_ix {o i : Expr} {mo mi : E} {k : Nat} (hr : Room k X.A) (ho : RE T X o mo) (hi : RE T X i mi) (ha : ∀ v, assign (.Subscript o i pos) X.env v = (do
      let ov ← holding [v] (eval o X.env)
      let iv ← holding [v, ov] (eval i X.env)
      standAt pos
      holding [v, ov, iv] (setItem ov iv v)
      release [v, ov, iv] []) := by intro _; rfl) : RG T X (.Subscript o i pos) (gIx mo mi) := fun Wx tk => ⟨fun pins s σ H v u Q I rv h => by
  refine (pg_sub (ho Wx tk) (hi Wx tk) (psetw (T := T) (hu_of hr)) ha).run pins s σ H v u Q I rv ?_
  obtain ⟨r, ρ, S, w, m, lw, q⟩ := h
  unfold gIx at q
  refine rdE.go m (fun x s1 e1 r1 H1 v1 p1 l1 m1 => ?_) (fun c s1 e1 r1 H1 p1 => ?_) (fun e1 => ?_)
  · rw [e1] at q
    refine rdE.go m1 (fun y s2 e2 r2 H2 v2 p2 l2 m2 => ?_) (fun c s2 e2 r2 H2 p2 => ?_) (fun e2 => ?_)
    · simp only [Out.bindS, e2] at q
      cases e3 : setV x y w s2 with
      | none => rw [e3] at q; exact False.elim q
      | some s3 =>
        rw [e3] at q
        exact ⟨r2, s2, x, y, w, s3, m2.mt, l1.kp p2.kp, l2, (lw.kp p1.kp).kp p2.kp, e3, fun H' y3 => q r2 σ H' ((p1.trans p2).trans y3) (m2.step y3)⟩
    · simp only [Out.bindS, e2] at q
      exact q r2 H2 (p1.trans p2)
    · simp only [Out.bindS, e2] at q
      exact q
  · rw [e1] at q; exact q r1 H1 p1
  · rw [e1] at q; exact q⟩
theorem RFs.put {K : PySem.W.Frag} {r : Rm} {n : Nat} {H : Hp} {f : Str} {w : W} {v : V} (q : RelW K r n H w v) : ∀ {fs : List (Str × W)} {fv : List (Str × V)}, RFs K r n H fs fv → RFs K r n H (putFW f w fs) (putF f v fv)
  | _, _, .nil => .cons ⟨rfl, q⟩ .nil
  | (g, x) :: ps, (g', y) :: qs, .cons hq t => by
    obtain ⟨h1, h2⟩ := hq
    have h1 : g = g' := h1
    subst h1
    show RFs K r n H (if g = f then (g, w) :: ps else (g, x) :: putFW f w ps) (if g = f then (g, v) :: qs else (g, y) :: putF f v qs)
    by_cases e : g = f
    · rw [if_pos e, if_pos e]; exact .cons ⟨rfl, q⟩ t
    · rw [if_neg e, if_neg e]; exact .cons ⟨rfl, h2⟩ (RFs.put q t)
/-- what a store of a field comes to -/
theorem setF_ok {r : Rm} {s₀ s' : RS.S} {H : Hp} {cs : List Str} {f : Str} {o w : W} {x y : V} (ok : FldOk X.K X.mg cs f) (m : Mt T X.K X.mg r s₀ H) (lo : RelW X.K r s₀.nx H o x) (lw : RelW X.K r s₀.nx H w y) (e : setFV cs f o w s₀ = some s') :
    ∃ a C dx fv, x = .ref a ∧ H a = some (.ins C dx fv) ∧ Cls X.K C ∧ NoAttr X.K C f ∧ fv.length < 1000 ∧ Stp T X.K X.mg r s₀ H r s' (upd H a (.ins C dx (putF f y fv))) := by
  unfold setFV at e
  cases o with
  | ref a =>
    obtain ⟨ha, rfl⟩ := rRef lo
    simp only at e
    split at e
    · cases e
    · rename_i hn
      split at e
      · rename_i c fs el
        obtain ⟨_, C, dx, fv, h1, g, l2⟩ := m.ins el
        split at e
        · rename_i hc
          cases e
          obtain ⟨c1, c2⟩ := ok c hc.1 C g
          refine ⟨_, C, dx, fv, rfl, h1, c1, c2, by rw [← Paired.length l2]; exact hc.2, ?_⟩
          refine m.put el h1 (fun _ z => nomatch z) (fun _ z => nomatch z) (fun _ z => nomatch z) hn ⟨C, dx, _, rfl, g, ?_⟩
          refine Paired.mapP (l2.put (f := f) lw) fun _ _ z => ⟨z.1, z.2.kp ⟨Nat.le_refl _, fun _ _ => rfl, fun p ys y => ?_, fun _ f => f, fun p ys f y => ?_⟩⟩
          · by_cases e : p = r a
            · rw [e, h1] at y; cases y
            · rw [upd_ne e]; exact y
          · rw [upd_ne (Ne.symm ((m.fr p f).1 a ha))]; exact y
        · cases e
      · cases e
  | _ => cases e
theorem st_fld {o e : Expr} {f : Str} {cs : List Str} {mo me : E} {pos' : Pos} (ok : FldOk X.K X.mg cs f) (ho : RE T X o mo) (he : RE T X e me) (hs : swapsWith e (some (.Attribute o f pos')) pos.line X.env = pure false := by rfl) : RS_ T X (.Assign [.Attribute o f pos'] e pos) (bFld cs f mo me) := fun Wx tk => by
  refine (ps_fld (ho Wx tk) (he Wx tk) hs).imp fun D σ H h => ?_
  obtain ⟨r, ρ, s, m, q⟩ := h
  unfold bFld at q
  refine rdE.go m (fun x s1 e1 r1 H1 v1 p1 l1 m1 => ?_) (fun c s1 e1 r1 H1 p1 => ?_) (fun e1 => ?_)
  · rw [e1] at q
    refine rdE.go m1 (fun y s2 e2 r2 H2 v2 p2 l2 m2 => ?_) (fun c s2 e2 r2 H2 p2 => ?_) (fun e2 => ?_)
    · simp only [Out.bindS, e2] at q
      cases e3 : setFV cs f y x s2 with
      | none => rw [e3] at q; exact False.elim q
      | some s3 =>
        rw [e3] at q
        obtain ⟨a, C, dx, fv, ex, h1, c1, c2, c3, st⟩ := setF_ok ok m2.mt l2 (l1.kp p2.kp) e3
        exact ⟨a, C, dx, fv, ex, h1, c1, c2, c3, q r2 σ _ ((p1.trans p2).trans st) (m2.step st)⟩
    · simp only [Out.bindS, e2] at q
      exact q r2 H2 (p1.trans p2)
    · simp only [Out.bindS, e2] at q
      exact q
  · rw [e1] at q; exact q r1 H1 p1
  · rw [e1] at q; exact q
end
end RS
set_option Elab.async false
set_option linter.all false
set_option maxRecDepth 100000
set_option autoImplicit false
/-! RS.C6: augmented stores, while, for, locks, del. -/
namespace RS
open PySem PySem.Spec PyProof.Rows L2

section
variable {T : List NdefX.NTab} {X : Cx} {pos : Pos}
/-! ### op= -/
theorem ow_isub : OpW T X (inplaceOp .Sub) subV := ow_int iop_sub (p := fun i j => .int (i - j)) (fun _ _ => True) (fun _ _ _ _ _ _ => mInt) (fun i j _ _ _ q => ⟨i, j, rfl, rfl, q⟩) fun a b s => by
  cases a <;> cases b <;> first | exact .inl rfl | exact .inr ⟨_, _, rfl, rfl, rfl, trivial⟩
theorem iconcat_meets {A : Around} {E : Value → Shared → Prop} {s : Shared} {prog : Program} {w : World} {Tn id : String} {B : Builtin} {a b : Value} {Sp : PySem.Spec} {Q : Value → Shared → Prop} (ha : s.TypeIs a Tn) (hb : s.TypeIs b Tn) (hno : typeLookup (.type Tn) (dunderI "add") = pure none)
    (hfill : fillsNumberSlot (.type Tn) "add" = pure false) (hseq : seqSlot? (.type Tn) "__add__" = pure (some (.builtin id))) (slot : Slot Tn "__add__" id)
    (entry : entryFor table id = some B) (args : argsOk id ⟨[a, b], []⟩) (g : Meets (B ⟨[a, b], []⟩) Sp) (h : Sp A (wants Q E) s) : wpAny (model prog w) A (inplaceOp .Add a b) Q E s :=
  wpAny_inplaceOp_concat ha hb hno hfill hseq (call_meets slot ha entry args g h)
theorem tup_noiadd : typeLookup (.type "tuple") (dunderI "add") = pure none := by rfl
theorem icat_tup {prog : Program} {w : World} {A : Around} {E : Value → Shared → Prop} {s : Shared} {t b : Addr} {vs ws : List Value} {Q : Value → Shared → Prop} (ht : IsTup s.heap t vs.toArray) (hb : IsTup s.heap b ws.toArray)
    (h0 : vs = [] → Q (.ref b) s) (h1 : vs ≠ [] → ws = [] → Q (.ref t) s) (h2 : vs ≠ [] → ws ≠ [] → Q (.ref s.heap.objs.size) { s with heap := s.heap.push { cls := .type "tuple", data := .seq (vs ++ ws).toArray } })
    (hsz : vs.length + ws.length ≤ sizeLine) : wpAny (model prog w) A (inplaceOp .Add (.ref t) (.ref b)) Q E s := by
  obtain ⟨⟨cls, dd, data, sl⟩, ho, hc, n, hd⟩ := id ht
  obtain ⟨⟨cls2, dd2, data2, sl2⟩, ho2, hc2, n2, hd2⟩ := id hb
  simp only at hc hd hc2 hd2
  subst hc hd hc2 hd2
  have e : vs.toArray ++ ws.toArray = (vs ++ ws).toArray := by simp
  by_cases hv : vs = []
  · exact iconcat_meets ⟨_, ho, rfl⟩ ⟨_, ho2, rfl⟩ tup_noiadd noFill_tuple_add seq_tuple_add PySem.F.slot_tuple_add PySem.F.entry_tuple_add (PySem.F.args_tuple_add_2 _ _)
      (tuple_addW0 t b vs.toArray ws.toArray n n2 dd dd2 sl sl2 (by simp [hv])) ⟨ho, ho2, h0 hv⟩
  · by_cases hw : ws = []
    · exact iconcat_meets ⟨_, ho, rfl⟩ ⟨_, ho2, rfl⟩ tup_noiadd noFill_tuple_add seq_tuple_add PySem.F.slot_tuple_add PySem.F.entry_tuple_add (PySem.F.args_tuple_add_2 _ _)
        (tuple_addW1 t b vs.toArray ws.toArray n n2 dd dd2 sl sl2 (by simpa using hv) (by simp [hw])) ⟨ho, ho2, h1 hv hw⟩
    · refine iconcat_meets ⟨_, ho, rfl⟩ ⟨_, ho2, rfl⟩ tup_noiadd noFill_tuple_add seq_tuple_add PySem.F.slot_tuple_add PySem.F.entry_tuple_add (PySem.F.args_tuple_add_2 _ _)
        (tuple_addW2 t b vs.toArray ws.toArray n n2 dd dd2 sl sl2 (by simpa using hv) (by simpa using hw) (by rw [List.size_toArray, List.size_toArray]; exact hsz)) ⟨ho, ho2, ?_⟩
      rw [e]
      exact h2 hv hw
theorem ow_iadd : OpW T X (inplaceOp .Add) iaddV := fun Wx tk pins s σ H x y v u Q I rx ry hh => by
  obtain ⟨r, S, a, b, m, ra, rb, q⟩ := hh
  cases a <;> cases b <;> first | exact False.elim q | skip
  · obtain rfl := rInt ra
    obtain rfl := rInt rb
    exact iop_add pins s σ H _ _ v u Q I rx ry ⟨_, _, rfl, rfl, q.at m mInt⟩
  · obtain rfl := rStr ra
    obtain rfl := rStr rb
    simp only [iaddV] at q
    split at q
    · rename_i h
      rw [szL_eq] at h
      exact iop_add_str pins s σ H _ _ v u Q I rx ry ⟨_, _, rfl, rfl, h, q.at m mStr⟩
    · exact False.elim q
  · obtain ⟨p1, xs, rfl, t1, l1⟩ := rTup ra
    obtain ⟨p2, ys, rfl, t2, l2⟩ := rTup rb
    simp only [iaddV] at q
    split at q
    · rename_i h
      rw [szL_eq, l1.len, l2.len] at h
      cases rx
      cases ry
      obtain ⟨its, r1, i1, _⟩ := I.tuple t1.sq
      obtain ⟨its2, r2, i2, _⟩ := I.tuple t2.sq
      refine icat_tup i1 i2 (fun e => ⟨.ref p2, H, I, rfl, ?_⟩) (fun _ e => ⟨.ref p1, H, I, rfl, ?_⟩) (fun h1 h2 => ?_) (by rw [← r1.length, ← r2.length]; exact h)
      · have e := r1.nil_iff.mp e
        subst e
        exact q.at m (mTup t2 (by have := RelWs.app l1 l2; simpa using this))
      · have e := r2.nil_iff.mp e
        subst e
        exact q.at m (mTup t1 (by have := RelWs.app l1 l2; simpa using this))
      · refine ⟨.ref s.heap.objs.size, _, I.laid (t' := s.toks) (o := .tup (xs ++ ys)) (fun b ob q => Heap.get?_push_of_some _ q) (Nat.le_refl _) ?_, rfl, q.tup m (RelWs.app l1 l2) _ (I.hok.fresh (Nat.le_refl _))⟩
        exact ⟨by rw [List.length_append]; exact h, _, r1.append r2, IsTup.new _ _⟩
    · exact False.elim q
  all_goals
    obtain ⟨ha, rfl⟩ := rRef ra
    simp only [iaddV] at q
    split at q
    · exact False.elim q
    · rename_i hn
      split at q
      · rename_i l l' e1 e2
        obtain ⟨_, xs, h1, l1⟩ := m.lst e1
        obtain ⟨_, ys, rfl, h2, l2⟩ := m.ls rb e2
        split at q
        · rename_i h
          rw [szL_eq, l1.len, l2.len] at h
          refine iop_ext pins s σ H _ _ v u Q I rx ry ⟨_, _, xs, ys, rfl, rfl, h1, h2, h, ?_⟩
          have st := m.putL e1 hn (RelWs.app l1 l2)
          exact q r _ _ st (mRef ha)
        · exact False.elim q
      · exact False.elim q
theorem st_aug {i : Nat} {x : Str} {e : Expr} {op : Operator} {f : W → W → M W} {m : E} {pos' : Pos} (hN : X.N.Nodup) (ho : OpW T X (inplaceOp op) f) (he : RE T X e m) (hi : X.N[i]? = some x := by rfl) (hx : Loc X.env.scope x := by first | exact Or.inl rfl | exact Or.inr rfl)
    (hf : X.fn x = true ∨ X.env.scope.names.lookup x = some .local := by first | exact .inl rfl | exact .inr rfl) : RS_ T X (.AugAssign (.Name x pos') op e pos) (bAug i f m) := fun Wx tk => by
  refine (ps_aug hN hi hx (he Wx tk) (ho Wx tk) hf).imp fun D σ H h => ?_
  obtain ⟨r, ρ, s, m, q⟩ := h
  unfold bAug at q
  split at q
  · rename_i x ex
    obtain ⟨v, hv, lv⟩ := m.env i x ex
    refine ⟨v, hv, ?_⟩
    refine rdE.go m (fun y s1 e1 r1 H1 v1 p1 l1 m1 => ?_) (fun c s1 e1 r1 H1 p1 => ?_) (fun e1 => ?_)
    · rw [e1] at q
      simp only [Out.bindS] at q
      refine ⟨r1, s1, x, y, m1.mt, lv.kp p1.kp, l1, ?_⟩
      cases e2 : f x y s1 with
      | ok z s2 => rw [e2] at q; exact fun r2 H2 v2 p2 l2 => q r2 _ H2 (p1.trans p2) ((m1.step p2).set l2 i)
      | ex c s2 => rw [e2] at q; exact fun r2 H2 p2 => q r2 H2 (p1.trans p2)
      | bad => rw [e2] at q; exact q
    · rw [e1] at q; exact q r1 H1 p1
    · rw [e1] at q; exact q
  · exact False.elim q
theorem st_fldaug {o e : Expr} {f c₀ : Str} {op : Operator} {g : W → W → M W} {mo me : E} {tpos : Pos} (ok : FldOk X.K X.mg [c₀] f) (hop : OpW T X (inplaceOp op) g) (ho : RE T X o mo) (he : RE T X e me) : RS_ T X (.AugAssign (.Attribute o f tpos) op e pos) (bFldAug [c₀] f g mo me) := fun Wx tk => by
  refine (ps_fldaug (ho Wx tk) (he Wx tk) (hop Wx tk)).imp fun D σ H h => ?_
  obtain ⟨r, ρ, s, m, q⟩ := h
  unfold bFldAug at q
  refine rdE.go m (fun x s1 e1 r1 H1 v1 p1 l1 m1 => ?_) (fun c s1 e1 r1 H1 p1 => ?_) (fun e1 => ?_)
  · rw [e1] at q
    simp only [Out.bindS] at q
    cases x <;> first | exact False.elim q | skip
    rename_i a
    obtain ⟨ha, rfl⟩ := rRef l1
    simp only [fldV] at q
    cases el : s1.at_ a with
    | none => rw [el] at q; exact False.elim q
    | some o₁ =>
      rw [el] at q
      cases o₁ <;> first | exact False.elim q | skip
      rename_i c fs
      obtain ⟨_, C, dx, fv, h1, gC, l2⟩ := m1.mt.ins el
      simp only at q
      by_cases hc : c ∈ [c₀]
      · rw [if_pos hc] at q
        rcases l2.look (f := f) with ⟨e2, _⟩ | ⟨w, v, e2, e3, r2⟩
        · rw [e2] at q; exact False.elim q
        · rw [e2] at q
          obtain ⟨c1, c2⟩ := ok c hc C gC
          refine ⟨_, C, dx, fv, v, rfl, h1, c1, c2, e3, ?_⟩
          simp only at q
          refine rdE.go m1 (fun y s2 e4 r3 H2 v2 p2 l3 m2 => ?_) (fun c s2 e4 r3 H2 p2 => ?_) (fun e4 => ?_)
          · rw [e4] at q
            simp only at q
            refine ⟨r3, s2, w, y, m2.mt, r2.kp p2.kp, l3, ?_⟩
            cases e5 : g w y s2 with
            | ok z s3 =>
              rw [e5] at q
              refine fun r4 H3 v3 p3 l4 => ?_
              have q : PostS T X r s H (okS ρ (setFV [c₀] f (.ref a) z s3)) D Wx := q
              cases e6 : setFV [c₀] f (.ref a) z s3 with
              | none => rw [e6] at q; exact False.elim q
              | some s4 =>
                rw [e6] at q
                have q4 := (l1.kp p2.kp).kp p3.kp
                obtain ⟨a', C', dx', fv', ex, h1', c1', c2', c3', st⟩ := setF_ok ok p3.mt q4 l4 e6
                cases ex
                have eC : C' = C := by
                  unfold setFV at e6
                  simp only at e6
                  split at e6
                  · cases e6
                  · split at e6
                    · rename_i c' fs' el'
                      obtain ⟨_, C2, _, _, h2, g2, _⟩ := p3.mt.ins el'
                      split at e6
                      · rename_i hc'
                        have z1 : c = c₀ := by simpa using hc
                        have z2 : c' = c₀ := by simpa using hc'.1
                        rw [z2] at g2
                        rw [z1, g2] at gC
                        cases gC
                        have z3 : r4 a = r1 a := by rw [p3.kp.eq a (Nat.lt_of_lt_of_le ha p2.kp.le), p2.kp.eq a ha]
                        rw [z3, h1'] at h2
                        cases h2
                        rfl
                      · cases e6
                    · cases e6
                subst eC
                exact ⟨dx', fv', h1', c3', q r4 σ _ (((p1.trans p2).trans p3).trans st) ((m2.step p3).step st)⟩
            | ex c s3 => rw [e5] at q; exact fun r4 H3 p3 => q r4 H3 ((p1.trans p2).trans p3)
            | bad => rw [e5] at q; exact q
          · rw [e4] at q; exact q r3 H2 (p1.trans p2)
          · rw [e4] at q; exact q
      · rw [if_neg hc] at q; exact False.elim q
  · rw [e1] at q; exact q r1 H1 p1
  · rw [e1] at q; exact q
/-! ### o[i] op= e, del -/
theorem pgetw (hu : X.A.units + 1 < cLine) (Wx : Wish) : PGet X fun x y H Q => ∃ r s a b w, Mt T X.K X.mg r s H ∧ RelW X.K r s.nx H a x ∧ RelW X.K r s.nx H b y ∧ ixMV a b s = .ok w s ∧ (∀ v, RelW X.K r s.nx H w v → Q v H) := by
  intro pins s σ H x y v u Q I rx ry h
  obtain ⟨r, S, a, b, w, m, ra, rb, e, q⟩ := h
  cases a with
  | ref a =>
    obtain ⟨ha, rfl⟩ := rRef ra
    simp only [ixMV, ixV] at e
    split at e
    · rename_i l el
      cases b <;> first | (cases e; done) | skip
      obtain rfl := rInt rb
      simp only at e
      split at e
      · rename_i w' ew
        cases e
        obtain ⟨_, xs, h1, l1⟩ := m.lst el
        obtain ⟨z, e', r'⟩ := l1.atI ew
        cases rx
        obtain ⟨t, rfl⟩ := ry
        obtain ⟨its, rr, pl, hz⟩ := I.list (.inl (.inl h1) : SqL X.K H _ xs)
        obtain ⟨j, h1, h2, h3, h4, h5⟩ := L2.atI_get e'
        obtain ⟨w, ew, rw'⟩ := rr.get h2
        have hl := rr.length
        have hn := line63
        have fin : EP X pins σ Q w s := ⟨z, H, I, rw', q z r'⟩
        by_cases h0 : 0 ≤ (by assumption : Int)
        · exact wpAny_getItem_list (Q := EP X pins σ Q) pl.isList h0 (by omega) (by
            rw [seqIndex_of h0 h5] at h1
            rw [Option.some.inj h1]; simpa using ew) fin
        · exact wpAny_getItem_list_neg (Q := EP X pins σ Q) pl.isList (by omega) (by rw [List.size_toArray] <;> omega) (by omega) (by
            rw [seqIndex_neg (by omega) h4] at h1
            rw [List.size_toArray, ← hl, Option.some.inj h1]; simpa using ew) fin
      · cases e
    · rename_i l el
      split at e
      · rename_i w' ew
        cases e
        obtain ⟨_, kvs, h1, _, _, l1⟩ := m.dct el
        by_cases hk : isKey b = true
        · obtain ⟨k, rfl⟩ := isKey_ex hk
          rcases l1.get k with ⟨e1, _⟩ | ⟨w', v', e1, e2, r'⟩
          · rw [e1] at ew; cases ew
          · rw [e1] at ew; cases ew
            obtain rfl := relW_key rb
            obtain rfl : v = Value.ref _ := rx
            exact d_getItem hu I (.inl ⟨kvs, k, h1, rfl, e2.symm⟩) ry fun w3 s3 I3 r3 => ⟨v', H, I3, r3, q v' r'⟩
        · rw [l1.nokey (by simpa using hk)] at ew; cases ew
      · cases e
    · cases e
  | _ => cases b <;> cases e
theorem ixMV_s {x y w : W} {s s' : RS.S} (h : ixMV x y s = .ok w s') : s' = s := by
  cases x <;> first | (cases h; done) | skip
  simp only [ixMV, ixV] at h
  repeat' split at h
  all_goals first | (cases h; rfl) | cases h
theorem ixMV_ex {x y : W} {c : Str} {s s' : RS.S} : ixMV x y s ≠ .ex c s' := fun h => by
  cases x <;> first | (cases h; done) | skip
  simp only [ixMV, ixV] at h
  repeat' split at h
  all_goals cases h
theorem st_ixaug {o i e : Expr} {op : Operator} {g : W → W → M W} {mo mi me : E} {tpos : Pos} {k : Nat} (hr : Room k X.A) (hop : OpW T X (inplaceOp op) g) (ho : RE T X o mo) (hi : RE T X i mi) (he : RE T X e me)
    (ha : ∀ ov iv new, augStore i ov iv new = (do holding [new, ov, iv] (setItem ov iv new); release [new, ov, iv] []; pure .next) := by intros; rfl) : RS_ T X (.AugAssign (.Subscript o i tpos) op e pos) (bIxAug g mo mi me) := fun Wx tk => by
  refine (ps_augS (ho Wx tk) (hi Wx tk) (pgetw (T := T) (hu_of hr) Wx) (he Wx tk) (hop Wx tk) (psetw (T := T) (hu_of hr)) ha).imp fun D σ H h => ?_
  obtain ⟨r, ρ, s, m, q⟩ := h
  unfold bIxAug at q
  refine rdE.go m (fun x s1 e1 r1 H1 v1 p1 l1 m1 => ?_) (fun c s1 e1 r1 H1 p1 => ?_) (fun e1 => ?_)
  · rw [e1] at q
    simp only [Out.bindS] at q
    refine rdE.go m1 (fun y s2 e2 r2 H2 v2 p2 l2 m2 => ?_) (fun c s2 e2 r2 H2 p2 => ?_) (fun e2 => ?_)
    · simp only [e2] at q
      cases e3 : ixMV x y s2 with
      | ok w s3 =>
        have z := ixMV_s e3
        subst z
        refine ⟨r2, s3, x, y, w, m2.mt, l1.kp p2.kp, l2, e3, fun v3 l3 => ?_⟩
        rw [e3] at q
        simp only at q
        refine rdE.go m2 (fun u s4 e4 r4 H4 v4 p4 l4 m4 => ?_) (fun c s4 e4 r4 H4 p4 => ?_) (fun e4 => ?_)
        · simp only [e4] at q
          refine ⟨r4, s4, w, u, m4.mt, l3.kp p4.kp, l4, ?_⟩
          cases e5 : g w u s4 with
          | ok z s5 =>
            rw [e5] at q
            refine fun r5 H5 v5 p5 l5 => ?_
            simp only at q
            cases e6 : setV x y z s5 with
            | none => rw [e6] at q; exact False.elim q
            | some s6 =>
              rw [e6] at q
              exact ⟨r5, s5, x, y, z, s6, p5.mt, ((l1.kp p2.kp).kp p4.kp).kp p5.kp, (l2.kp p4.kp).kp p5.kp, l5, e6, fun H6 y6 => q r5 σ H6 ((((p1.trans p2).trans p4).trans p5).trans y6) (((m4.step p5)).step y6)⟩
          | ex c s5 => rw [e5] at q; exact fun r5 H5 p5 => q r5 H5 (((p1.trans p2).trans p4).trans p5)
          | bad => rw [e5] at q; exact q
        · simp only [e4] at q; exact q r4 H4 ((p1.trans p2).trans p4)
        · simp only [e4] at q; exact q
      | ex c s3 => exact absurd e3 ixMV_ex
      | bad => rw [e3] at q; exact False.elim q
    · simp only [e2] at q; exact q r2 H2 (p1.trans p2)
    · simp only [e2] at q; exact q
  · rw [e1] at q; exact q r1 H1 p1
  · rw [e1] at q; exact q
theorem st_del {o i : Expr} {mo mi : E} {tpos : Pos} (ho : RE T X o mo) (hi : RE T X i mi) : RS_ T X (.Delete [.Subscript o i tpos] pos) (bDel mo mi) := fun Wx tk => by
  refine (ps_ddel (ho Wx tk) (hi Wx tk)).imp fun D σ H h => ?_
  obtain ⟨r, ρ, s, m, q⟩ := h
  unfold bDel at q
  refine rdE.go m (fun x s1 e1 r1 H1 v1 p1 l1 m1 => ?_) (fun c s1 e1 r1 H1 p1 => ?_) (fun e1 => ?_)
  · rw [e1] at q
    simp only [Out.bindS] at q
    refine rdE.go m1 (fun y s2 e2 r2 H2 v2 p2 l2 m2 => ?_) (fun c s2 e2 r2 H2 p2 => ?_) (fun e2 => ?_)
    · simp only [e2] at q
      cases x <;> first | exact False.elim q | skip
      rename_i a
      obtain ⟨ha, rfl⟩ := rRef (l1.kp p2.kp)
      simp only [delV] at q
      by_cases hn : a ∈ s2.lk
      · rw [if_pos hn] at q; exact False.elim q
      · rw [if_neg hn] at q
        cases el : s2.at_ a with
        | none => rw [el] at q; exact False.elim q
        | some o₁ =>
          rw [el] at q
          cases o₁ <;> first | exact False.elim q | skip
          rename_i l
          simp only at q
          by_cases hk : isKey y = true ∧ dhas l y = true
          · rw [if_pos hk] at q
            obtain ⟨k, rfl⟩ := isKey_ex hk.1
            obtain rfl := relW_key l2
            obtain ⟨_, kvs, _, h1, _, lr⟩ := m2.mt.dct el
            have h1 := h1 hn
            have st := m2.mt.putD el hn h1 (lr.drop k)
            exact ⟨_, kvs, k, rfl, h1, rfl, by rw [← lr.has k]; exact hk.2, q r2 σ _ ((p1.trans p2).trans st) (m2.step st)⟩
          · rw [if_neg hk] at q; exact False.elim q
    · simp only [e2] at q; exact q r2 H2 (p1.trans p2)
    · simp only [e2] at q; exact q
  · rw [e1] at q; exact q r1 H1 p1
  · rw [e1] at q; exact q
end
end RS
set_option Elab.async false
set_option linter.all false
set_option maxRecDepth 100000
set_option autoImplicit false
/-! RS.C7: while, for, locks. -/
namespace RS
open PySem PySem.Spec PyProof.Rows L2

/-! ### while -/
def wLoop (t : RS.T) (b : B) : Nat → B
  | 0 => fun _ _ => .bad
  | n + 1 => fun ρ s => (t ρ s).bindS fun c s1 => if c = true then match b ρ s1 with
    | .nx ρ' s' => wLoop t b n ρ' s'
    | .ct ρ' s' => wLoop t b n ρ' s'
    | .bk ρ' s' => .nx ρ' s'
    | o => o
    else .nx ρ s1
def bWhile (f : Nat) (t : RS.T) (b : B) : B := wLoop t b f
section
variable {T : List NdefX.NTab} {X : Cx} {pos : Pos}
theorem st_while {c : Expr} {body : List Stmt} {t : RS.T} {b : B} {f : Nat} (hp : PassesOwn (model X.prog X.w) X.A X.env X.xe) (hc : RT T X c t) (hb : RSs T X body b) : RS_ T X (.While c body [] pos) (bWhile f t b) := fun Wx tk => by
  refine (ps_while hp (hc Wx tk) (hb Wx tk)).imp fun D σ H h => ?_
  obtain ⟨r, ρ, s, m, q⟩ := h
  refine ⟨fun n σ H => ∃ r ρ s, MtE T X r ρ s σ H ∧ PostS T X r s H (wLoop t b n ρ s) D Wx, ⟨f, r, ρ, s, m, q⟩, ?_⟩
  rintro n σ H ⟨r, ρ, s, m, q⟩
  cases n with
  | zero => exact False.elim q
  | succ n =>
    unfold wLoop at q
    refine rdT.go m (fun x s1 e1 r1 H1 p1 m1 => ?_) (fun c s1 e1 r1 H1 p1 => ?_) (fun e1 => ?_)
    · rw [e1] at q
      cases x with
      | true =>
        rw [if_pos rfl]
        simp only [Out.bindS, if_true] at q
        refine ⟨fun σ' H' => ∃ r ρ s, MtE T X r ρ s σ' H' ∧ PostS T X r s H' (wLoop t b n ρ s) D Wx, fun σ' H' z => ⟨n, Nat.lt_succ_self n, z⟩, r1, ρ, s1, m1, ?_⟩
        cases e2 : b ρ s1 with
        | nx ρ2 s2 => rw [e2] at q; exact fun r2 σ2 H2 p2 m2 => ⟨r2, ρ2, s2, m2, PostS.shift q (p1.trans p2)⟩
        | ct ρ2 s2 => rw [e2] at q; exact fun r2 σ2 H2 p2 m2 => ⟨r2, ρ2, s2, m2, PostS.shift q (p1.trans p2)⟩
        | bk ρ2 s2 => rw [e2] at q; exact fun r2 σ2 H2 p2 m2 => q r2 σ2 H2 (p1.trans p2) m2
        | rt w s2 => rw [e2] at q; exact PostS.shift (o := .rt w s2) q p1
        | ex c s2 => rw [e2] at q; exact PostS.shift (D := D) (o := .ex c s2) q p1
        | bad => rw [e2] at q; exact q
      | false =>
        rw [if_neg Bool.false_ne_true]
        exact q r1 σ H1 p1 m1
    · rw [e1] at q; exact q r1 H1 p1
    · rw [e1] at q; exact q
end

/-! ### what is walked -/
structure PIt where
  at' : Nat → S → Option (Option W)
  n : Nat
abbrev It' := Env → M PIt
def itS (l : List W) : PIt := ⟨fun i _ => some l[i]?, l.length⟩
def itL (a n : Nat) : PIt := ⟨fun i s => match s.at_ a with
  | some (.lst l) => some l[i]?
  | _ => none, n⟩
def itK (a n : Nat) : PIt := ⟨fun i s => if a ∈ s.lk then match s.at_ a with
  | some (.dct l) => some (l[i]?.map (·.1))
  | some (.dtt l) => some (l[i]?.map fun p => .tup p.1)
  | _ => none else none, n⟩
def itV (a n : Nat) : PIt := ⟨fun i s => if a ∈ s.lk then match s.at_ a with
  | some (.dct l) => some (l[i]?.map (·.2))
  | _ => none else none, n⟩
def itI (a n : Nat) : PIt := ⟨fun i s => if a ∈ s.lk then match s.at_ a with
  | some (.dct l) => some (l[i]?.map fun p => .tup [p.1, p.2])
  | _ => none else none, n⟩
def itR (lo c : Int) (n : Nat) : PIt := ⟨fun i _ => some (if i < n then some (.int (lo + (i : Nat) * c)) else none), n⟩
/-- enumerate, zip of lists -/
def itEn (a n : Nat) : PIt := ⟨fun i s => match s.at_ a with
  | some (.lst l) => some (l[i]?.map fun w => .tup [.int (i : Nat), w])
  | _ => none, n⟩
def zipO : Option W → Option W → Option W
  | some x, some y => some (.tup [x, y])
  | _, _ => none
def itZL (a b n : Nat) : PIt := ⟨fun i s => match s.at_ a, s.at_ b with
  | some (.lst l), some (.lst m) => some (zipO l[i]? m[i]?)
  | _, _ => none, n⟩
def itZT (l m : List W) : PIt := ⟨fun i s => some (zipO l[i]? m[i]?), l.length⟩

def fLoop (p : PIt) (g : G) (b : B) : Nat → Nat → B
  | 0, _ => fun _ _ => .bad
  | f + 1, i => fun ρ s => match p.at' i s with
    | some none => .nx ρ s
    | some (some w) => (g w ρ s).g.then fun ρ1 s1 => match b ρ1 s1 with
      | .nx ρ' s' => fLoop p g b f (i + 1) ρ' s'
      | .ct ρ' s' => fLoop p g b f (i + 1) ρ' s'
      | .bk ρ' s' => .nx ρ' s'
      | o => o
    | none => .bad
def bFor (m : It') (g : G) (b : B) : B := fun ρ s => (m ρ s).bindS fun p s1 => fLoop p g b (p.n + 1) 0 ρ s1

section
variable (T : List NdefX.NTab) (K : PySem.W.Frag) (mg : Str → Option Value)
def ItRel (r0 : Rm) (s0 : S) (H0 : Hp) (p : PIt) (J : It) : Prop := ∀ i r s H, Stp T K mg r0 s0 H0 r s H →
  (∀ w, p.at' i s = some (some w) → J.go i H ∧ ∀ x H', J.yld i H x H' → ∃ r', Stp T K mg r s H r' s H' ∧ RelW K r' s.nx H' w x) ∧ (p.at' i s = some none → J.stop i H)
def PostI (r : Rm) (s : S) (H : Hp) (o : Out PIt) (R : It → Hp → Prop) (Wx : Wish) : Prop := match o with
  | .ok p s' => ∀ r' H' J, Stp T K mg r s H r' s' H' → ItRel T K mg r' s' H' p J → R J H'
  | .ex c s' => ∀ r' H', Stp T K mg r s H r' s' H' → Wx c H'
  | .bad => False
end
section
variable (T : List NdefX.NTab) (X : Cx)
def rdI (m : It') (Wx : Wish) : TI := fun σ H R => ∃ r ρ s, MtE T X r ρ s σ H ∧ PostI T X.K X.mg r s H (m ρ s) R Wx
def RI (tg iter : Expr) (m : It') : Prop := ∀ Wx, Tk X Wx → PI X tg iter (rdI T X m Wx)
end
theorem _root_.L2.PI.imp {X : Cx} {tg e : Expr} {t t' : TI} (h : PI X tg e t) (i : ∀ σ H Q, t' σ H Q → t σ H Q) : PI X tg e t' := ⟨fun pins s σ H Q I q => h.run pins s σ H Q I (i σ H Q q)⟩
section
variable {T : List NdefX.NTab} {X : Cx} {pos : Pos}
theorem st_for {tg iter : Expr} {body : List Stmt} {m : It'} {g : G} {b : B} (hp : PassesOwn (model X.prog X.w) X.A X.env X.xe) (hc : X.calm = true) (hi : RI T X tg iter m) (hg : RG T X tg g) (hb : RSs T X body b)
    (hs : ∀ x, foldedSetIterable iter X.env x = pure x := by intro _; rfl) : RS_ T X (.For tg iter body [] pos) (bFor m g b) := fun Wx tk => by
  refine (ps_for hp hc (hi Wx tk) (hg Wx tk) (hb Wx tk) hs).imp fun D σ H h => ?_
  obtain ⟨r, ρ, s, mm, q⟩ := h
  unfold bFor at q
  refine ⟨r, ρ, s, mm, ?_⟩
  cases e : m ρ s with
  | ex c s1 => rw [e] at q; exact fun r' H' x => q r' H' x
  | bad => rw [e] at q; exact q
  | ok p s1 =>
    rw [e] at q
    have q : PostS T X r s H (fLoop p g b (p.n + 1) 0 ρ s1) D Wx := q
    intro r1 H1 J st rel
    refine ⟨fun i n σ H => ∃ r ρ s, Stp T X.K X.mg r1 s1 H1 r s H ∧ MtE T X r ρ s σ H ∧ PostS T X r s H (fLoop p g b n i ρ s) D Wx, ⟨p.n + 1, r1, ρ, s1, .refl st.mt, mm.step st, PostS.shift q st⟩, ?_⟩
    clear q
    rintro i n σ H ⟨r, ρ, s, st, mm, q⟩
    cases n with
    | zero => exact False.elim q
    | succ n =>
      unfold fLoop at q
      obtain ⟨ry, rs⟩ := rel i r s H st
      cases e : p.at' i s with
      | none => rw [e] at q; exact False.elim q
      | some o =>
        rw [e] at q
        cases o with
        | none => exact .inl ⟨rs e, q r σ H (.refl mm.mt) mm⟩
        | some w =>
          obtain ⟨go, yl⟩ := ry w e
          refine .inr ⟨go, fun σ' H' => ∃ r ρ s, Stp T X.K X.mg r1 s1 H1 r s H' ∧ MtE T X r ρ s σ' H' ∧ PostS T X r s H' (fLoop p g b n (i + 1) ρ s) D Wx, fun σ' H' z => ⟨n, Nat.lt_succ_self n, z⟩, fun x H' y => ?_⟩
          obtain ⟨r', sy, rl⟩ := yl x H' y
          refine ⟨r', ρ, s, w, mm.step sy, rl, ?_⟩
          simp only at q
          cases e2 : g w ρ s with
          | nx ρ2 s2 =>
            rw [e2] at q
            refine fun r2 σ2 H2 p2 m2 => ⟨r2, ρ2, s2, m2, ?_⟩
            simp only [OutS.then, OutS.g] at q
            cases e3 : b ρ2 s2 with
            | nx ρ3 s3 => rw [e3] at q; exact fun r3 σ3 H3 p3 m3 => ⟨r3, ρ3, s3, st.trans (sy.trans (p2.trans p3)), m3, PostS.shift q (sy.trans (p2.trans p3))⟩
            | ct ρ3 s3 => rw [e3] at q; exact fun r3 σ3 H3 p3 m3 => ⟨r3, ρ3, s3, st.trans (sy.trans (p2.trans p3)), m3, PostS.shift q (sy.trans (p2.trans p3))⟩
            | bk ρ3 s3 => rw [e3] at q; exact fun r3 σ3 H3 p3 m3 => q r3 σ3 H3 (sy.trans (p2.trans p3)) m3
            | rt u s3 => rw [e3] at q; exact fun r3 H3 v p3 l3 => q r3 H3 v (sy.trans (p2.trans p3)) l3
            | ex c s3 => rw [e3] at q; exact fun r3 H3 p3 => q r3 H3 (sy.trans (p2.trans p3))
            | bad => rw [e3] at q; exact q
          | ex c s2 => rw [e2] at q; exact fun r2 H2 p2 => q r2 H2 (sy.trans p2)
          | bad => rw [e2] at q; exact q
          | _ => rw [e2] at q; exact q
end
end RS
set_option Elab.async false
set_option linter.all false
set_option maxRecDepth 100000
set_option autoImplicit false
/-! RS.C8: locks. -/
namespace RS
open PySem PySem.Spec PyProof.Rows L2

def S.lock (s : S) (a : Nat) : S := { s with lk := a :: s.lk }
def S.unlk (s : S) (l : List Nat) : S := { s with lk := l }
def Out.unlk {α : Type} (l : List Nat) : Out α → Out α
  | .ok a s => .ok a (s.unlk l)
  | .ex c s => .ex c (s.unlk l)
  | .bad => .bad
def OutS.unlk (l : List Nat) : OutS → OutS
  | .nx ρ s => .nx ρ (s.unlk l)
  | .bk ρ s => .bk ρ (s.unlk l)
  | .ct ρ s => .ct ρ (s.unlk l)
  | .rt ρ s => .rt ρ (s.unlk l)
  | .ex c s => .ex c (s.unlk l)
  | .bad => .bad
/-- the dict that e comes to, if it is there and free -/
def lkOf (e : E) (ρ : Env) (s : S) : Option Nat := match e ρ s with
  | .ok (.ref a) _ => if a ∈ s.lk then none else match s.at_ a with
    | some (.dct _) => some a
    | some (.dtt _) => some a
    | _ => none
  | _ => none
def bLk (e : E) (b : B) : B := fun ρ s => match lkOf e ρ s with
  | some a => (b ρ (s.lock a)).unlk s.lk
  | none => b ρ s
def eLk {α : Type} (e : E) (b : Env → M α) : Env → M α := fun ρ s => match lkOf e ρ s with
  | some a => (b ρ (s.lock a)).unlk s.lk
  | none => b ρ s

theorem lkOf_some {e : E} {ρ : Env} {s : S} {a : Nat} (h : lkOf e ρ s = some a) : a ∉ s.lk ∧ ((∃ l, s.at_ a = some (.dct l)) ∨ ∃ l, s.at_ a = some (.dtt l)) := by
  unfold lkOf at h
  split at h
  · split at h
    · cases h
    · rename_i hn
      split at h
      · rename_i el; cases h; exact ⟨hn, .inl ⟨_, el⟩⟩
      · rename_i el; cases h; exact ⟨hn, .inr ⟨_, el⟩⟩
      · cases h
  · cases h

section
variable {T : List NdefX.NTab} {K : PySem.W.Frag} {mg : Str → Option Value} {r r' : Rm} {s s' : S} {H H' : Hp} {a : Nat} {u : HO} {od : Obj}
/-- what a locked thing is -/
structure Lk1 (s : S) (H : Hp) (r : Rm) (a : Nat) (u : HO) : Prop where
  fr : a ∉ s.lk
  at' : H (r a) = some u
  dd : (∃ l kvs, s.at_ a = some (.dct l) ∧ u = .dK kvs) ∨ ∃ l kvs, s.at_ a = some (.dtt l) ∧ u = .dT kvs
theorem Lk1.of (m : Mt T K mg r s H) (h : a ∉ s.lk ∧ ((∃ l, s.at_ a = some (.dct l)) ∨ ∃ l, s.at_ a = some (.dtt l))) : ∃ u, Lk1 s H r a u := by
  obtain ⟨hn, ⟨l, e⟩ | ⟨l, e⟩⟩ := h
  · obtain ⟨_, ho, h2, kvs, hl, q⟩ := m.ob a _ e
    exact ⟨_, hn, by rw [h2, hl.2 hn], .inl ⟨l, kvs, e, rfl⟩⟩
  · obtain ⟨_, ho, h2, kvs, hl, q⟩ := m.ob a _ e
    exact ⟨_, hn, by rw [h2, hl.2 hn], .inr ⟨l, kvs, e, rfl⟩⟩
theorem Lk1.mut (k : Lk1 s H r a u) : Mut (some u) := by
  rcases k.dd with ⟨_, _, _, e⟩ | ⟨_, _, _, e⟩ <;> rw [e] <;> trivial
theorem Lk1.notup (k : Lk1 s H r a u) : (∀ xs, u ≠ .tup xs) ∧ (∀ ps, u ≠ .tbl ps) ∧ (∀ φ, u ≠ .ext φ) ∧ ∀ o v, u ≠ .frz o v := by
  rcases k.dd with ⟨_, _, _, e⟩ | ⟨_, _, _, e⟩ <;> rw [e] <;> exact ⟨(fun _ z => nomatch z), (fun _ z => nomatch z), (fun _ z => nomatch z), fun _ _ z => nomatch z⟩
theorem lock_kp (m : Mt T K mg r s H) (k : Lk1 s H r a u) : Kp r s.nx H r s.nx (upd H (r a) (.frz od u)) := ⟨Nat.le_refl _, fun _ _ => rfl, fun p xs h => by
  rw [upd_ne fun e => ?_]; exact h
  rw [e, k.at'] at h
  exact k.notup.1 xs (Option.some.inj h), fun _ f => f, fun p o f h => by
  have hlt : a < s.nx := by
    rcases k.dd with ⟨_, _, e, _⟩ | ⟨_, _, e, _⟩ <;> exact (m.ob a _ e).1
  rw [upd_ne (Ne.symm ((m.fr p f).1 a hlt))]; exact h⟩
theorem Mt.lock (m : Mt T K mg r s H) (k : Lk1 s H r a u) : Mt T K mg r (s.lock a) (upd H (r a) (.frz od u)) := by
  have hlt : a < s.nx := by
    rcases k.dd with ⟨_, _, e, _⟩ | ⟨_, _, e, _⟩ <;> exact (m.ob a _ e).1
  refine ⟨m.inj, fun b o h => ?_, fun b hb => ?_, fun p hp => ?_, fun b hb => ?_, fun q f => ⟨(m.fr q f).1, (m.fr q f).2.elim fun o e => ⟨o, (lock_kp (od := od) m k).lst q o f e.1, e.2⟩⟩⟩
  · have h : s.at_ b = some o := h
    obtain ⟨g1, ho, g2, g3⟩ := m.ob b o h
    have g3 := g3.kp (lock_kp (od := od) m k)
    by_cases hb : b = a
    · subst hb
      rw [k.at'] at g2
      cases g2
      refine ⟨g1, _, upd_same, ?_⟩
      rcases k.dd with ⟨l, kvs, e, e2⟩ | ⟨l, kvs, e, e2⟩
      · replace h : s.at_ b = some o := h
        rw [e] at h; cases h
        obtain ⟨kvs', hl, q⟩ := g3
        exact ⟨kvs', ⟨fun _ => ⟨od, by rw [hl.2 k.fr]⟩, fun z => absurd (List.mem_cons_self ..) z⟩, q⟩
      · replace h : s.at_ b = some o := h
        rw [e] at h; cases h
        obtain ⟨kvs', hl, q⟩ := g3
        exact ⟨kvs', ⟨fun _ => ⟨od, by rw [hl.2 k.fr]⟩, fun z => absurd (List.mem_cons_self ..) z⟩, q⟩
    · refine ⟨g1, ho, by rw [upd_ne fun e => hb (m.inj b a g1 hlt e)]; exact g2, ?_⟩
      have hiff : b ∈ (s.lock a).lk ↔ b ∈ s.lk := by
        show b ∈ a :: s.lk ↔ _
        simp [hb]
      cases o with
      | lst l => exact g3
      | ins c fs => exact g3
      | dct l => obtain ⟨kvs, hl, q⟩ := g3; exact ⟨kvs, ⟨fun z => hl.1 (hiff.mp z), fun z => hl.2 fun y => z (hiff.mpr y)⟩, q⟩
      | dtt l => obtain ⟨kvs, hl, q⟩ := g3; exact ⟨kvs, ⟨fun z => hl.1 (hiff.mp z), fun z => hl.2 fun y => z (hiff.mpr y)⟩, q⟩
  · obtain ⟨ho, g, g'⟩ := m.dom b hb
    by_cases e : r b = r a
    · exact ⟨.frz od u, by rw [e, upd_same], fun _ z => nomatch z⟩
    · exact ⟨ho, by rw [upd_ne e]; exact g, g'⟩
  · obtain ⟨ps, e1, e2, e3⟩ := m.tab p hp
    refine ⟨ps, by rw [upd_ne (fun e => by rw [e, k.at'] at e1; exact k.notup.2.1 ps (Option.some.inj e1))]; exact e1, e2, fun pos cv hc => ?_⟩
    obtain ⟨c, z1, z2⟩ := e3 pos cv hc
    refine ⟨c, z1, ?_⟩
    rw [upd_ne fun e => ?_]; exact z2
    rw [e, k.at'] at z2
    exact k.notup.2.2.1 _ (Option.some.inj z2)
  · rcases List.mem_cons.mp hb with e | e
    · rw [e]; exact hlt
    · exact m.lkb b e
/-- behind: the lock is taken off -/
theorem Stp.unlock (m : Mt T K mg r s H) (k : Lk1 s H r a u) (x : Stp T K mg r (s.lock a) (upd H (r a) (.frz od u)) r' s' H') :
    H' (r a) = some (.frz od u) ∧ Stp T K mg r s H r' (s'.unlk s.lk) (upd H' (r a) u) ∧ ∀ {w : W} {v : V}, RelW K r' s'.nx H' w v → RelW K r' s'.nx (upd H' (r a) u) w v := by
  have hlt : a < s.nx := by
    rcases k.dd with ⟨_, _, e, _⟩ | ⟨_, _, e, _⟩ <;> exact (m.ob a _ e).1
  obtain ⟨_, hfz⟩ := x.lkh a (List.mem_cons_self ..)
  rw [upd_same] at hfz
  have ra : r' a = r a := x.kp.eq a hlt
  have lt' : a < s'.nx := Nat.lt_of_lt_of_le hlt x.kp.le
  have kp2 : Kp r' s'.nx H' r' s'.nx (upd H' (r a) u) := ⟨Nat.le_refl _, fun _ _ => rfl, fun p xs h => (by
    rw [upd_ne fun e => ?_]; exact h
    rw [e, hfz] at h; cases h), fun _ f => f, fun p o f h => by
    rw [upd_ne fun e => (x.mt.fr p f).1 a lt' (ra.trans e.symm)]; exact h⟩
  have at_ : s'.at_ a = s.at_ a := x.lkd a (List.mem_cons_self ..)
  have lks : s'.lk = a :: s.lk := x.lk
  refine ⟨hfz, ⟨⟨x.kp.le, x.kp.eq, fun p xs h => ?_, x.kp.fz, fun p xs f h => kp2.lst p xs (x.kp.fz p f) (x.kp.lst p xs f ((lock_kp (od := od) m k).lst p xs f h))⟩, ⟨x.mt.inj, fun b o h => ?_, fun b hb => ?_, fun p hp => ?_, fun b hb => x.mt.lkb b (by rw [lks]; exact List.mem_cons_of_mem _ hb), fun q f => ⟨(x.mt.fr q f).1, (x.mt.fr q f).2.elim fun o e => ⟨o, kp2.lst q o f e.1, e.2⟩⟩⟩, rfl, fun b hb => x.lkd b (List.mem_cons_of_mem _ hb), fun b hb => ?_, fun p o h n t => ?_, fun p ps h => ?_, fun b h1 h2 => ?_, fun p f => (x.fn p f).imp_right fun z => by
    by_cases e : p = r a
    · rw [e, upd_same] at z; cases z
    · rw [upd_ne e] at z; exact z⟩, fun q => q.kp kp2⟩
  · exact kp2.tup p xs (x.kp.tup p xs ((lock_kp (od := od) m k).tup p xs h))
  · have h : s'.at_ b = some o := h
    obtain ⟨g1, ho, g2, g3⟩ := x.mt.ob b o h
    have g3 := g3.kp kp2
    by_cases hb : b = a
    · subst hb
      rw [ra, hfz] at g2
      cases g2
      refine ⟨g1, u, by rw [ra, upd_same], ?_⟩
      have hin : b ∈ s'.lk := by rw [lks]; exact List.mem_cons_self ..
      have hout : b ∉ (s'.unlk s.lk).lk := k.fr
      rw [at_] at h
      rcases k.dd with ⟨l, kvs, e, e2⟩ | ⟨l, kvs, e, e2⟩
      · rw [e] at h; cases h
        obtain ⟨kvs', hl, q⟩ := g3
        obtain ⟨od', z⟩ := hl.1 hin
        cases z
        exact ⟨kvs', ⟨fun z => absurd z hout, fun _ => rfl⟩, q⟩
      · rw [e] at h; cases h
        obtain ⟨kvs', hl, q⟩ := g3
        obtain ⟨od', z⟩ := hl.1 hin
        cases z
        exact ⟨kvs', ⟨fun z => absurd z hout, fun _ => rfl⟩, q⟩
    · refine ⟨g1, ho, by rw [upd_ne fun e => hb (x.mt.inj b a g1 lt' (e.trans ra.symm))]; exact g2, ?_⟩
      have hiff : b ∈ (s'.unlk s.lk).lk ↔ b ∈ s'.lk := by
        rw [lks]
        show b ∈ s.lk ↔ _
        simp [hb]
      cases o with
      | lst l => exact g3
      | ins c fs => exact g3
      | dct l => obtain ⟨kvs, hl, q⟩ := g3; exact ⟨kvs, ⟨fun z => hl.1 (hiff.mp z), fun z => hl.2 fun y => z (hiff.mpr y)⟩, q⟩
      | dtt l => obtain ⟨kvs, hl, q⟩ := g3; exact ⟨kvs, ⟨fun z => hl.1 (hiff.mp z), fun z => hl.2 fun y => z (hiff.mpr y)⟩, q⟩
  · obtain ⟨ho, g, g'⟩ := x.mt.dom b hb
    by_cases e : r' b = r a
    · exact ⟨_, by rw [e, upd_same], k.notup.2.1⟩
    · exact ⟨ho, by rw [upd_ne e]; exact g, g'⟩
  · obtain ⟨ps, e1, e2, e3⟩ := x.mt.tab p hp
    refine ⟨ps, by rw [upd_ne (fun e => by rw [e, hfz] at e1; cases e1)]; exact e1, e2, fun pos cv hc => ?_⟩
    obtain ⟨c, z1, z2⟩ := e3 pos cv hc
    refine ⟨c, z1, ?_⟩
    rw [upd_ne fun e => ?_]; exact z2
    rw [e, hfz] at z2
    cases z2
  · have ne : r b ≠ r a := fun e => k.fr (by rw [← m.inj b a (m.lkb b hb) hlt e]; exact hb)
    obtain ⟨_, q⟩ := x.lkh b (List.mem_cons_of_mem _ hb)
    rw [upd_ne ne] at q
    exact ⟨m.lkb b hb, by rw [upd_ne ne]; exact q⟩
  · have ne : p ≠ r a := fun e => n a hlt e.symm
    rw [upd_ne ne]
    exact x.frm p o (by rw [upd_ne ne]; exact h) n t
  · have ne : p ≠ r a := fun e => by rw [e, k.at'] at h; exact k.notup.2.1 ps (Option.some.inj h)
    rw [upd_ne ne]
    exact x.tbl p ps (by rw [upd_ne ne]; exact h)
  · have q := x.fre b h1 h2
    by_cases e : r' b = r a
    · rw [e, upd_same] at q; cases q
    · rw [upd_ne e] at q; exact q
end

section
variable {T : List NdefX.NTab} {X : Cx} {pos : Pos}
/-- the wish while d is locked -/
def lkW (d : Addr) (od : Obj) (u : HO) (Wx : Wish) : Wish := fun c H => H d = some (.frz od u) ∧ Wx c (upd H d u)
theorem Tk.lock {Wx : Wish} (tk : Tk X Wx) {d : Addr} {od : Obj} {u : HO} (hn : ∀ o' u', X.H_0 d ≠ some (.frz o' u')) : Tk X (lkW d od u Wx) := fun uv s' x => by
  obtain ⟨a, B, sI, pins, σ, H, cls, dd, L, e1, e2, I, e3, e4, e5, e6, e7, e8, d0, c, C, e9, e10, e11, e12⟩ := x
  refine tk uv s' ⟨a, B, sI, pins, σ, _, cls, dd, L, e1, e2, I.unlock e11 hn, e3, e4, e5, ?_, e7, e8, d0, c, C, e9, e10, e12⟩
  rw [upd_ne (fun e => by rw [e, e11] at e6; cases e6)]; exact e6
theorem MtE.unlk {r : Rm} {ρ : Env} {s : S} {l : List Nat} {σ : L2.St} {H H' : Hp} {p : Addr} {u : HO} (m : MtE T X r ρ s σ H) (m2 : Mt T X.K X.mg r (s.unlk l) H') (k : ∀ {w : W} {v : V}, RelW X.K r s.nx H w v → RelW X.K r s.nx H' w v) : MtE T X r ρ (s.unlk l) σ H' :=
  ⟨m2, m.len, fun i w e => let ⟨v, e1, q⟩ := m.env i w e; ⟨v, e1, k q⟩⟩
theorem MtE.lock {r : Rm} {ρ : Env} {s : S} {σ : L2.St} {H : Hp} {a : Nat} {u : HO} {od : Obj} (m : MtE T X r ρ s σ H) (k : Lk1 s H r a u) : MtE T X r ρ (s.lock a) σ (upd H (r a) (.frz od u)) :=
  ⟨m.mt.lock k, m.len, fun i w e => let ⟨v, e1, q⟩ := m.env i w e; ⟨v, e1, q.kp (lock_kp m.mt k)⟩⟩
theorem st_lk {st : Stmt} {e : E} {b : B} (h : RS_ T X st b) : RS_ T X st (bLk e b) := fun Wx tk => ⟨fun pins s σ H D I hw => by
  obtain ⟨r, ρ, S, m, q⟩ := hw
  unfold bLk at q
  cases el : lkOf e ρ S with
  | none => rw [el] at q; exact (h Wx tk).run pins s σ H D I ⟨r, ρ, S, m, q⟩
  | some a =>
    rw [el] at q
    obtain ⟨u, k⟩ := Lk1.of m.mt (lkOf_some el)
    obtain ⟨od, I1⟩ := I.lock k.at' k.mut
    have hn := I.nofrz k.at' k.mut
    refine thn ((h (lkW (r a) od u Wx) (tk.lock hn)).run pins s σ _ ⟨fun σ' H' => H' (r a) = some (.frz od u) ∧ D.nx σ' (upd H' (r a) u), fun v H' => H' (r a) = some (.frz od u) ∧ D.rt v (upd H' (r a) u), fun σ' H' => H' (r a) = some (.frz od u) ∧ D.bk σ' (upd H' (r a) u), fun σ' H' => H' (r a) = some (.frz od u) ∧ D.ct σ' (upd H' (r a) u)⟩ I1 ⟨r, ρ, S.lock a, m.lock k, ?_⟩) fun f s1 q => ?_
    · simp only at q
      cases e1 : b ρ (S.lock a) with
      | nx ρ1 s1 => rw [e1] at q; exact fun r1 σ1 H1 x m1 => let ⟨z1, z2, z3⟩ := Stp.unlock m.mt k x; ⟨z1, q r1 σ1 _ z2 (MtE.unlk (p := r a) (u := u) m1 z2.mt z3)⟩
      | bk ρ1 s1 => rw [e1] at q; exact fun r1 σ1 H1 x m1 => let ⟨z1, z2, z3⟩ := Stp.unlock m.mt k x; ⟨z1, q r1 σ1 _ z2 (MtE.unlk (p := r a) (u := u) m1 z2.mt z3)⟩
      | ct ρ1 s1 => rw [e1] at q; exact fun r1 σ1 H1 x m1 => let ⟨z1, z2, z3⟩ := Stp.unlock m.mt k x; ⟨z1, q r1 σ1 _ z2 (MtE.unlk (p := r a) (u := u) m1 z2.mt z3)⟩
      | rt w s1 => rw [e1] at q; exact fun r1 H1 v x l1 => let ⟨z1, z2, z3⟩ := Stp.unlock m.mt k x; ⟨z1, q r1 _ v z2 (z3 l1)⟩
      | ex c s1 => rw [e1] at q; exact fun r1 H1 x => let ⟨z1, z2, z3⟩ := Stp.unlock m.mt k x; ⟨z1, q r1 _ z2⟩
      | bad => rw [e1] at q; exact q
    · cases f with
      | next => obtain ⟨σ', H', I2, e, q⟩ := q; exact ⟨σ', _, I2.unlock e hn, q⟩
      | brk => obtain ⟨σ', H', I2, e, q⟩ := q; exact ⟨σ', _, I2.unlock e hn, q⟩
      | cont => obtain ⟨σ', H', I2, e, q⟩ := q; exact ⟨σ', _, I2.unlock e hn, q⟩
      | ret v => obtain ⟨x, σ', H', I2, r, e, q⟩ := q; exact ⟨x, σ', _, I2.unlock e hn, r, q⟩⟩
theorem rs_lk {ex : Expr} {e m : E} (h : RE T X ex m) : RE T X ex (eLk e m) := fun Wx tk => ⟨fun pins s σ H Q I hw => by
  obtain ⟨r, ρ, S, mm, q⟩ := hw
  unfold eLk at q
  cases el : lkOf e ρ S with
  | none => rw [el] at q; exact (h Wx tk).run pins s σ H Q I ⟨r, ρ, S, mm, q⟩
  | some a =>
    rw [el] at q
    obtain ⟨u, k⟩ := Lk1.of mm.mt (lkOf_some el)
    obtain ⟨od, I1⟩ := I.lock k.at' k.mut
    have hn := I.nofrz k.at' k.mut
    refine thn ((h (lkW (r a) od u Wx) (tk.lock hn)).run pins s σ _ (fun v H' => H' (r a) = some (.frz od u) ∧ Q v (upd H' (r a) u)) I1 ⟨r, ρ, S.lock a, mm.lock k, ?_⟩) fun v s1 q => ?_
    · simp only at q
      cases e1 : m ρ (S.lock a) with
      | ok w s1 => rw [e1] at q; exact fun r1 H1 v x l1 => let ⟨z1, z2, z3⟩ := Stp.unlock mm.mt k x; ⟨z1, q r1 _ v z2 (z3 l1)⟩
      | ex c s1 => rw [e1] at q; exact fun r1 H1 x => let ⟨z1, z2, z3⟩ := Stp.unlock mm.mt k x; ⟨z1, q r1 _ z2⟩
      | bad => rw [e1] at q; exact q
    · obtain ⟨x, H1, I2, r2, e2, q⟩ := q
      exact ⟨x, _, I2.unlock e2 hn, r2, q⟩⟩
end
end RS
set_option Elab.async false
set_option linter.all false
set_option maxRecDepth 100000
set_option autoImplicit false
/-! RS.C9: what is walked. -/
namespace RS
open PySem PySem.Spec PyProof.Rows L2

/-- one character each -/
def chrs (x : Str) : List W := x.cps.toList.map fun c => .str ⟨#[c]⟩
def iE (m : E) : It' := fun ρ s => (m ρ s).bind fun w s1 => match w with
  | .tup l => .ok (itS l) s1
  | .lst l => .ok (itS l) s1
  | .dct ks _ => .ok (itS (ks.map kW)) s1
  | .ref a => match s1.at_ a with
    | some (.lst l) => .ok (itL a l.length) s1
    | some (.dct l) => if a ∈ s1.lk then .ok (itK a l.length) s1 else .bad
    | some (.dtt l) => if a ∈ s1.lk then .ok (itK a l.length) s1 else .bad
    | _ => .bad
  | .str x => .ok (itS (chrs x)) s1
  | _ => .bad
def iV (m : E) : It' := fun ρ s => (m ρ s).bind fun w s1 => match w with
  | .dct _ l => .ok (itS l) s1
  | .ref a => match s1.at_ a with
    | some (.dct l) => if a ∈ s1.lk then .ok (itV a l.length) s1 else .bad
    | _ => .bad
  | _ => .bad
def prsW (ks : List Key) (l : List W) : List W := (List.zip (ks.map kW) l).map fun p => .tup [p.1, p.2]
def iI (m : E) : It' := fun ρ s => (m ρ s).bind fun w s1 => match w with
  | .dct ks l => .ok (itS (prsW ks l)) s1
  | .ref a => match s1.at_ a with
    | some (.dct l) => if a ∈ s1.lk then .ok (itI a l.length) s1 else .bad
    | _ => .bad
  | _ => .bad
def b62 (j : Int) : Bool := decide (-(2 ^ 62) ≤ j ∧ j < 2 ^ 62)
def rngI (ws : List W) : M PIt := fun s => match ws with
  | [.int j] => if b62 j = true then .ok (itR 0 1 j.toNat) s else .bad
  | [.int i, .int j] => if b62 i = true ∧ b62 j = true then .ok (itR i 1 (j - i).toNat) s else .bad
  | [.int i, .int j, .int c] => if c ≠ 0 ∧ c.natAbs < 1073741824 ∧ Builtin.Range.small i j c = true then .ok (itR i c (Builtin.Range.rangeSize i j c).toNat) s else .bad
  | _ => .bad
def iRg (es : Es) : It' := fun ρ s => (es ρ s).bind rngI
def itET (l : List W) : PIt := ⟨fun i _ => if i ≤ l.length then some (l[i]?.map fun w => .tup [.int (i : Nat), w]) else none, l.length⟩
def iEn (es : Es) : It' := fun ρ s => (es ρ s).bind fun ws s1 => match ws with
  | [.tup l] => .ok (itET l) s1
  | [.lst l] => .ok (itET l) s1
  | [.dct ks _] => .ok (itET (ks.map kW)) s1
  | [.ref a] => match s1.at_ a with
    | some (.lst l) => .ok (itEn a l.length) s1
    | _ => .bad
  | _ => .bad
def itZW (x y : W) (n : Nat) : PIt := ⟨fun i s => match lsW s x, lsW s y with
  | some l, some m => some (zipO l[i]? m[i]?)
  | _, _ => none, n⟩
def iZp (es : Es) : It' := fun ρ s => (es ρ s).bind fun ws s1 => match ws with
  | [.tup l, .tup m] => .ok (itZT l m) s1
  | [.lst l, .lst m] => .ok (itZT l m) s1
  | [x, y] => match lsW s1 x, lsW s1 y with
    | some l, some _ => .ok (itZW x y l.length) s1
    | _, _ => .bad
  | _ => .bad

section
variable {T : List NdefX.NTab} {X : Cx} {pos : Pos} {tg : Expr}
theorem rdI_of {m : It'} {Wx : Wish} {σ : L2.St} {H : Hp} {R : It → Hp → Prop} (h : rdI T X m Wx σ H R) : ∃ r ρ s, MtE T X r ρ s σ H ∧ PostI T X.K X.mg r s H (m ρ s) R Wx := h
/-- a step that lays a tuple -/
theorem yl_tup {r : Rm} {s : S} {H : Hp} {p : Addr} {l : List W} {xs : List V} (m : Mt T X.K X.mg r s H) (hp : H p = none) (q : RelWs X.K r s.nx H l xs) : ∃ r', Stp T X.K X.mg r s H r' s (upd H p (.tup xs)) ∧ RelW X.K r' s.nx (upd H p (.tup xs)) (.tup l) (.ref p) := by
  refine ⟨r, m.junk hp, mTup (.inl upd_same) (q.kp (kp_upd hp))⟩
theorem RelWs.get' {K : PySem.W.Frag} {r : Rm} {n : Nat} {H : Hp} {ws : List W} {xs : List V} {i : Nat} (h : RelWs K r n H ws xs) : (ws[i]? = none ∧ xs[i]? = none) ∨ ∃ w x, ws[i]? = some w ∧ xs[i]? = some x ∧ RelW K r n H w x := by
  cases e : ws[i]? with
  | some w => obtain ⟨x, h1, h2⟩ := h.get e; exact .inr ⟨w, x, rfl, h1, h2⟩
  | none =>
    refine .inl ⟨rfl, ?_⟩
    rw [List.getElem?_eq_none_iff] at e ⊢
    rw [← h.len]; exact e
theorem itL_rel {r0 : Rm} {s0 : S} {H0 : Hp} {a n : Nat} (ha : a < s0.nx) : ItRel T X.K X.mg r0 s0 H0 (itL a n) (Itl X.K (r0 a)) := fun i r s H st => by
  have e0 := st.kp.eq a ha
  have key : ∀ l, s.at_ a = some (.lst l) → ∃ xs, SqL X.K H (r0 a) xs ∧ RelWs X.K r s.nx H l xs := fun l el => by
    obtain ⟨_, xs, h1, l1⟩ := st.mt.lst el
    rw [e0] at h1
    exact ⟨xs, .inl (.inl h1), l1⟩
  constructor
  · intro w e
    simp only [itL] at e
    split at e
    · rename_i l el
      obtain ⟨xs, h1, l1⟩ := key l el
      have e : l[i]? = some w := Option.some.inj e
      obtain ⟨x, e2, rl⟩ := l1.get e
      refine ⟨⟨xs, x, h1, e2⟩, fun y H' hy => ?_⟩
      obtain ⟨rfl, hy⟩ := hy
      have e3 := hy xs h1
      rw [e2] at e3
      cases e3
      exact ⟨r, .refl st.mt, rl⟩
    · cases e
  · intro e
    simp only [itL] at e
    split at e
    · rename_i l el
      obtain ⟨xs, h1, l1⟩ := key l el
      have e : l[i]? = none := Option.some.inj e
      refine ⟨xs, h1, ?_⟩
      rw [← l1.len]
      exact List.getElem?_eq_none_iff.mp e
    · cases e
theorem itT_rel {r0 : Rm} {s0 : S} {H0 : Hp} {p : Addr} {l : List W} {xs : List V} (t : TupAt X.K H0 p xs) (q : RelWs X.K r0 s0.nx H0 l xs) : ItRel T X.K X.mg r0 s0 H0 (itS l) (Itt X.K p) := fun i r s H st => by
  have h1 : SqT X.K H p xs := (t.kp st.kp).sq
  have l1 := q.kp st.kp
  constructor
  · intro w e
    have e : l[i]? = some w := Option.some.inj e
    obtain ⟨x, e2, rl⟩ := l1.get e
    refine ⟨⟨xs, x, h1, e2⟩, fun y H' hy => ?_⟩
    obtain ⟨rfl, hy⟩ := hy
    have e3 := hy xs h1
    rw [e2] at e3
    cases e3
    exact ⟨r, .refl st.mt, rl⟩
  · intro e
    have e : l[i]? = none := Option.some.inj e
    refine ⟨xs, h1, ?_⟩
    rw [← l1.len]
    exact List.getElem?_eq_none_iff.mp e
theorem itF_rel {r0 : Rm} {s0 : S} {H0 : Hp} {p : Addr} {l : List W} {xs : List V} (f : r0.F p) (t : H0 p = some (.lst xs)) (q : RelWs X.K r0 s0.nx H0 l xs) : ItRel T X.K X.mg r0 s0 H0 (itS l) (Itl X.K p) := fun i r s H st => by
  have h1 : SqL X.K H p xs := .inl (.inl (st.kp.lst p _ f t))
  have l1 := q.kp st.kp
  constructor
  · intro w e
    have e : l[i]? = some w := Option.some.inj e
    obtain ⟨x, e2, rl⟩ := l1.get e
    refine ⟨⟨xs, x, h1, e2⟩, fun y H' hy => ?_⟩
    obtain ⟨rfl, hy⟩ := hy
    have e3 := hy xs h1
    rw [e2] at e3
    cases e3
    exact ⟨r, .refl st.mt, rl⟩
  · intro e
    have e : l[i]? = none := Option.some.inj e
    refine ⟨xs, h1, ?_⟩
    rw [← l1.len]
    exact List.getElem?_eq_none_iff.mp e
theorem itStr_rel {r0 : Rm} {s0 : S} {H0 : Hp} {x : Str} : ItRel T X.K X.mg r0 s0 H0 (itS (chrs x)) (Its x) := fun i r s H st => by
  constructor
  · intro w e
    have e : (chrs x)[i]? = some w := Option.some.inj e
    unfold chrs at e
    rw [List.getElem?_map] at e
    cases e1 : x.cps.toList[i]? with
    | none => rw [e1] at e; cases e
    | some c =>
      rw [e1] at e
      cases e
      have e2 : x.cps[i]? = some c := by simpa using e1
      refine ⟨(Array.getElem?_eq_some_iff.mp e2).1, fun y H' hy => ?_⟩
      obtain ⟨rfl, c', e3, rfl⟩ := hy
      rw [e2] at e3
      cases e3
      exact ⟨r, .refl st.mt, mStr⟩
  · intro e
    have e : (chrs x)[i]? = none := Option.some.inj e
    have := List.getElem?_eq_none_iff.mp e
    show x.cps.size ≤ i
    simpa [chrs] using this
/-- a locked dict through a loop -/
theorem lk_dct {r0 r : Rm} {s0 s : S} {H0 H : Hp} {a : Nat} {l : List (W × W)} {od : Obj} {kvs : List (Key × V)} (st : Stp T X.K X.mg r0 s0 H0 r s H) (hi : a ∈ s0.lk) (h0 : H0 (r0 a) = some (.frz od (.dK kvs))) (e : s.at_ a = some (.dct l)) :
    H (r0 a) = some (.frz od (.dK kvs)) ∧ RKV X.K r s.nx H l kvs := by
  obtain ⟨hlt, q⟩ := st.lkh a hi
  have hf := q.trans h0
  have e0 := st.kp.eq a hlt
  obtain ⟨_, ho, h2, kvs', hl, rr⟩ := st.mt.ob a _ e
  obtain ⟨od', z⟩ := hl.1 (by rw [st.lk]; exact hi)
  rw [e0, hf] at h2
  rw [z] at h2
  cases h2
  exact ⟨hf, rr⟩
theorem RKV.get2 {K : PySem.W.Frag} {r : Rm} {n : Nat} {H : Hp} {l : List (W × W)} {kvs : List (Key × V)} (h : RKV K r n H l kvs) (i : Nat) : (l[i]? = none ∧ kvs.length ≤ i) ∨ ∃ w k v, l[i]? = some (kW k, w) ∧ kvs[i]? = some (k, v) ∧ i < kvs.length ∧ RelW K r n H w v := by
  cases e : l[i]? with
  | none => exact .inl ⟨rfl, by rw [← h.len]; exact List.getElem?_eq_none_iff.mp e⟩
  | some p =>
    obtain ⟨q, e2, h1, h2⟩ := paired_get h e
    refine .inr ⟨p.2, q.1, q.2, ?_, e2, (List.getElem?_eq_some_iff.mp e2).1, h2⟩
    rw [← h1]
theorem itK_rel {r0 : Rm} {s0 : S} {H0 : Hp} {a n : Nat} {od : Obj} {kvs : List (Key × V)} (hi : a ∈ s0.lk) (h0 : H0 (r0 a) = some (.frz od (.dK kvs))) (l0 : List (W × W)) (e0 : s0.at_ a = some (.dct l0)) : ItRel T X.K X.mg r0 s0 H0 (itK a n) (Itk (r0 a) od kvs) := fun i r s H st => by
  have hin : a ∈ s.lk := by rw [st.lk]; exact hi
  have ea : s.at_ a = some (.dct l0) := (st.lkd a hi).trans e0
  obtain ⟨hf, rr⟩ := lk_dct st hi h0 ea
  simp only [itK, hin, ea, if_true]
  rcases rr.get2 i with ⟨e1, e2⟩ | ⟨w, k, v, e1, e2, hl, rl⟩
  · rw [e1]
    exact ⟨(fun _ z => by cases z), fun _ => ⟨hf, e2⟩⟩
  · rw [e1]
    refine ⟨fun w' z => ?_, fun z => by cases z⟩
    cases z
    refine ⟨⟨hf, hl⟩, fun y H' hy => ?_⟩
    obtain ⟨rfl, k', v', e3, rfl⟩ := hy
    rw [e2] at e3
    cases e3
    exact ⟨r, .refl st.mt, relW_kV⟩
theorem relWs_keys {K : PySem.W.Frag} {r : Rm} {n : Nat} {H : Hp} : ∀ (k : List Key), RelWs K r n H (k.map kW) (k.map kV)
  | [] => .nil
  | _ :: k => .cons relW_kV (relWs_keys k)
theorem itKT_rel {r0 : Rm} {s0 : S} {H0 : Hp} {a n : Nat} {od : Obj} {kvs : List (List Key × V)} (hi : a ∈ s0.lk) (h0 : H0 (r0 a) = some (.frz od (.dT kvs))) (l0 : List (List W × W)) (e0 : s0.at_ a = some (.dtt l0)) : ItRel T X.K X.mg r0 s0 H0 (itK a n) (Itkt (r0 a) od kvs) := fun i r s H st => by
  have hin : a ∈ s.lk := by rw [st.lk]; exact hi
  have ea : s.at_ a = some (.dtt l0) := (st.lkd a hi).trans e0
  obtain ⟨hlt, q⟩ := st.lkh a hi
  have hf := q.trans h0
  have er := st.kp.eq a hlt
  obtain ⟨_, ho, h2, kvs', hl, rr⟩ := st.mt.ob a _ ea
  obtain ⟨od', z⟩ := hl.1 hin
  rw [er, hf, z] at h2
  cases h2
  simp only [itK, hin, ea, if_true]
  cases e : l0[i]? with
  | none =>
    refine ⟨(fun _ z => by cases z), fun _ => ⟨hf, ?_⟩⟩
    rw [← Paired.length rr]
    exact List.getElem?_eq_none_iff.mp e
  | some p =>
    obtain ⟨q2, e2, h1, h3⟩ := paired_get rr e
    refine ⟨fun w' z => ?_, fun z => by cases z⟩
    cases z
    refine ⟨⟨hf, (List.getElem?_eq_some_iff.mp e2).1⟩, fun y H' hy => ?_⟩
    obtain ⟨rfl, k', v', p', e3, rfl, e4⟩ := hy
    rw [e2] at e3
    cases e3
    refine ⟨r, .refl st.mt, ?_⟩
    show RelW X.K r s.nx H' (.tup p.1) _
    rw [h1]
    exact mTup (.inl e4) (relWs_keys k')
theorem itKF_rel {r0 : Rm} {s0 : S} {H0 : Hp} {p : Addr} {od : Obj} {kvs : List (Key × V)} (f : r0.F p) (t : H0 p = some (.frz od (.dK kvs))) : ItRel T X.K X.mg r0 s0 H0 (itS ((kvs.map (·.1)).map kW)) (Itk p od kvs) := fun i r s H st => by
  have h1 := st.kp.lst p _ f t
  simp only [itS, List.map_map, List.getElem?_map]
  cases e : kvs[i]? with
  | none =>
    refine ⟨(fun _ z => by cases z), fun _ => ⟨h1, List.getElem?_eq_none_iff.mp e⟩⟩
  | some q =>
    refine ⟨fun w z => ?_, fun z => by cases z⟩
    cases z
    refine ⟨⟨h1, (List.getElem?_eq_some_iff.mp e).1⟩, fun y H' hy => ?_⟩
    obtain ⟨rfl, k', v', e3, rfl⟩ := hy
    rw [e] at e3
    cases e3
    exact ⟨r, .refl st.mt, relW_kV⟩
theorem itVF_rel {r0 : Rm} {s0 : S} {H0 : Hp} {p : Addr} {od : Obj} {kvs : List (Key × V)} {l : List W} (f : r0.F p) (t : H0 p = some (.frz od (.dK kvs))) (q : RelWs X.K r0 s0.nx H0 l (kvs.map (·.2))) : ItRel T X.K X.mg r0 s0 H0 (itS l) (Itd p od kvs) := fun i r s H st => by
  have h1 := st.kp.lst p _ f t
  have l1 := q.kp st.kp
  simp only [itS]
  rcases l1.get' (i := i) with ⟨e1, e1'⟩ | ⟨w, x, e1, e1', rl⟩
  · rw [e1]
    refine ⟨(fun _ z => by cases z), fun _ => ⟨h1, ?_⟩⟩
    simpa using e1'
  · rw [e1]
    refine ⟨fun w' z => ?_, fun z => by cases z⟩
    cases z
    rw [List.getElem?_map] at e1'
    cases e : kvs[i]? with
    | none => rw [e] at e1'; cases e1'
    | some q =>
      rw [e] at e1'
      cases e1'
      refine ⟨⟨h1, (List.getElem?_eq_some_iff.mp e).1⟩, fun y H' hy => ?_⟩
      obtain ⟨rfl, k', e3⟩ := hy
      rw [e] at e3
      cases e3
      exact ⟨r, .refl st.mt, rl⟩
theorem itIF_rel {r0 : Rm} {s0 : S} {H0 : Hp} {p : Addr} {od : Obj} {kvs : List (Key × V)} {l : List W} (f : r0.F p) (t : H0 p = some (.frz od (.dK kvs))) (q : RelWs X.K r0 s0.nx H0 l (kvs.map (·.2))) : ItRel T X.K X.mg r0 s0 H0 (itS (prsW (kvs.map (·.1)) l)) (Iti p od kvs) := fun i r s H st => by
  have h1 := st.kp.lst p _ f t
  have l1 := rkv_zip (q.kp st.kp)
  simp only [itS, prsW, List.getElem?_map]
  rcases l1.get2 i with ⟨e1, e2⟩ | ⟨w, k, v, e1, e2, hl, rl⟩
  · rw [e1]
    exact ⟨(fun _ z => by cases z), fun _ => ⟨h1, e2⟩⟩
  · rw [e1]
    refine ⟨fun w' z => ?_, fun z => by cases z⟩
    cases z
    refine ⟨⟨h1, hl⟩, fun y H' hy => ?_⟩
    obtain ⟨p', k', v', e3, rfl, hp, rfl⟩ := hy
    rw [e2] at e3
    cases e3
    exact yl_tup st.mt hp (.cons relW_kV (.cons rl .nil))
theorem itV_rel {r0 : Rm} {s0 : S} {H0 : Hp} {a n : Nat} {od : Obj} {kvs : List (Key × V)} (hi : a ∈ s0.lk) (h0 : H0 (r0 a) = some (.frz od (.dK kvs))) (l0 : List (W × W)) (e0 : s0.at_ a = some (.dct l0)) : ItRel T X.K X.mg r0 s0 H0 (itV a n) (Itd (r0 a) od kvs) := fun i r s H st => by
  have hin : a ∈ s.lk := by rw [st.lk]; exact hi
  have ea : s.at_ a = some (.dct l0) := (st.lkd a hi).trans e0
  obtain ⟨hf, rr⟩ := lk_dct st hi h0 ea
  simp only [itV, hin, ea, if_true]
  rcases rr.get2 i with ⟨e1, e2⟩ | ⟨w, k, v, e1, e2, hl, rl⟩
  · rw [e1]
    exact ⟨(fun _ z => by cases z), fun _ => ⟨hf, e2⟩⟩
  · rw [e1]
    refine ⟨fun w' z => ?_, fun z => by cases z⟩
    cases z
    refine ⟨⟨hf, hl⟩, fun y H' hy => ?_⟩
    obtain ⟨rfl, k', e3⟩ := hy
    rw [e2] at e3
    cases e3
    exact ⟨r, .refl st.mt, rl⟩
theorem itI_rel {r0 : Rm} {s0 : S} {H0 : Hp} {a n : Nat} {od : Obj} {kvs : List (Key × V)} (hi : a ∈ s0.lk) (h0 : H0 (r0 a) = some (.frz od (.dK kvs))) (l0 : List (W × W)) (e0 : s0.at_ a = some (.dct l0)) : ItRel T X.K X.mg r0 s0 H0 (itI a n) (Iti (r0 a) od kvs) := fun i r s H st => by
  have hin : a ∈ s.lk := by rw [st.lk]; exact hi
  have ea : s.at_ a = some (.dct l0) := (st.lkd a hi).trans e0
  obtain ⟨hf, rr⟩ := lk_dct st hi h0 ea
  simp only [itI, hin, ea, if_true]
  rcases rr.get2 i with ⟨e1, e2⟩ | ⟨w, k, v, e1, e2, hl, rl⟩
  · rw [e1]
    exact ⟨(fun _ z => by cases z), fun _ => ⟨hf, e2⟩⟩
  · rw [e1]
    refine ⟨fun w' z => ?_, fun z => by cases z⟩
    cases z
    refine ⟨⟨hf, hl⟩, fun y H' hy => ?_⟩
    obtain ⟨p, k', v', e3, rfl, hp, rfl⟩ := hy
    rw [e2] at e3
    cases e3
    exact yl_tup st.mt hp (.cons relW_kV (.cons rl .nil))
theorem itR_rel {r0 : Rm} {s0 : S} {H0 : Hp} {lo c : Int} {n : Nat} : ItRel T X.K X.mg r0 s0 H0 (itR lo c n) (Itc lo c n) := fun i r s H st => by
  simp only [itR]
  constructor
  · intro w e
    by_cases h : i < n
    · rw [if_pos h] at e
      cases e
      refine ⟨h, fun y H' hy => ?_⟩
      obtain ⟨rfl, rfl⟩ := hy
      exact ⟨r, .refl st.mt, mInt⟩
    · rw [if_neg h] at e; cases e
  · intro e
    by_cases h : i < n
    · rw [if_pos h] at e; cases e
    · exact Nat.le_of_not_lt h
theorem itR1_rel {r0 : Rm} {s0 : S} {H0 : Hp} {lo : Int} {n : Nat} : ItRel T X.K X.mg r0 s0 H0 (itR lo 1 n) (Itr lo n) := fun i r s H st => by
  obtain ⟨h1, h2⟩ := itR_rel (T := T) (X := X) (lo := lo) (c := 1) (n := n) i r s H st
  refine ⟨fun w e => ?_, h2⟩
  obtain ⟨g, y⟩ := h1 w e
  refine ⟨g, fun x H' hy => y x H' ⟨hy.1, by rw [hy.2]; congr 1; omega⟩⟩
/-- the walk of a value -/
theorem ri_e {e : Expr} {m : E} (h : RE T X e m) : RI T X tg e (iE m) := fun Wx tk => ⟨fun pins s σ H R I hw => by
  obtain ⟨r, ρ, S, mm, q⟩ := hw
  unfold iE at q
  have triv : ∀ (o : Out PIt), (∀ c s', m ρ S = .ex c s' → o = .ex c s') → (m ρ S = .bad → o = .bad) → (∀ w s', m ρ S = .ok w s' → o = .bad) → PostI T X.K X.mg r S H o R Wx → rdE T X m Wx σ H fun x H1 => ∃ a, x = .ref a ∧ (∃ xs, SqL X.K H1 a xs) ∧ R (Itl X.K a) H1 := fun o h1 h2 h3 q => by
    refine ⟨r, ρ, S, mm, ?_⟩
    cases e0 : m ρ S with
    | ok w s' => rw [h3 w s' e0] at q; exact False.elim q
    | ex c s' => rw [h1 c s' e0] at q; exact fun r' H' x => q r' H' x
    | bad => rw [h2 e0] at q; exact q
  cases e0 : m ρ S with
  | ex c s1 => rw [e0] at q; exact (pi_list (h Wx tk)).run pins s σ H R I (triv _ (fun c' s' z => by rw [e0] at z; cases z; rfl) (fun z => by rw [e0] at z; cases z) (fun w s' z => by rw [e0] at z; cases z) q)
  | bad => rw [e0] at q; exact False.elim q
  | ok w s1 =>
    rw [e0] at q
    simp only [Out.bind] at q
    cases w with
    | tup l =>
      refine (pi_tup (h Wx tk)).run pins s σ H R I ⟨r, ρ, S, mm, ?_⟩
      rw [e0]
      intro r1 H1 v st rl
      obtain ⟨p, xs, rfl, t1, l1⟩ := rTup rl
      exact ⟨p, rfl, ⟨xs, t1.sq⟩, q r1 H1 _ st (itT_rel t1 l1)⟩
    | lst l =>
      refine (pi_list (h Wx tk)).run pins s σ H R I ⟨r, ρ, S, mm, ?_⟩
      rw [e0]
      intro r1 H1 v st rl
      obtain ⟨p, xs, rfl, f, t1, l1⟩ := rLst rl
      exact ⟨p, rfl, ⟨xs, .inl (.inl t1)⟩, q r1 H1 _ st (itF_rel f t1 l1)⟩
    | dct ks l =>
      refine (pi_keys (h Wx tk)).run pins s σ H R I ⟨r, ρ, S, mm, ?_⟩
      rw [e0]
      intro r1 H1 v st rl
      obtain ⟨p, od, kvs, rfl, f, t1, rfl, l1⟩ := rDct rl
      exact ⟨_, od, rfl, .inl ⟨kvs, t1, q r1 H1 _ st (itKF_rel f t1)⟩⟩
    | str x =>
      refine (pi_str (h Wx tk)).run pins s σ H R I ⟨r, ρ, S, mm, ?_⟩
      rw [e0]
      intro r1 H1 v st rl
      obtain rfl := rStr rl
      exact ⟨x, rfl, q r1 H1 _ st itStr_rel⟩
    | ref a =>
      simp only at q
      split at q
      · rename_i l el
        refine (pi_list (h Wx tk)).run pins s σ H R I ⟨r, ρ, S, mm, ?_⟩
        rw [e0]
        intro r1 H1 v st rl
        obtain ⟨ha, rfl⟩ := rRef rl
        obtain ⟨_, xs, h1, l1⟩ := st.mt.lst el
        exact ⟨_, rfl, ⟨xs, .inl (.inl h1)⟩, q r1 H1 _ st (itL_rel ha)⟩
      · rename_i l el
        split at q
        · rename_i hi
          refine (pi_keys (h Wx tk)).run pins s σ H R I ⟨r, ρ, S, mm, ?_⟩
          rw [e0]
          intro r1 H1 v st rl
          obtain ⟨ha, rfl⟩ := rRef rl
          obtain ⟨_, kvs, _, _, h1, l1⟩ := st.mt.dct el
          obtain ⟨od, h1⟩ := h1 hi
          exact ⟨_, od, rfl, .inl ⟨kvs, h1, q r1 H1 _ st (itK_rel hi h1 l el)⟩⟩
        · exact False.elim q
      · rename_i l el
        split at q
        · rename_i hi
          refine (pi_keys (h Wx tk)).run pins s σ H R I ⟨r, ρ, S, mm, ?_⟩
          rw [e0]
          intro r1 H1 v st rl
          obtain ⟨ha, rfl⟩ := rRef rl
          obtain ⟨_, ho, h2, kvs, hl, rr⟩ := st.mt.ob a _ el
          obtain ⟨od, h1⟩ := hl.1 hi
          rw [h1] at h2
          exact ⟨_, od, rfl, .inr ⟨kvs, h2, q r1 H1 _ st (itKT_rel hi h2 l el)⟩⟩
        · exact False.elim q
      · exact False.elim q
    | _ => exact False.elim q⟩
theorem iV_ok {e : Expr} {m : E} {apos cpos : Pos} (h : RE T X e m) (hb : attributeBase e "values" X.env (eval e X.env) = eval e X.env := by rfl) (hline : (apos.endLine == cpos.line) = true := by rfl) : RI T X tg (.Call (.Attribute e "values" apos) [] [] cpos) (iV m) := fun Wx tk => by
  refine (pi_values (h Wx tk) hb hline).imp fun σ H R hw => ?_
  obtain ⟨r, ρ, S, mm, q⟩ := hw
  unfold iV at q
  refine rdE.go mm (fun x s1 e1 r1 H1 v1 p1 l1 m1 => ?_) (fun c s1 e1 r1 H1 p1 => ?_) (fun e1 => ?_)
  · rw [e1] at q
    simp only [Out.bind] at q
    cases x <;> first | exact False.elim q | skip
    · simp only at q
      split at q
      · rename_i l el
        split at q
        · rename_i hi
          obtain ⟨ha, rfl⟩ := rRef l1
          obtain ⟨_, kvs, _, _, h1, l1⟩ := m1.mt.dct el
          obtain ⟨od, h1⟩ := h1 hi
          exact ⟨_, od, kvs, rfl, h1, q r1 H1 _ p1 (itV_rel hi h1 l el)⟩
        · exact False.elim q
      · exact False.elim q
    · obtain ⟨p, od, kvs, rfl, f, t1, rfl, l2⟩ := rDct l1
      exact ⟨_, od, kvs, rfl, t1, q r1 H1 _ p1 (itVF_rel f t1 l2)⟩
  · rw [e1] at q; exact q r1 H1 p1
  · rw [e1] at q; exact q
theorem iI_ok {e : Expr} {m : E} {apos cpos tpos : Pos} {elts : List Expr} {kk : Nat} (h : RE T X e m) (hb : attributeBase e "items" X.env (eval e X.env) = eval e X.env := by rfl) (hline : (apos.endLine == cpos.line) = true := by rfl) : RI T X (.Tuple elts kk tpos) (.Call (.Attribute e "items" apos) [] [] cpos) (iI m) := fun Wx tk => by
  refine (pi_items (h Wx tk) hb hline).imp fun σ H R hw => ?_
  obtain ⟨r, ρ, S, mm, q⟩ := hw
  unfold iI at q
  refine rdE.go mm (fun x s1 e1 r1 H1 v1 p1 l1 m1 => ?_) (fun c s1 e1 r1 H1 p1 => ?_) (fun e1 => ?_)
  · rw [e1] at q
    simp only [Out.bind] at q
    cases x <;> first | exact False.elim q | skip
    · simp only at q
      split at q
      · rename_i l el
        split at q
        · rename_i hi
          obtain ⟨ha, rfl⟩ := rRef l1
          obtain ⟨_, kvs, _, _, h1, l1⟩ := m1.mt.dct el
          obtain ⟨od, h1⟩ := h1 hi
          exact ⟨_, od, kvs, rfl, h1, q r1 H1 _ p1 (itI_rel hi h1 l el)⟩
        · exact False.elim q
      · exact False.elim q
    · obtain ⟨p, od, kvs, rfl, f, t1, rfl, l2⟩ := rDct l1
      exact ⟨_, od, kvs, rfl, t1, q r1 H1 _ p1 (itIF_rel f t1 l2)⟩
  · rw [e1] at q; exact q r1 H1 p1
  · rw [e1] at q; exact q
/-! ### range -/
theorem rgI_go {es : Es} {Wx : Wish} {σ : L2.St} {H : Hp} {R : It → Hp → Prop} (h : rdI T X (iRg es) Wx σ H R) (P : List V → Hp → Prop)
    (f : ∀ ws s1, rngI ws s1 ≠ .bad → ∀ r1 s0 H1 vs, Mt T X.K X.mg r1 s1 H1 → RelWs X.K r1 s1.nx H1 ws vs → (∀ r s H, Stp T X.K X.mg r s H r1 s1 H1 → PostI T X.K X.mg r s H (rngI ws s1) R Wx → P vs H1) ∧ s0 = s1) : rdA T X es Wx σ H P := by
  obtain ⟨r, ρ, S, mm, q⟩ := h
  unfold iRg at q
  refine rdA.go mm (fun ws s1 e1 r1 H1 vs p1 l1 m1 => ?_) (fun c s1 e1 r1 H1 p1 => ?_) (fun e1 => ?_)
  · rw [e1] at q
    have nb : rngI ws s1 ≠ .bad := fun z => by
      simp only [Out.bind, z] at q
      exact q
    exact (f ws s1 nb r1 s1 H1 vs m1.mt l1).1 r S H p1 q
  · rw [e1] at q; exact q r1 H1 p1
  · rw [e1] at q; exact q
theorem b62_iff {j : Int} : b62 j = true ↔ -(2 ^ 62) ≤ j ∧ j < 2 ^ 62 := by unfold b62; rw [decide_eq_true_iff]
theorem RelWs.one {K : PySem.W.Frag} {r : Rm} {n : Nat} {H : Hp} {w : W} {xs : List V} (h : RelWs K r n H [w] xs) : ∃ x, xs = [x] ∧ RelW K r n H w x := by
  obtain ⟨x, t, e, h1, h2⟩ := h.uncons
  unfold RelWs at h2
  subst h2
  exact ⟨x, e, h1⟩
theorem RelWs.two {K : PySem.W.Frag} {r : Rm} {n : Nat} {H : Hp} {w u : W} {xs : List V} (h : RelWs K r n H [w, u] xs) : ∃ x y, xs = [x, y] ∧ RelW K r n H w x ∧ RelW K r n H u y := by
  obtain ⟨x, t, e, h1, h2⟩ := h.uncons
  obtain ⟨y, rfl, h3⟩ := h2.one
  exact ⟨x, y, e, h1, h3⟩
theorem RelWs.three {K : PySem.W.Frag} {r : Rm} {n : Nat} {H : Hp} {w u t : W} {xs : List V} (h : RelWs K r n H [w, u, t] xs) : ∃ x y z, xs = [x, y, z] ∧ RelW K r n H w x ∧ RelW K r n H u y ∧ RelW K r n H t z := by
  obtain ⟨x, l, e, h1, h2⟩ := h.uncons
  obtain ⟨y, z, rfl, h3, h4⟩ := h2.two
  exact ⟨x, y, z, e, h1, h3, h4⟩
theorem eCons_ok {a : E} {b : Es} {ρ : Env} {s s1 : S} {ws : List W} (h : eCons a b ρ s = .ok ws s1) : ∃ x t s2, a ρ s = .ok x s2 ∧ b ρ s2 = .ok t s1 ∧ ws = x :: t := by
  unfold eCons at h
  cases e : a ρ s with
  | ok x s2 =>
    simp only [e, Out.bind] at h
    cases e2 : b ρ s2 with
    | ok t s3 => rw [e2] at h; cases h; exact ⟨x, t, s2, rfl, e2, rfl⟩
    | ex _ _ => rw [e2] at h; cases h
    | bad => rw [e2] at h; cases h
  | ex _ _ => rw [e] at h; cases h
  | bad => rw [e] at h; cases h
theorem eNil_ok {ρ : Env} {s s1 : S} {ws : List W} (h : eNil ρ s = .ok ws s1) : ws = [] := by
  unfold eNil at h; cases h; rfl
theorem one_ok {a : E} {ρ : Env} {s s1 : S} {ws : List W} (h : eCons a eNil ρ s = .ok ws s1) : ∃ x, ws = [x] := by
  obtain ⟨x, t, s2, _, h2, rfl⟩ := eCons_ok h
  rw [eNil_ok h2]; exact ⟨x, rfl⟩
theorem two_ok {a b : E} {ρ : Env} {s s1 : S} {ws : List W} (h : eCons a (eCons b eNil) ρ s = .ok ws s1) : ∃ x y, ws = [x, y] := by
  obtain ⟨x, t, s2, _, h2, rfl⟩ := eCons_ok h
  obtain ⟨y, rfl⟩ := one_ok h2
  exact ⟨x, y, rfl⟩
theorem three_ok {a b c : E} {ρ : Env} {s s1 : S} {ws : List W} (h : eCons a (eCons b (eCons c eNil)) ρ s = .ok ws s1) : ∃ x y z, ws = [x, y, z] := by
  obtain ⟨x, t, s2, _, h2, rfl⟩ := eCons_ok h
  obtain ⟨y, z, rfl⟩ := two_ok h2
  exact ⟨x, y, z, rfl⟩
/-- range(a) -/
theorem ri_rg1 {a : Expr} {ma : E} {p : Pos} (hg : Gl X "range") (hm : X.mg "range" = none) (h : RA T X [a] (eCons ma eNil)) (hs : starEach [a] X.env = [(false, eval a X.env)] := by rfl) : RI T X tg (.Call (.Name "range" p) [a] [] pos) (iRg (eCons ma eNil)) := fun Wx tk => by
  refine (pi_range1 hg hm (h Wx tk) hs).imp fun σ H R hw => ?_
  obtain ⟨r, ρ, S, mm, q⟩ := hw
  unfold iRg at q
  refine rdA.go mm (fun ws s1 e1 r1 H1 vs p1 l1 m1 => ?_) (fun c s1 e1 r1 H1 p1 => ?_) (fun e1 => ?_)
  · rw [e1] at q
    obtain ⟨x, rfl⟩ := one_ok e1
    obtain ⟨v, rfl, rl⟩ := l1.one
    simp only [Out.bind] at q
    cases x <;> first | exact False.elim q | skip
    obtain rfl := rInt rl
    simp only [rngI] at q
    split at q
    · rename_i hb
      obtain ⟨b1, b2⟩ := b62_iff.mp hb
      exact ⟨_, rfl, b1, b2, q r1 H1 _ p1 itR1_rel⟩
    · exact False.elim q
  · rw [e1] at q; exact q r1 H1 p1
  · rw [e1] at q; exact q
theorem ri_rg2 {a b : Expr} {ma mb : E} {p : Pos} (hg : Gl X "range") (hm : X.mg "range" = none) (h : RA T X [a, b] (eCons ma (eCons mb eNil))) (hs : starEach [a, b] X.env = [(false, eval a X.env), (false, eval b X.env)] := by rfl) (hs2 : starEach [b] X.env = [(false, eval b X.env)] := by rfl) : RI T X tg (.Call (.Name "range" p) [a, b] [] pos) (iRg (eCons ma (eCons mb eNil))) := fun Wx tk => by
  refine (pi_range2 hg hm (h Wx tk) hs hs2).imp fun σ H R hw => ?_
  obtain ⟨r, ρ, S, mm, q⟩ := hw
  unfold iRg at q
  refine rdA.go mm (fun ws s1 e1 r1 H1 vs p1 l1 m1 => ?_) (fun c s1 e1 r1 H1 p1 => ?_) (fun e1 => ?_)
  · rw [e1] at q
    obtain ⟨x, y, rfl⟩ := two_ok e1
    obtain ⟨v, v', rfl, rl, rl'⟩ := l1.two
    simp only [Out.bind] at q
    cases x <;> cases y <;> first | exact False.elim q | skip
    obtain rfl := rInt rl
    obtain rfl := rInt rl'
    simp only [rngI] at q
    split at q
    · rename_i hb
      obtain ⟨b1, b2⟩ := b62_iff.mp hb.1
      obtain ⟨b3, b4⟩ := b62_iff.mp hb.2
      exact ⟨_, _, rfl, ⟨b1, b2, b3, b4⟩, q r1 H1 _ p1 itR1_rel⟩
    · exact False.elim q
  · rw [e1] at q; exact q r1 H1 p1
  · rw [e1] at q; exact q
theorem rangeSize_nn (i j c : Int) : 0 ≤ Builtin.Range.rangeSize i j c := by
  unfold Builtin.Range.rangeSize
  split
  · rename_i hc
    split
    · have := Int.ediv_nonneg (a := j - i - 1) (b := c) (by omega) (by omega)
      omega
    · omega
  · rename_i hc
    split
    · rename_i hi
      have := Int.ediv_nonneg (a := i - j - 1) (b := -c) (by omega) (by omega)
      omega
    · omega
theorem ri_rg3 {a b c : Expr} {ma mb mc : E} {p : Pos} (hg : Gl X "range") (hm : X.mg "range" = none) (h : RA T X [a, b, c] (eCons ma (eCons mb (eCons mc eNil)))) (hs : starEach [a, b, c] X.env = (false, eval a X.env) :: starEach [b, c] X.env := by rfl) (hpl : (backTo pos (starEach [b, c] X.env)).any (·.1) = false := by rfl) :
    RI T X tg (.Call (.Name "range" p) [a, b, c] [] pos) (iRg (eCons ma (eCons mb (eCons mc eNil)))) := fun Wx tk => by
  refine (pi_range3 hg hm (h Wx tk) hs hpl).imp fun σ H R hw => ?_
  obtain ⟨r, ρ, S, mm, q⟩ := hw
  unfold iRg at q
  refine rdA.go mm (fun ws s1 e1 r1 H1 vs p1 l1 m1 => ?_) (fun c s1 e1 r1 H1 p1 => ?_) (fun e1 => ?_)
  · rw [e1] at q
    obtain ⟨x, y, z, rfl⟩ := three_ok e1
    obtain ⟨v, v', v'', rfl, rl, rl', rl''⟩ := l1.three
    simp only [Out.bind] at q
    cases x <;> cases y <;> cases z <;> first | exact False.elim q | skip
    obtain rfl := rInt rl
    obtain rfl := rInt rl'
    obtain rfl := rInt rl''
    simp only [rngI] at q
    split at q
    · rename_i hb
      exact ⟨_, _, _, _, rfl, ⟨hb.1, hb.2.1, hb.2.2, (Int.toNat_of_nonneg (rangeSize_nn _ _ _)).symm⟩, q r1 H1 _ p1 itR_rel⟩
    · exact False.elim q
  · rw [e1] at q; exact q r1 H1 p1
  · rw [e1] at q; exact q

/-! ### zip -/
theorem itZ_step {r : Rm} {s : S} {H : Hp} {i : Nat} {a b : Addr} {l m : List W} {xs ys : List V} (mt : Mt T X.K X.mg r s H) (h1 : H a = some (.lst xs)) (h2 : H b = some (.lst ys)) (l1 : RelWs X.K r s.nx H l xs) (l2 : RelWs X.K r s.nx H m ys) :
    (∀ w, some (zipO l[i]? m[i]?) = some (some w) → (Itz X.K a b).go i H ∧ ∀ x H', (Itz X.K a b).yld i H x H' → ∃ r', Stp T X.K X.mg r s H r' s H' ∧ RelW X.K r' s.nx H' w x) ∧ (some (zipO l[i]? m[i]?) = some none → (Itz X.K a b).stop i H) := by
  have g1 : SqL X.K H a xs := .inl (.inl h1)
  have g2 : SqL X.K H b ys := .inl (.inl h2)
  rcases l1.get' (i := i) with ⟨e1, e1'⟩ | ⟨w, x, e1, e1', rl⟩
  · rw [e1]
    exact ⟨(fun _ z => by cases z), fun _ => ⟨xs, ys, g1, g2, .inl (List.getElem?_eq_none_iff.mp e1')⟩⟩
  · rcases l2.get' (i := i) with ⟨e2, e2'⟩ | ⟨u, y, e2, e2', rl'⟩
    · rw [e1, e2]
      exact ⟨(fun _ z => by cases z), fun _ => ⟨xs, ys, g1, g2, .inr (List.getElem?_eq_none_iff.mp e2')⟩⟩
    · rw [e1, e2]
      refine ⟨fun w' z => ?_, fun z => by cases z⟩
      cases z
      refine ⟨⟨xs, ys, x, y, g1, g2, e1', e2'⟩, fun v H' hy => ?_⟩
      obtain ⟨p, x', y', rfl, hp, rfl, f1, f2⟩ := hy
      have z1 := f1 xs g1
      have z2 := f2 ys g2
      rw [e1'] at z1
      rw [e2'] at z2
      cases z1
      cases z2
      exact yl_tup mt hp (.cons rl (.cons rl' .nil))
theorem itZW_rel {r0 : Rm} {s0 : S} {H0 : Hp} {x y : W} {a b : Addr} {n : Nat} (ha : RelW X.K r0 s0.nx H0 x (.ref a)) (hb : RelW X.K r0 s0.nx H0 y (.ref b)) : ItRel T X.K X.mg r0 s0 H0 (itZW x y n) (Itz X.K a b) := fun i r s H st => by
  simp only [itZW]
  split
  · rename_i l m el em
    obtain ⟨a', xs, ea, h1, l1⟩ := st.mt.ls (ha.kp st.kp) el
    obtain ⟨b', ys, eb, h2, l2⟩ := st.mt.ls (hb.kp st.kp) em
    cases ea
    cases eb
    exact itZ_step st.mt h1 h2 l1 l2
  · exact ⟨(fun _ z => by cases z), fun z => by cases z⟩
theorem itZF_rel {r0 : Rm} {s0 : S} {H0 : Hp} {p q : Addr} {l m : List W} {xs ys : List V} (f1 : r0.F p) (t1 : H0 p = some (.lst xs)) (f2 : r0.F q) (t2 : H0 q = some (.lst ys)) (l1 : RelWs X.K r0 s0.nx H0 l xs) (l2 : RelWs X.K r0 s0.nx H0 m ys) : ItRel T X.K X.mg r0 s0 H0 (itZT l m) (Itz X.K p q) := fun i r s H st =>
  itZ_step st.mt (st.kp.lst p _ f1 t1) (st.kp.lst q _ f2 t2) (l1.kp st.kp) (l2.kp st.kp)
theorem itZT_rel {r0 : Rm} {s0 : S} {H0 : Hp} {p q : Addr} {l m : List W} {xs ys : List V} (t : TupAt X.K H0 p xs) (t' : TupAt X.K H0 q ys) (l1 : RelWs X.K r0 s0.nx H0 l xs) (l2 : RelWs X.K r0 s0.nx H0 m ys) : ItRel T X.K X.mg r0 s0 H0 (itZT l m) (RZ.ItzT X.K p q) := fun i r s H st => by
  have g1 : SqT X.K H p xs := (t.kp st.kp).sq
  have g2 : SqT X.K H q ys := (t'.kp st.kp).sq
  have l1 := l1.kp st.kp
  have l2 := l2.kp st.kp
  simp only [itZT]
  rcases l1.get' (i := i) with ⟨e1, e1'⟩ | ⟨w, x, e1, e1', rl⟩
  · rw [e1]
    exact ⟨(fun _ z => by cases z), fun _ => ⟨xs, ys, g1, g2, .inl (List.getElem?_eq_none_iff.mp e1')⟩⟩
  · rcases l2.get' (i := i) with ⟨e2, e2'⟩ | ⟨u, y, e2, e2', rl'⟩
    · rw [e1, e2]
      exact ⟨(fun _ z => by cases z), fun _ => ⟨xs, ys, g1, g2, .inr (List.getElem?_eq_none_iff.mp e2')⟩⟩
    · rw [e1, e2]
      refine ⟨fun w' z => ?_, fun z => by cases z⟩
      cases z
      refine ⟨⟨xs, ys, x, y, g1, g2, e1', e2'⟩, fun v H' hy => ?_⟩
      obtain ⟨p, x', y', rfl, hp, rfl, f1, f2⟩ := hy
      have z1 := f1 xs g1
      have z2 := f2 ys g2
      rw [e1'] at z1
      rw [e2'] at z2
      cases z1
      cases z2
      exact yl_tup st.mt hp (.cons rl (.cons rl' .nil))
theorem ri_zip {e e2 : Expr} {ma mb : E} {p tpos : Pos} {elts : List Expr} {kk : Nat} (hg : Gl X "zip") (hm : X.mg "zip" = none) (h : RA T X [e, e2] (eCons ma (eCons mb eNil)))
    (hs : starEach [e, e2] X.env = (false, eval e X.env) :: starEach [e2] X.env := by rfl) (hpl : (backTo pos (starEach [e2] X.env)).any (·.1) = false := by rfl) :
    RI T X (.Tuple elts kk tpos) (.Call (.Name "zip" p) [e, e2] [] pos) (iZp (eCons ma (eCons mb eNil))) := fun Wx tk => by
  refine (RZ.pi_zipA hg hm (h Wx tk) hs hpl).imp fun σ H R hw => ?_
  obtain ⟨r, ρ, S, mm, q⟩ := hw
  unfold iZp at q
  refine rdA.go mm (fun ws s1 e1 r1 H1 vs p1 l1 m1 => ?_) (fun c s1 e1 r1 H1 p1 => ?_) (fun e1 => ?_)
  · rw [e1] at q
    obtain ⟨x, y, rfl⟩ := two_ok e1
    obtain ⟨v, v', rfl, rl, rl'⟩ := l1.two
    simp only [Out.bind] at q
    cases x <;> cases y <;> first | exact False.elim q | skip
    · obtain ⟨p1', xs, rfl, t1, l3⟩ := rTup rl
      obtain ⟨p2', ys, rfl, t2, l4⟩ := rTup rl'
      exact ⟨_, _, xs, ys, rfl, .inr ⟨t1.sq, t2.sq, q r1 H1 _ p1 (itZT_rel t1 t2 l3 l4)⟩⟩
    all_goals first
      | (obtain ⟨p1', xs, rfl, f1, t1, l3⟩ := rLst rl
         obtain ⟨p2', ys, rfl, f2, t2, l4⟩ := rLst rl'
         exact ⟨_, _, xs, ys, rfl, .inl ⟨.inl (.inl t1), .inl (.inl t2), q r1 H1 _ p1 (itZF_rel f1 t1 f2 t2 l3 l4)⟩⟩)
      | (simp only at q
         split at q
         · rename_i el em
           obtain ⟨_, xs, rfl, h1, _⟩ := m1.mt.ls rl el
           obtain ⟨_, ys, rfl, h2, _⟩ := m1.mt.ls rl' em
           exact ⟨_, _, xs, ys, rfl, .inl ⟨.inl (.inl h1), .inl (.inl h2), q r1 H1 _ p1 (itZW_rel rl rl')⟩⟩
         · exact False.elim q)
  · rw [e1] at q; exact q r1 H1 p1
  · rw [e1] at q; exact q
end
end RS
set_option Elab.async false
set_option linter.all false
set_option maxRecDepth 100000
set_option autoImplicit false
/-! RS.C10: enumerate. -/
namespace RS
open PySem PySem.Spec PyProof.Rows L2

set_option maxHeartbeats 1000000 in
theorem meets_enumB {v : Value} {o : Obj} {HB : Heap → Prop} (bg : Begins v o HB) :
    Meets (Builtin.«enumerate.__new__» ⟨[.type "enumerate", v], []⟩) (fun _ R s => HB s.heap ∧
      R (.ok (.ret (.ref (s.heap.push o).objs.size))) { s with heap := (s.heap.push o).push { cls := .type "enumerate", data := .fields #[.none, .bool false, .ref s.heap.objs.size, rawInt 0, .none, .none] } }) :=
  .of_wp fun prog w A R s h => by
    obtain ⟨hp, gg, dd, tt, oo⟩ := s; obtain ⟨hb0, h⟩ := h
    have hsub := sub_enumerate
    have itr : ∀ {A' : Around} {E : Value → Shared → Prop} {Q : Value → Shared → Prop}, Q (.ref hp.objs.size) ⟨hp.push o, gg, dd, tt, oo⟩ → wpAny (model prog w) A' (pyIter v) Q E ⟨hp, gg, dd, tt, oo⟩ :=
      fun q => bg.iter prog w _ _ ⟨hp, gg, dd, tt, oo⟩ _ hb0 q
    wp_walk using itr
    refine wpAny_stack_any fun _ => wpAny_pure ?_
    split
    · rename_i cc _ _ _ _ _
      cases (cc == Value.type "enumerate")
      · wp_walk using itr
        exact ⟨_, rfl, h⟩
      · wp_walk using itr
        exact ⟨_, rfl, h⟩
    · wp_walk using itr
      exact ⟨_, rfl, h⟩
section
variable {prog : Program} {w : World} {A : Around} {E : Value → Shared → Prop} {s : Shared}
theorem call_enumB {v : Value} {o : Obj} {HB : Heap → Prop} {Q : Value → Shared → Prop} (bg : Begins v o HB) (hb0 : HB s.heap)
    (h : ∀ h', IsEnum h' (s.heap.objs.size + 1) s.heap.objs.size 0 .none → h'.get? s.heap.objs.size = some o → (∀ b ob, s.heap.get? b = some ob → h'.get? b = some ob) → Q (.ref (s.heap.objs.size + 1)) { s with heap := h' }) :
    wpAny (model prog w) A (call (.type "enumerate") [v]) Q E s := by
  refine callType_new F.called_enumerate (by decide) (F.typeCall_enumerate_1 _) (F.newCall_enumerate_1 _) (fun obj => F.args_object_init_2 obj _) F.entry_enumerate_new (meets_enumB bg) ⟨hb0, ?_⟩
  have sz : (s.heap.push o).objs.size = s.heap.objs.size + 1 := Heap.size_push ..
  show _ ∧ _
  rw [sz]
  have en : IsEnum ((s.heap.push o).push { cls := .type "enumerate", data := .fields #[.none, .bool false, .ref s.heap.objs.size, rawInt 0, .none, .none] }) (s.heap.objs.size + 1) s.heap.objs.size 0 .none := by
    have z := Heap.get?_push_size (s.heap.push o) (o := { cls := .type "enumerate", data := .fields #[.none, .bool false, .ref s.heap.objs.size, rawInt 0, .none, .none] }) rfl
    rw [sz] at z; exact z
  exact ⟨⟨_, en, rfl⟩, h _ en (Heap.get?_push_of_some _ (Heap.get?_push_size _ bg.free)) fun b ob x => Heap.get?_push_of_some _ (Heap.get?_push_of_some _ x)⟩
end
/-- enumerate of the tuple at a -/
def IteT (K : PySem.W.Frag) (a : Addr) : It :=
  ⟨fun i H => ∃ (xs : List V) (x : V), SqT K H a xs ∧ xs[i]? = some x, fun i H v H' => ∃ p x, v = .ref p ∧ H p = none ∧ H' = upd H p (.tup [.int (i : Nat), x]) ∧ ∀ xs, SqT K H a xs → xs[i]? = some x, fun i H => ∃ xs : List V, SqT K H a xs ∧ xs.length = i⟩
theorem turn_enumT {P : Program} {w : World} {K : PySem.W.Frag} {elts : List Expr} {kk : Nat} {tpos : Pos} (a e it : Addr) (hea : a ≠ e) (hia : a ≠ it) :
    Turn P w K (.Tuple elts kk tpos) (IteT K a) [e, it] e (fun i h => (∃ old, IsEnum h e it ((i : Nat) : Int) old) ∧ h.IsTupleIter it a i ∧ e ≠ it) where
  mem := by simp
  obj := fun i h st b hb => by
    obtain ⟨⟨old, he⟩, ⟨o, ho, _, hd⟩, _⟩ := st
    have two : b = e ∨ b = it := by simpa using hb
    rcases two with z | z
    · rw [z]; exact ⟨_, he, fun v q => nomatch q⟩
    · rw [z]; exact ⟨o, ho, fun v q => by rw [hd] at q; cases q⟩
  keep := fun i h h' st kp => let ⟨⟨old, he⟩, hi, ne⟩ := st; ⟨⟨old, kp e (by simp) _ he⟩, hi.at fun o q => kp it (by simp) o q, ne⟩
  item := by
    intro X hP hw hK hc i pins s σ H E I hf st hg
    subst hP hw hK
    obtain ⟨⟨old, he⟩, hit, ne⟩ := st
    obtain ⟨xs, x, hq, hx⟩ := hg
    obtain ⟨its, rv, tp, hz⟩ := I.tuple hq
    obtain ⟨u, hu, ru⟩ := rv.get hx
    have le : e < s.heap.objs.size := Heap.lt_size he
    have li : it < s.heap.objs.size := by obtain ⟨_, q, _⟩ := hit; exact Heap.lt_size q
    have dr := Draws.tuple (prog := X.prog) (w := X.w) (A := X.A.in1) (show X.A.in1.handled = none from I.ok.hd hc) it a hia its.toArray
    have ilt : i < its.toArray.size := by simpa using (List.getElem?_eq_some_iff.mp hu).1
    have nin : e ∉ [it, a] := by simp [ne, Ne.symm hea]
    refine wpAny_pyNext_enum_itemD dr he ⟨hit, tp⟩ ilt ne nin fun y h' tk hy ho hst hT hsz hk => ?_
    have ey : y = u := by
      have : its.toArray[i]? = some u := by simpa using hu
      rw [this] at hy; exact (Option.some.inj hy).symm
    subst ey
    refine ⟨_, rfl, wpAny_letOwnedTupleGo_enum (s := { s with heap := h', toks := tk + 1 }) ho fun h'' he' sb => ?_⟩
    have hT2 : h''.get? s.heap.objs.size = some { cls := .type "tuple", data := .seq #[.int i tk, y] } := (sb.2 _ (Nat.ne_of_gt le)).trans hT
    have nw : ObjOk X.prog X.w (upd H s.heap.objs.size (.tup [.int (i : Nat), x])) h'' s.heap.objs.size (.tup [.int (i : Nat), x]) :=
      ⟨by show 2 ≤ sizeLine; decide, [.int i tk, y], .cons ⟨_, rfl⟩ (.cons ru .nil), ⟨_, hT2, rfl, _, rfl⟩⟩
    have I1 : Inv X pins σ (upd H s.heap.objs.size (.tup [.int (i : Nat), x])) { s with heap := h'', toks := tk + 1 } :=
      I.turnedNew (ch := [e, it]) (fun b ob hb q => (sb.2 b (fun z => hb (by simp [z]))).trans (hk b ob (fun z => hb (by simp [z])) (fun z => hb (by simp [z])) q)) hf (Nat.le_refl _) nw
    refine ⟨.ref s.heap.objs.size, _, I1, rfl, ⟨_, x, rfl, I.hok.fresh (Nat.le_refl _), rfl, fun ys hy => by rw [I.tuple_inj hy hq]; exact hx⟩, ⟨⟨y, ?_⟩, hst.1.at fun o q => (sb.2 it (Ne.symm ne)).trans q, ne⟩, fun b hb => ?_⟩
    · have e1 : ((i + 1 : Nat) : Int) = (i : Int) + 1 := by omega
      rw [e1]; exact he'
    · have lb : b < s.heap.objs.size := by
        have two : b = e ∨ b = it := by simpa using hb
        rcases two with z | z
        · rw [z]; exact le
        · rw [z]; exact li
      rw [upd_ne (Nat.ne_of_lt lb)]
      exact (hf b hb).1
  done := by
    intro X hP hw hK hc i pins s σ H E I hf st hg
    subst hP hw hK
    obtain ⟨⟨old, he⟩, hit, ne⟩ := st
    obtain ⟨xs, hq, hx⟩ := hg
    obtain ⟨its, rv, tp, hz⟩ := I.tuple hq
    obtain ⟨g0, g1, g2, g3, g4, g5⟩ := hf it (by simp)
    have len := rv.length
    have dr := Draws.tuple (prog := X.prog) (w := X.w) (A := X.A.in1) (show X.A.in1.handled = none from I.ok.hd hc) it a hia its.toArray
    have ei : its.toArray.size = i := by simp; omega
    rw [← ei] at hit
    exact wpAny_pyNext_enum_endD dr he ⟨hit, tp⟩ fun h' eb => ⟨rfl, I.turned (t' := s.toks) (fun b o hb q => eb b o hb q) g0 g1 g3 g4 g5⟩
  self := fun A i s Q E st h => let ⟨⟨_, he⟩, _⟩ := st; wpAny_pyIter_enum he h
def iEnumT (K : PySem.W.Frag) (ta : TA) : TI := fun σ H R => ta σ H fun vs H1 => ∃ a xs, vs = [.ref a] ∧ SqT K H1 a xs ∧ R (IteT K a) H1
theorem pi_enumT {X : Cx} {e : Expr} {ta : TA} {p pos tpos : Pos} {elts : List Expr} {kk : Nat} (hg : Gl X "enumerate") (hm : X.mg "enumerate" = none) (ha : PA X [e] ta) (hs : starEach [e] X.env = [(false, eval e X.env)] := by rfl) :
    PI X (.Tuple elts kk tpos) (.Call (.Name "enumerate" p) [e] [] pos) (iEnumT X.K ta) := by
  refine ⟨fun pins s σ H R I h => ?_⟩
  refine Call_ (ld_blt I hg hm boot_enumerate (PyProof.Rows.callWith_type1 (thn (ha.run pos pins s σ H _ I h) fun us s1 ⟨vs, H1, I1, r1, q1⟩ => ?_) hs rfl))
  obtain ⟨a, xs, ex, hq, q⟩ := q1
  subst ex
  cases r1 with
  | cons r rr =>
    cases rr
    cases r
    obtain ⟨its, rv, tp, hz⟩ := I1.tuple hq
    obtain ⟨ot, hot, _⟩ := id tp
    have la : a < s1.heap.objs.size := Heap.lt_size hot
    refine call_enumB (begins_tuple a its.toArray) (show s1.heap.IsTuple a its.toArray from tp) fun h' he hit hk => wpAny_pyIter_enum he ?_
    have I2 : Inv X pins σ H1 { s1 with heap := h' } := I1.kept (t' := s1.toks) hk
    refine ⟨s1.heap.objs.size + 1, [s1.heap.objs.size + 1, s1.heap.objs.size], _, _, H1, rfl, I2, turn_enumT a (s1.heap.objs.size + 1) s1.heap.objs.size (Nat.ne_of_lt (Nat.lt_succ_of_lt la)) (Nat.ne_of_lt la), ⟨⟨.none, he⟩, ⟨_, hit, rfl, rfl⟩, Nat.succ_ne_self _⟩, fun b hb => ?_, q⟩
    have two : b = s1.heap.objs.size + 1 ∨ b = s1.heap.objs.size := by simpa using hb
    have lb : s1.heap.objs.size ≤ b := by
      rcases two with z | z
      · rw [z]; exact Nat.le_add_right _ _
      · rw [z]; exact Nat.le_refl _
    exact I1.fpOk lb (I1.hok.fresh lb)

section
variable {T : List NdefX.NTab} {X : Cx} {pos : Pos}
theorem itEn_rel {r0 : Rm} {s0 : S} {H0 : Hp} {a n : Nat} (ha : a < s0.nx) : ItRel T X.K X.mg r0 s0 H0 (itEn a n) (Ite X.K (r0 a)) := fun i r s H st => by
  have ea := st.kp.eq a ha
  simp only [itEn]
  cases el : s.at_ a with
  | none => exact ⟨(fun _ z => by cases z), fun z => by cases z⟩
  | some o1 =>
    cases o1 with
    | lst l =>
      obtain ⟨_, xs, h1, l1⟩ := st.mt.lst el
      rw [ea] at h1
      have g1 : SqL X.K H (r0 a) xs := .inl (.inl h1)
      show (∀ w, some (l[i]?.map _) = some (some w) → _) ∧ (some (l[i]?.map _) = some none → _)
      rcases l1.get' (i := i) with ⟨e1, e1'⟩ | ⟨w, x, e1, e1', rl⟩
      · rw [e1]
        exact ⟨(fun _ z => by cases z), fun _ => ⟨xs, g1, List.getElem?_eq_none_iff.mp e1'⟩⟩
      · rw [e1]
        refine ⟨fun w' z => ?_, fun z => by cases z⟩
        cases z
        refine ⟨⟨xs, x, g1, e1'⟩, fun v H' hy => ?_⟩
        obtain ⟨p, x', rfl, hp, rfl, f1⟩ := hy
        have z1 := f1 xs g1
        rw [e1'] at z1
        cases z1
        exact yl_tup st.mt hp (.cons mInt (.cons rl .nil))
    | _ => exact ⟨(fun _ z => by cases z), fun z => by cases z⟩
theorem itET_rel {r0 : Rm} {s0 : S} {H0 : Hp} {p : Addr} {l : List W} {xs : List V} (t : TupAt X.K H0 p xs) (l0 : RelWs X.K r0 s0.nx H0 l xs) : ItRel T X.K X.mg r0 s0 H0 (itET l) (IteT X.K p) := fun i r s H st => by
  have g1 : SqT X.K H p xs := (t.kp st.kp).sq
  have l1 := l0.kp st.kp
  simp only [itET]
  by_cases hi : i ≤ l.length
  · rw [if_pos hi]
    rcases l1.get' (i := i) with ⟨e1, e1'⟩ | ⟨w, x, e1, e1', rl⟩
    · rw [e1]
      refine ⟨(fun _ z => by cases z), fun _ => ⟨xs, g1, ?_⟩⟩
      have z1 := List.getElem?_eq_none_iff.mp e1'
      have z2 := l1.len
      omega
    · rw [e1]
      refine ⟨fun w' z => ?_, fun z => by cases z⟩
      cases z
      refine ⟨⟨xs, x, g1, e1'⟩, fun v H' hy => ?_⟩
      obtain ⟨p', x', rfl, hp, rfl, f1⟩ := hy
      have z1 := f1 xs g1
      rw [e1'] at z1
      cases z1
      exact yl_tup st.mt hp (.cons mInt (.cons rl .nil))
  · rw [if_neg hi]
    exact ⟨(fun _ z => by cases z), fun z => by cases z⟩
theorem itEF_rel {r0 : Rm} {s0 : S} {H0 : Hp} {p : Addr} {l : List W} {xs : List V} (f : r0.F p) (t : H0 p = some (.lst xs)) (l0 : RelWs X.K r0 s0.nx H0 l xs) : ItRel T X.K X.mg r0 s0 H0 (itET l) (Ite X.K p) := fun i r s H st => by
  have g1 : SqL X.K H p xs := .inl (.inl (st.kp.lst p _ f t))
  have l1 := l0.kp st.kp
  simp only [itET]
  by_cases hi : i ≤ l.length
  · rw [if_pos hi]
    rcases l1.get' (i := i) with ⟨e1, e1'⟩ | ⟨w, x, e1, e1', rl⟩
    · rw [e1]
      exact ⟨(fun _ z => by cases z), fun _ => ⟨xs, g1, List.getElem?_eq_none_iff.mp e1'⟩⟩
    · rw [e1]
      refine ⟨fun w' z => ?_, fun z => by cases z⟩
      cases z
      refine ⟨⟨xs, x, g1, e1'⟩, fun v H' hy => ?_⟩
      obtain ⟨p, x', rfl, hp, rfl, f1⟩ := hy
      have z1 := f1 xs g1
      rw [e1'] at z1
      cases z1
      exact yl_tup st.mt hp (.cons mInt (.cons rl .nil))
  · rw [if_neg hi]
    exact ⟨(fun _ z => by cases z), fun z => by cases z⟩
end
end RS
set_option Elab.async false
set_option linter.all false
set_option maxRecDepth 100000
set_option maxHeartbeats 1000000
set_option autoImplicit false
/-! RS.C10b: enumerate of a dict that is not written. -/
namespace RS
open PySem PySem.Spec PyProof.Rows L2

section
variable {prog : Program} {w : World} {A : Around} {E : Value → Shared → Prop} {s : Shared} {K : Type} [DecidableEq K] {knd : PySem.KeyKind prog w K}
theorem nextOf_dict_item {it d : Addr} {i ep : Nat} {kvs : List (K × Value)} {Q : Value → Shared → Prop} (hit : s.heap.IsKeyIter it d i kvs.length ep)
    (hm : s.heap.DictAt knd d kvs ep) (hlt : i < kvs.length)
    (hQ : ∀ key h', knd.is kvs[i].1 key = true → h'.IsKeyIter it d (i + 1) kvs.length ep → Heap.SameBut it s.heap h' → Q key { s with heap := h' }) :
    wpAny (model prog w) A (Builtin.SmallTypes.nextOf (.ref it)) Q E s := by
  obtain ⟨o, ho, hc, hd⟩ := id hit
  obtain ⟨od, es, hod, hcd, hdd, hk, hp, hn⟩ := id hm
  unfold Builtin.SmallTypes.nextOf
  refine wpAny_bind (wpAny_callSpecial?_slot (name := Str.ofString "__next__") hit.typeIs F.slot_dict_keyiterator_next
    (wpAny_call_entry F.slot_dict_keyiterator_next hit.typeIs F.entry_dict_keyiterator_next ?_ (F.args_dict_keyiterator_next_1 _)))
  refine wpAny_bind (wpAny_pure ?_)
  refine wpAny_bind ?_
  refine wpAny_bind ?_
  first | refine wpAny_bind (wpAny_typeNameOfWhole_keyiter hit.typeIs (wpAny_pure ?_)) | refine wpAny_bind (wpAny_typeNameOf_keyiter hit.typeIs (wpAny_pure ?_))
  refine wpAny_bind (wpAny_fieldsOf ho hd ?_)
  have hown : Builtin.Dict_items.ownsTuple "dict_keyiterator" = false := by decide
  simp only [hown, Bool.false_eq_true, if_false]
  show wpAny _ _ (if (Value.ref d == Value.none) = true then _ else _) _ _ s
  rw [if_neg (show ¬ ((Value.ref d == Value.none) = true) from Bool.false_ne_true)]
  refine wpAny_bind (wpAny_pure ?_)
  refine wpAny_bind (wpAny_dictEntries hod hdd ?_)
  have hsz : es.size = kvs.length := by rw [← hp.length]; simp
  rw [if_neg (by rw [hsz]; simp)]
  refine wpAny_bind (wpAny_pure ?_)
  refine wpAny_bind (wpAny_dictEpoch hod hdd ?_)
  rw [if_neg (by simp)]
  refine wpAny_pure ?_
  have hlt' : i < es.size := by rw [hsz]; exact hlt
  have hkey : knd.is kvs[i].1 es[i].key = true := (hp.get? (e := es[i]) (by simp [hlt']) (List.getElem?_eq_getElem hlt)).1
  simp only [show ¬ ((i : Int) < 0) from by omega, if_false, Int.toNat_natCast, Array.getElem?_eq_getElem hlt']
  refine wpAny_bind ?_
  first | refine wpAny_bind (wpAny_typeNameOfWhole_keyiter hit.typeIs (wpAny_pure ?_)) | refine wpAny_bind (wpAny_typeNameOf_keyiter hit.typeIs (wpAny_pure ?_))
  refine wpAny_bind (wpAny_isOneOf_keyiter hit.typeIs ?_)
  show wpAny _ _ (setField (.ref it) 1 (rawInt ((i : Int) + 1)) >>= _) _ _ s
  refine wpAny_bind (wpAny_setField ho hd (by simp) ?_)
  have hit' : (s.heap.update it (Obj.mapFields (·.setIfInBounds 1 (rawInt ((i : Int) + 1))))).IsKeyIter it d (i + 1) kvs.length ep :=
    ⟨_, Heap.get?_update_self _ ho (Obj.isFreed_of_fields (Obj.data_mapFields hd _)), (Obj.cls_mapFields ..).trans hc, by rw [Obj.data_mapFields hd]; simp [rawInt]⟩
  refine wpAny_bind (wpAny_holding ?_)
  refine wpAny_bind (wpAny_isOneOf_keyiter (s := { s with heap := s.heap.update it (Obj.mapFields (·.setIfInBounds 1 (rawInt ((i : Int) + 1)))) }) hit'.typeIs ?_)
  show wpAny _ _ (pure es[i].key) _ _ _
  exact wpAny_pure (wpAny_pure ⟨_, rfl, wpAny_pure (hQ _ _ hkey hit' (Heap.SameBut.update ..))⟩)
theorem nextOf_dict_end {it d : Addr} {ep : Nat} {kvs : List (K × Value)} {Q : Value → Shared → Prop} (hh : A.handled = none) (hit : s.heap.IsKeyIter it d kvs.length kvs.length ep)
    (hm : s.heap.DictAt knd d kvs ep)
    (hE : ∀ h' e, Heap.ExtBut it s.heap h' → (∃ o, h'.get? e = some o ∧ o.cls = .type "StopIteration") → E (.ref e) { s with heap := h' }) :
    wpAny (model prog w) A (Builtin.SmallTypes.nextOf (.ref it)) Q E s := by
  obtain ⟨o, ho, hc, hd⟩ := id hit
  obtain ⟨od, es, hod, hcd, hdd, hk, hp, hn⟩ := id hm
  unfold Builtin.SmallTypes.nextOf
  refine wpAny_bind (wpAny_callSpecial?_slot (name := Str.ofString "__next__") hit.typeIs F.slot_dict_keyiterator_next
    (wpAny_call_entry F.slot_dict_keyiterator_next hit.typeIs F.entry_dict_keyiterator_next ?_ (F.args_dict_keyiterator_next_1 _)))
  refine wpAny_bind (wpAny_pure ?_)
  refine wpAny_bind ?_
  refine wpAny_bind ?_
  first | refine wpAny_bind (wpAny_typeNameOfWhole_keyiter hit.typeIs (wpAny_pure ?_)) | refine wpAny_bind (wpAny_typeNameOf_keyiter hit.typeIs (wpAny_pure ?_))
  refine wpAny_bind (wpAny_fieldsOf ho hd ?_)
  have hown : Builtin.Dict_items.ownsTuple "dict_keyiterator" = false := by decide
  simp only [hown, Bool.false_eq_true, if_false]
  show wpAny _ _ (if (Value.ref d == Value.none) = true then _ else _) _ _ s
  rw [if_neg (show ¬ ((Value.ref d == Value.none) = true) from Bool.false_ne_true)]
  refine wpAny_bind (wpAny_pure ?_)
  refine wpAny_bind (wpAny_dictEntries hod hdd ?_)
  have hsz : es.size = kvs.length := by rw [← hp.length]; simp
  rw [if_neg (by rw [hsz]; simp)]
  refine wpAny_bind (wpAny_pure ?_)
  refine wpAny_bind (wpAny_dictEpoch hod hdd ?_)
  rw [if_neg (by simp)]
  refine wpAny_pure ?_
  have hge' : es.size ≤ kvs.length := by rw [hsz]; exact Nat.le_refl _
  simp only [show ¬ ((kvs.length : Int) < 0) from by omega, if_false, Int.toNat_natCast, Array.getElem?_eq_none hge']
  refine wpAny_bind ?_
  first | refine wpAny_bind (wpAny_typeNameOfWhole_keyiter hit.typeIs (wpAny_pure ?_)) | refine wpAny_bind (wpAny_typeNameOf_keyiter hit.typeIs (wpAny_pure ?_))
  show wpAny _ _ (setField (.ref it) 0 .none >>= _) _ _ s
  refine wpAny_bind (wpAny_setField ho hd (by simp) ?_)
  show wpAny _ _ (newExc (.type "StopIteration") [] >>= _) _ _ _
  refine wpAny_bind ?_
  simp only [newExc, newTuple]
  refine wpAny_bind (wpAny_newObj_type ?_ (by size_fits))
  refine wpAny_bind (m := firstArgMember _ _) (wpAny_of_eq (a := Value.none) (by first | rfl | (simp only [firstArgMember]; rfl)) ?_)
  refine wpAny_newObj_type ?_ (by size_fits)
  simp only [raiseNew]
  refine wpAny_bind (wpAny_handled ?_)
  first | rw [show A.in1.handled = none from hh] | rw [hh]
  refine wpAny_bind (wpAny_pure (wpAny_throw ?_))
  exact hE _ _ (((Heap.SameBut.update ..).extBut.push _).push _) ⟨_, Heap.get?_push_size _ rfl, rfl⟩
end
theorem drawsKeys {prog : Program} {w : World} {A : Around} {K : Type} [DecidableEq K] {knd : PySem.KeyKind prog w K} (hh : A.handled = none) (it d : Addr) (hne : d ≠ it) {ep : Nat} (kvs : List (K × Value)) :
    Draws prog w A it [it, d] kvs.length (fun i v => ∀ k x, kvs[i]? = some (k, x) → knd.is k v = true) (fun i h => h.IsKeyIter it d i kvs.length ep ∧ h.DictAt knd d kvs ep) where
  live := fun _ _ st => let ⟨o, ho, _⟩ := st.1; ⟨o, ho⟩
  frame := fun _ _ _ st hk => ⟨st.1.at fun o e => hk it (by simp) o e, by
    obtain ⟨od, es, h1, h2⟩ := st.2
    exact ⟨od, es, hk d (by simp) _ h1, h2⟩⟩
  item := fun i s Q E hi st hQ => by
    refine nextOf_dict_item st.1 st.2 hi fun key h' hk hit' hs' => ?_
    refine hQ _ h' s.toks (fun k x e => ?_) ⟨hit', ?_⟩ hs'
    · rw [List.getElem?_eq_getElem hi] at e
      cases e' : kvs[i]
      rw [e'] at e hk
      cases e
      exact hk
    · obtain ⟨od, es, h1, h2⟩ := st.2
      exact ⟨od, es, (hs'.2 d hne).trans h1, h2⟩
  done := fun s Q E st hE => nextOf_dict_end hh st.1 st.2 hE
/-- enumerate of the frozen dict at d -/
def IteD (d : Addr) (o : Obj) (kvs : List (Key × V)) : It :=
  ⟨fun i H => H d = some (.frz o (.dK kvs)) ∧ i < kvs.length, fun i H v H' => ∃ p k x, v = .ref p ∧ H p = none ∧ H' = upd H p (.tup [.int (i : Nat), kV k]) ∧ kvs[i]? = some (k, x), fun i H => H d = some (.frz o (.dK kvs)) ∧ kvs.length ≤ i⟩
theorem turn_enumD {P : Program} {w : World} {K : PySem.W.Frag} {elts : List Expr} {kk : Nat} {tpos : Pos} {d : Addr} {o : Obj} {es : Array DictEntry} {ep : Nat} {kvs : List (Key × V)} (e it : Addr) (hea : d ≠ e) (hia : d ≠ it) (hod : o.data = .dict es ep) :
    Turn P w K (.Tuple elts kk tpos) (IteD d o kvs) [e, it] e (fun i h => (∃ old, IsEnum h e it ((i : Nat) : Int) old) ∧ h.IsKeyIter it d i kvs.length ep ∧ e ≠ it ∧ i ≤ kvs.length) where
  mem := by simp
  obj := fun i h st b hb => by
    obtain ⟨⟨old, he⟩, ⟨o, ho, _, hd⟩, _⟩ := st
    have two : b = e ∨ b = it := by simpa using hb
    rcases two with z | z
    · rw [z]; exact ⟨_, he, fun v q => nomatch q⟩
    · rw [z]; exact ⟨o, ho, fun v q => by rw [hd] at q; cases q⟩
  keep := fun i h h' st kp => let ⟨⟨old, he⟩, hi, ne⟩ := st; ⟨⟨old, kp e (by simp) _ he⟩, hi.at fun o q => kp it (by simp) o q, ne⟩
  item := by
    intro X hP hw hK hc i pins s σ H E I hf st hg
    subst hP hw hK
    obtain ⟨⟨old, he⟩, hit, ne, hle⟩ := st
    obtain ⟨hq, hx⟩ := hg
    obtain ⟨hs, hgd, hx2, es', ep', vs, hdt, hsz, kv, hm⟩ := I.frzK hq
    obtain ⟨rfl, rfl⟩ := dict_ep hod hdt
    have hl : kvs.length = vs.length := Paired.length kv
    rw [hl] at hit
    have le : e < s.heap.objs.size := Heap.lt_size he
    have li : it < s.heap.objs.size := by obtain ⟨_, q, _⟩ := hit; exact Heap.lt_size q
    have dr := drawsKeys (prog := X.prog) (w := X.w) (A := X.A.in1) (show X.A.in1.handled = none from I.ok.hd hc) it d hia (ep := ep') (knd := mixKind X.prog X.w) vs
    have nin : e ∉ [it, d] := by simp [ne, Ne.symm hea]
    refine wpAny_pyNext_enum_itemD dr he ⟨hit, hm⟩ (by omega) ne nin fun y h' tk hy ho hst hT hsz hk => ?_
    obtain ⟨⟨k, x⟩, hkv⟩ : ∃ p, kvs[i]? = some p := ⟨kvs[i], List.getElem?_eq_getElem hx⟩
    obtain ⟨u, hu, ru⟩ := kv_get kv hkv
    have ry : L2.RelV (kV k) y := relV_key (hy k u hu)
    refine ⟨_, rfl, wpAny_letOwnedTupleGo_enum (s := { s with heap := h', toks := tk + 1 }) ho fun h'' he' sb => ?_⟩
    have hT2 : h''.get? s.heap.objs.size = some { cls := .type "tuple", data := .seq #[.int i tk, y] } := (sb.2 _ (Nat.ne_of_gt le)).trans hT
    have nw : ObjOk X.prog X.w (upd H s.heap.objs.size (.tup [.int (i : Nat), kV k])) h'' s.heap.objs.size (.tup [.int (i : Nat), kV k]) :=
      ⟨by show 2 ≤ sizeLine; decide, [.int i tk, y], .cons ⟨_, rfl⟩ (.cons ry .nil), ⟨_, hT2, rfl, _, rfl⟩⟩
    have I1 : Inv X pins σ (upd H s.heap.objs.size (.tup [.int (i : Nat), kV k])) { s with heap := h'', toks := tk + 1 } :=
      I.turnedNew (ch := [e, it]) (fun b ob hb q => (sb.2 b (fun z => hb (by simp [z]))).trans (hk b ob (fun z => hb (by simp [z])) (fun z => hb (by simp [z])) q)) hf (Nat.le_refl _) nw
    refine ⟨.ref s.heap.objs.size, _, I1, rfl, ⟨_, k, x, rfl, I.hok.fresh (Nat.le_refl _), rfl, hkv⟩, ⟨⟨y, ?_⟩, ?_, ne, hx⟩, fun b hb => ?_⟩
    · have e1 : ((i + 1 : Nat) : Int) = (i : Int) + 1 := by omega
      rw [e1]; exact he'
    · rw [hl]
      exact hst.1.at fun o q => (sb.2 it (Ne.symm ne)).trans q
    · have lb : b < s.heap.objs.size := by
        have two : b = e ∨ b = it := by simpa using hb
        rcases two with z | z
        · rw [z]; exact le
        · rw [z]; exact li
      rw [upd_ne (Nat.ne_of_lt lb)]
      exact (hf b hb).1
  done := by
    intro X hP hw hK hc i pins s σ H E I hf st hg
    subst hP hw hK
    obtain ⟨⟨old, he⟩, hit, ne, hle⟩ := st
    obtain ⟨hq, hx⟩ := hg
    obtain ⟨hs, hgd, hx2, es', ep', vs, hdt, hsz, kv, hm⟩ := I.frzK hq
    obtain ⟨rfl, rfl⟩ := dict_ep hod hdt
    have hl : kvs.length = vs.length := Paired.length kv
    obtain ⟨g0, g1, g2, g3, g4, g5⟩ := hf it (by simp)
    have dr := drawsKeys (prog := X.prog) (w := X.w) (A := X.A.in1) (show X.A.in1.handled = none from I.ok.hd hc) it d hia (ep := ep') (knd := mixKind X.prog X.w) vs
    have hx : kvs.length ≤ i := hx
    have le : i = vs.length := by omega
    subst le
    rw [hl] at hit
    exact wpAny_pyNext_enum_endD dr he ⟨hit, hm⟩ fun h' eb => ⟨rfl, I.turned (t' := s.toks) (fun b o hb q => eb b o hb q) g0 g1 g3 g4 g5⟩
  self := fun A i s Q E st h => let ⟨⟨_, he⟩, _⟩ := st; wpAny_pyIter_enum he h
def iEnumD (ta : TA) : TI := fun σ H R => ta σ H fun vs H1 => ∃ d o kvs, vs = [.ref d] ∧ H1 d = some (.frz o (.dK kvs)) ∧ R (IteD d o kvs) H1
theorem begins_dict {d : Addr} {o : Obj} {es : Array DictEntry} {ep : Nat} (hd : (d == sysModules) = false) (hc : o.ExactDict) (hdat : o.data = .dict es ep) :
    Begins (.ref d) { cls := .type "dict_keyiterator", data := .fields #[.ref d, .int 0 0, .int es.size 0, .int ep 0] } fun h => h.get? d = some o where
  iter := fun prog w A E s Q hl h => iter_keys hd hl hc hdat h
  keeps := fun h h' x hk => hk d o x
  free := rfl
theorem pi_enumD {X : Cx} {e : Expr} {ta : TA} {p pos tpos : Pos} {elts : List Expr} {kk : Nat} (hg : Gl X "enumerate") (hm : X.mg "enumerate" = none) (ha : PA X [e] ta) (hs : starEach [e] X.env = [(false, eval e X.env)] := by rfl) :
    PI X (.Tuple elts kk tpos) (.Call (.Name "enumerate" p) [e] [] pos) (iEnumD ta) := by
  refine ⟨fun pins s σ H R I h => ?_⟩
  refine Call_ (ld_blt I hg hm boot_enumerate (PyProof.Rows.callWith_type1 (thn (ha.run pos pins s σ H _ I h) fun us s1 ⟨vs, H1, I1, r1, q1⟩ => ?_) hs rfl))
  obtain ⟨d, o, kvs, ex, hq, q⟩ := q1
  subst ex
  cases r1 with
  | cons r rr =>
    cases rr
    cases r
    obtain ⟨hs2, hgd, hx2, es, ep, vs, hdt, hsz, kv, hm2⟩ := I1.frzK hq
    have la : d < s1.heap.objs.size := Heap.lt_size hgd
    refine call_enumB (begins_dict hs2 hx2 hdt) hgd fun h' he hit hk => wpAny_pyIter_enum he ?_
    have I2 : Inv X pins σ H1 { s1 with heap := h' } := I1.kept (t' := s1.toks) hk
    refine ⟨s1.heap.objs.size + 1, [s1.heap.objs.size + 1, s1.heap.objs.size], _, _, H1, rfl, I2, turn_enumD (s1.heap.objs.size + 1) s1.heap.objs.size (Nat.ne_of_lt (Nat.lt_succ_of_lt la)) (Nat.ne_of_lt la) hdt, ⟨⟨.none, he⟩, ⟨_, hit, rfl, by rw [hsz]; rfl⟩, Nat.succ_ne_self _, Nat.zero_le _⟩, fun b hb => ?_, q⟩
    have two : b = s1.heap.objs.size + 1 ∨ b = s1.heap.objs.size := by simpa using hb
    have lb : s1.heap.objs.size ≤ b := by
      rcases two with z | z
      · rw [z]; exact Nat.le_add_right _ _
      · rw [z]; exact Nat.le_refl _
    exact I1.fpOk lb (I1.hok.fresh lb)
section
variable {T : List NdefX.NTab} {X : Cx} {pos : Pos}
theorem itED_rel {r0 : Rm} {s0 : S} {H0 : Hp} {p : Addr} {od : Obj} {kvs : List (Key × V)} (f : r0.F p) (t : H0 p = some (.frz od (.dK kvs))) : ItRel T X.K X.mg r0 s0 H0 (itET ((kvs.map (·.1)).map kW)) (IteD p od kvs) := fun i r s H st => by
  have h1 := st.kp.lst p _ f t
  simp only [itET, List.length_map]
  by_cases hi : i ≤ kvs.length
  · rw [if_pos hi, List.getElem?_map, List.getElem?_map]
    cases e : kvs[i]? with
    | none => exact ⟨(fun _ z => by cases z), fun _ => ⟨h1, List.getElem?_eq_none_iff.mp e⟩⟩
    | some q =>
      refine ⟨fun w' z => ?_, fun z => by cases z⟩
      cases z
      refine ⟨⟨h1, (List.getElem?_eq_some_iff.mp e).1⟩, fun v H' hy => ?_⟩
      obtain ⟨p', k', x', rfl, hp, rfl, f1⟩ := hy
      rw [e] at f1
      cases f1
      exact yl_tup st.mt hp (.cons mInt (.cons relW_kV .nil))
  · rw [if_neg hi]
    exact ⟨(fun _ z => by cases z), fun z => by cases z⟩
theorem ri_enum {e : Expr} {m : E} {p tpos : Pos} {elts : List Expr} {kk : Nat} (hg : Gl X "enumerate") (hm : X.mg "enumerate" = none) (h : RA T X [e] (eCons m eNil)) (hs : starEach [e] X.env = [(false, eval e X.env)] := by rfl) :
    RI T X (.Tuple elts kk tpos) (.Call (.Name "enumerate" p) [e] [] pos) (iEn (eCons m eNil)) := fun Wx tk => ⟨fun pins s σ H R I hw => by
  obtain ⟨r, ρ, S, mm, q⟩ := hw
  unfold iEn at q
  cases e0 : eCons m eNil ρ S with
  | ex c s1 =>
    rw [e0] at q
    exact (pi_enum hg hm (h Wx tk) hs).run pins s σ H R I ⟨r, ρ, S, mm, by rw [e0]; exact fun r' H' x => q r' H' x⟩
  | bad => rw [e0] at q; exact False.elim q
  | ok ws s1 =>
    rw [e0] at q
    obtain ⟨w, rfl⟩ := one_ok e0
    simp only [Out.bind] at q
    cases w <;> first | exact False.elim q | skip
    · rename_i l
      refine (pi_enumT hg hm (h Wx tk) hs).run pins s σ H R I ⟨r, ρ, S, mm, ?_⟩
      rw [e0]
      intro r1 H1 v st rl
      obtain ⟨x, rfl, rl2⟩ := rl.one
      obtain ⟨p, xs, rfl, t1, l1⟩ := rTup rl2
      exact ⟨p, xs, rfl, t1.sq, q r1 H1 _ st (itET_rel t1 l1)⟩
    · simp only at q
      split at q
      · rename_i l el
        refine (pi_enum hg hm (h Wx tk) hs).run pins s σ H R I ⟨r, ρ, S, mm, ?_⟩
        rw [e0]
        intro r1 H1 v st rl
        obtain ⟨x, rfl, rl2⟩ := rl.one
        obtain ⟨ha, rfl⟩ := rRef rl2
        obtain ⟨_, xs, h1, l1⟩ := st.mt.lst el
        exact ⟨_, xs, rfl, .inl (.inl h1), q r1 H1 _ st (itEn_rel ha)⟩
      · exact False.elim q
    · rename_i l
      refine (pi_enum hg hm (h Wx tk) hs).run pins s σ H R I ⟨r, ρ, S, mm, ?_⟩
      rw [e0]
      intro r1 H1 v st rl
      obtain ⟨x, rfl, rl2⟩ := rl.one
      obtain ⟨p, xs, rfl, f, h1, l1⟩ := rLst rl2
      exact ⟨_, xs, rfl, .inl (.inl h1), q r1 H1 _ st (itEF_rel f h1 l1)⟩
    · rename_i ks l
      refine (pi_enumD hg hm (h Wx tk) hs).run pins s σ H R I ⟨r, ρ, S, mm, ?_⟩
      rw [e0]
      intro r1 H1 v st rl
      obtain ⟨x, rfl, rl2⟩ := rl.one
      obtain ⟨p, od, kvs, rfl, f, h1, rfl, l1⟩ := rDct rl2
      exact ⟨p, od, kvs, rfl, h1, q r1 H1 _ st (itED_rel f h1)⟩⟩
end
end RS
set_option Elab.async false
set_option linter.all false
set_option maxRecDepth 100000
set_option autoImplicit false
/-! RS.C11: calls, bodies, raise. -/
namespace RS
open PySem PySem.Spec PyProof.Rows L2

/-! ### plain side -/
def eCall (m : List W → M W) (ms : Es) : E := fun ρ s => (ms ρ s).bind m
def eMeth (c f : Str) (m : List W → M W) (o : E) (ms : Es) : E := fun ρ s => (o ρ s).bind fun x s1 => match x with
  | .ref a => match s1.at_ a with
    | some (.ins c' fs) => if c' = c ∧ fs.lookup f = none then (ms ρ s1).bind fun ws s2 => m (.ref a :: ws) s2 else .bad
    | _ => .bad
  | _ => .bad
def eMake (c : Str) (m : List W → M W) (ms : Es) : E := fun ρ s => (ms ρ s).bind fun ws s1 => (m (.ref s1.nx :: ws) (s1.new (.ins c []))).bind fun w s2 => match w with
  | .non => .ok (.ref s1.nx) s2
  | _ => .bad
def env0 (n : Nat) (ws : List W) : Env := ws.map some ++ List.replicate (n - ws.length) none
def bodyM (n : Nat) (b : B) (ws : List W) : M W := fun s => match b (env0 n ws) s with
  | .nx _ s' => .ok .non s'
  | .rt w s' => .ok w s'
  | .ex c s' => .ex c s'
  | _ => .bad

/-! ### promises -/
def EW (mg : Str → Option Value) (Ex : XK) : Wish := fun c H => ∀ C, mg c = some (.ref C) → Ex (.ref C) none H
def spR (T : List NdefX.NTab) (K : PySem.W.Frag) (mg : Str → Option Value) (n : Nat) (m : List W → M W) : Sp := fun vs H Q Ex => vs.length = n ∧ ∃ r s ws, Mt T K mg r s H ∧ RelWs K r s.nx H ws vs ∧ PostE T K mg r s H (m ws s) Q (EW mg Ex)
theorem PostE.mono {T : List NdefX.NTab} {K : PySem.W.Frag} {mg : Str → Option Value} {r : Rm} {s : S} {H : Hp} {o : Out W} {Q Q' : VK} {X X' : Wish} (h : PostE T K mg r s H o Q X) (hq : ∀ v H, Q v H → Q' v H) (hx : ∀ c H, X c H → X' c H) : PostE T K mg r s H o Q' X' := by
  cases o with
  | ok w s' => exact fun r' H' v st l => hq _ _ (h r' H' v st l)
  | ex c s' => exact fun r' H' st => hx _ _ (h r' H' st)
  | bad => exact h
section
variable {T : List NdefX.NTab} {X : Cx} {pos : Pos}
theorem passR {Wx : Wish} {L : Addr} (hf : X.env.frame = some L) (tk : Tk X Wx) : Passes (L2.CX X.prog X.w) X (WxV X Wx) := fun pins σ H s e s' I c => tk e s' (XEF.of_call hf I (fun _ _ _ h => h) c)
theorem ew_wx {Wx : Wish} {c : Str} {H : Hp} (h : Wx c H) : EW X.mg (WxV X Wx) c H := fun C e => ⟨rfl, c, C, rfl, e, h⟩
section
variable {k n : Nat} {f : Addr} {fd : FuncData} {ps : List Str} {m : List W → M W} {x : Str} {p : Pos} {e : Expr} {es : List Expr} {ms : Es} {L : Addr}
/-- f(..) -/
theorem rs_call (F : FnOk X.prog X.w X.K X.mg X.base (L2.CX X.prog X.w) k f fd ps (spR T X.K X.mg n m)) (hn : n = es.length + 1) (hl : ∀ ρ s ws s', ms ρ s = .ok ws s' → ws.length = n) (hf : X.env.frame = some L) (hr : Room k X.A) (hm : X.mg x = some (.ref f)) (hk : PySem.W.keepIn X.K (.ref f) = true) (hb : Binds X.K fd ps []) (ha : RA T X (e :: es) ms) (hg : Gl X x := by rfl)
    (hdb : (x == ("__debug__" : Str)) = false := by decide) (he : starEach (e :: es) X.env = (false, eval e X.env) :: starEach es X.env := by rfl) (hpl : (backTo pos (starEach es X.env)).any (·.1) = false := by rfl) : RE T X (.Call (.Name x p) (e :: es) [] pos) (eCall m ms) := fun Wx tk => by
  refine (pe_call F hr hg hm hk hb (dvs := []) .nil (passR hf tk) (ha Wx tk) hdb he hpl).imp fun σ H Q h => ?_
  obtain ⟨r, ρ, s, mm, q⟩ := h
  unfold eCall at q
  refine rdA.go mm (fun ws s1 e1 r1 H1 vs p1 l1 m1 => ?_) (fun c s1 e1 r1 H1 p1 => ?_) (fun e1 => ?_)
  · rw [e1] at q
    rw [List.append_nil]
    exact ⟨by rw [← l1.len]; exact hl _ _ _ _ e1, r1, s1, ws, m1.mt, l1, (PostE.shift q p1).mono (fun _ _ z => z) fun c H z => ew_wx z⟩
  · rw [e1] at q; exact q r1 H1 p1
  · rw [e1] at q; exact q
theorem rs_call0 (F : FnOk X.prog X.w X.K X.mg X.base (L2.CX X.prog X.w) k f fd ps (spR T X.K X.mg 0 m)) (hf : X.env.frame = some L) (hr : Room k X.A) (hm : X.mg x = some (.ref f)) (hk : PySem.W.keepIn X.K (.ref f) = true) (hb : Binds X.K fd ps []) (hg : Gl X x := by rfl)
    (hdb : (x == ("__debug__" : Str)) = false := by decide) : RE T X (.Call (.Name x p) [] [] pos) (eCall m eNil) := fun Wx tk => by
  refine (pe_call0 F hr hg hm hk hb (dvs := []) .nil (passR hf tk) hdb).imp fun σ H Q h => ?_
  obtain ⟨r, ρ, s, mm, q⟩ := h
  exact ⟨rfl, r, s, [], mm.mt, .nil, PostE.mono q (fun _ _ z => z) fun c H z => ew_wx z⟩
/-- C(..) -/
theorem rs_make {C : Addr} (Mk' : Mk X.K C f) (F : FnOk X.prog X.w X.K X.mg X.base (L2.CX X.prog X.w) k f fd ps (spR T X.K X.mg (n + 1) m)) (hl : ∀ ρ s ws s', ms ρ s = .ok ws s' → ws.length = n) (hf : X.env.frame = some L) (hr : Room (k + 1) X.A) (hm : X.mg x = some (.ref C)) (hb : Binds X.K fd ps []) (ha : RA T X (e :: es) ms) (hg : Gl X x := by rfl)
    (hdb : (x == ("__debug__" : Str)) = false := by decide) (he : starEach (e :: es) X.env = (false, eval e X.env) :: starEach es X.env := by rfl) (hpl : (backTo pos (starEach es X.env)).any (·.1) = false := by rfl) : RE T X (.Call (.Name x p) (e :: es) [] pos) (eMake x m ms) := fun Wx tk => by
  refine (pe_make Mk' F hr hg hm hb (dvs := []) .nil (passR hf tk) (ha Wx tk) hdb he hpl).imp fun σ H Q h => ?_
  obtain ⟨r, ρ, s, mm, q⟩ := h
  unfold eMake at q
  refine rdA.go mm (fun ws s1 e1 r1 H1 vs p1 l1 m1 => ?_) (fun c s1 e1 r1 H1 p1 => ?_) (fun e1 => ?_)
  · rw [e1] at q
    intro y dx hy hd ne
    have j1 : Stp T X.K X.mg r1 s1 H1 r1 s1 (upd H1 dx (.own y)) := m1.mt.junk hd
    have hy2 : upd H1 dx (.own y) y = none := by rw [upd_ne (Ne.symm ne)]; exact hy
    have j2 : Stp T X.K X.mg r1 s1 (upd H1 dx (.own y)) (rN r1 s1.nx y) (s1.new (.ins x [])) (upd (upd H1 dx (.own y)) y (.ins C dx [])) := j1.mt.new hy2 ⟨C, dx, [], rfl, hm, .nil⟩
    have st := j1.trans j2
    have hy3 : RelW X.K (rN r1 s1.nx y) (s1.new (.ins x [])).nx (upd (upd H1 dx (.own y)) y (.ins C dx [])) (.ref s1.nx) (.ref y) := by
      unfold RelW
      exact ⟨Nat.lt_succ_self _, by rw [rN_at]⟩
    rw [List.append_nil]
    refine ⟨?_, _, _, .ref s1.nx :: ws, j2.mt, .cons hy3 (RelWs.kp st.kp l1), ?_⟩
    · have z := l1.len
      have z2 := hl _ _ _ _ e1
      simp only [List.length_cons]; omega
    simp only [Out.bind] at q
    cases e2 : m (.ref s1.nx :: ws) (s1.new (.ins x [])) with
    | ok w s2 =>
      rw [e2] at q
      intro r2 H2 v p2 l2
      cases w <;> first | exact False.elim q | skip
      obtain rfl := rNon l2
      refine ⟨rfl, q r2 H2 _ (p1.trans (st.trans p2)) ?_⟩
      exact hy3.kp p2.kp
    | ex c s2 =>
      rw [e2] at q
      exact fun r2 H2 p2 => ew_wx (q r2 H2 (p1.trans (st.trans p2)))
    | bad => rw [e2] at q; exact q
  · rw [e1] at q; exact q r1 H1 p1
  · rw [e1] at q; exact q
theorem rs_make0 {C : Addr} (Mk' : Mk X.K C f) (F : FnOk X.prog X.w X.K X.mg X.base (L2.CX X.prog X.w) k f fd ps (spR T X.K X.mg 1 m)) (hf : X.env.frame = some L) (hr : Room (k + 1) X.A) (hm : X.mg x = some (.ref C)) (hb : Binds X.K fd ps []) (hg : Gl X x := by rfl)
    (hdb : (x == ("__debug__" : Str)) = false := by decide) : RE T X (.Call (.Name x p) [] [] pos) (eMake x m eNil) := fun Wx tk => by
  refine (pe_make0 Mk' F hr hg hm hb (dvs := []) .nil (passR hf tk) hdb).imp fun σ H Q h => ?_
  obtain ⟨r, ρ, s1, mm, q⟩ := h
  unfold eMake at q
  intro y dx hy hd ne
  have j1 : Stp T X.K X.mg r s1 H r s1 (upd H dx (.own y)) := mm.mt.junk hd
  have hy2 : upd H dx (.own y) y = none := by rw [upd_ne (Ne.symm ne)]; exact hy
  have j2 : Stp T X.K X.mg r s1 (upd H dx (.own y)) (rN r s1.nx y) (s1.new (.ins x [])) (upd (upd H dx (.own y)) y (.ins C dx [])) := j1.mt.new hy2 ⟨C, dx, [], rfl, hm, .nil⟩
  have st := j1.trans j2
  have hy3 : RelW X.K (rN r s1.nx y) (s1.new (.ins x [])).nx (upd (upd H dx (.own y)) y (.ins C dx [])) (.ref s1.nx) (.ref y) := by
    unfold RelW
    exact ⟨Nat.lt_succ_self _, by rw [rN_at]⟩
  refine ⟨rfl, _, _, [.ref s1.nx], j2.mt, .cons hy3 .nil, ?_⟩
  simp only [Out.bind, eNil] at q
  cases e2 : m [.ref s1.nx] (s1.new (.ins x [])) with
  | ok w s2 =>
    rw [e2] at q
    intro r2 H2 v p2 l2
    cases w <;> first | exact False.elim q | skip
    obtain rfl := rNon l2
    refine ⟨rfl, q r2 H2 _ (st.trans p2) ?_⟩
    exact hy3.kp p2.kp
  | ex c s2 =>
    rw [e2] at q
    exact fun r2 H2 p2 => ew_wx (q r2 H2 (st.trans p2))
  | bad => rw [e2] at q; exact q
/-- o.f(..) -/
theorem rs_meth {pl : Sem Bool} {o : Expr} {mo : E} {c g : Str} {C : Addr} {apos : Pos} (ho : RE T X o mo) (hC : X.mg c = some (.ref C)) (hc : Cls X.K C) (hm : Meth X.K C g f) (F : FnOk X.prog X.w X.K X.mg X.base (L2.CX X.prog X.w) k f fd ps (spR T X.K X.mg (n + 1) m)) (hl : ∀ ρ s ws s', ms ρ s = .ok ws s' → ws.length = n) (hf : X.env.frame = some L) (hr : Room k X.A) (hb : Binds X.K fd ps []) (ha : RA T X (e :: es) ms)
    (hst : starEach (e :: es) X.env = (false, eval e X.env) :: starEach es X.env := by rfl) (hpl : (backTo pos (starEach es X.env)).any (·.1) = false := by rfl)
    (ht : eval (.Call (.Attribute o g apos) (e :: es) [] pos) X.env = (do
      let ov ← eval o X.env
      standAt apos.atName
      let (f, first) ← holding [ov] (getMethod ov g pl)
      callWith pos f first (backTo pos (starEach (e :: es) X.env)) (backToKw pos (keywordEach [] X.env))) := by rfl) : RE T X (.Call (.Attribute o g apos) (e :: es) [] pos) (eMeth c g m mo ms) := fun Wx tk => by
  refine (pe_meth (ho Wx tk) hc hm F hr hb (dvs := []) .nil (passR hf tk) (ha Wx tk) hst hpl ht).imp fun σ H Q h => ?_
  obtain ⟨r, ρ, s, mm, q⟩ := h
  unfold eMeth at q
  refine rdE.go mm (fun y s1 e1 r1 H1 v1 p1 l1 m1 => ?_) (fun c s1 e1 r1 H1 p1 => ?_) (fun e1 => ?_)
  · rw [e1] at q
    simp only [Out.bind] at q
    cases y <;> first | exact False.elim q | skip
    rename_i a
    obtain ⟨hlt, rfl⟩ := rRef l1
    simp only at q
    split at q
    · rename_i c' fs el
      obtain ⟨_, C', dx, fv, h1, gC, l2⟩ := m1.mt.ins el
      split at q
      · rename_i hcc
        obtain ⟨rfl, hno⟩ := hcc
        rw [hC] at gC
        cases gC
        have nof : fv.lookup g = none := by
          rcases l2.look (f := g) with ⟨_, z⟩ | ⟨w, v, z, _⟩
          · exact z
          · rw [hno] at z; cases z
        refine ⟨_, dx, fv, rfl, h1, nof, ?_⟩
        refine rdA.go m1 (fun ws s2 e2 r2 H2 vs p2 l3 m2 => ?_) (fun c s2 e2 r2 H2 p2 => ?_) (fun e2 => ?_)
        · simp only [e2] at q
          rw [List.append_nil]
          refine ⟨?_, r2, s2, .ref a :: ws, m2.mt, .cons (l1.kp p2.kp) l3, (PostE.shift q (p1.trans p2)).mono (fun _ _ z => z) fun c H z => ew_wx z⟩
          have z := l3.len
          have z2 := hl _ _ _ _ e2
          simp only [List.length_cons]; omega
        · simp only [e2] at q; exact q r2 H2 (p1.trans p2)
        · simp only [e2] at q; exact q
      · exact False.elim q
    · exact False.elim q
  · rw [e1] at q; exact q r1 H1 p1
  · rw [e1] at q; exact q
theorem rs_meth0 {pl : Sem Bool} {o : Expr} {mo : E} {c g : Str} {C : Addr} {apos : Pos} (ho : RE T X o mo) (hC : X.mg c = some (.ref C)) (hc : Cls X.K C) (hm : Meth X.K C g f) (F : FnOk X.prog X.w X.K X.mg X.base (L2.CX X.prog X.w) k f fd ps (spR T X.K X.mg 1 m)) (hf : X.env.frame = some L) (hr : Room k X.A) (hb : Binds X.K fd ps [])
    (ht : eval (.Call (.Attribute o g apos) [] [] pos) X.env = (do
      let ov ← eval o X.env
      standAt apos.atName
      let (f, first) ← holding [ov] (getMethod ov g pl)
      callWith pos f first (backTo pos (starEach [] X.env)) (backToKw pos (keywordEach [] X.env))) := by rfl) : RE T X (.Call (.Attribute o g apos) [] [] pos) (eMeth c g m mo eNil) := fun Wx tk => by
  refine (pe_meth0 (ho Wx tk) hc hm F hr hb (dvs := []) .nil (passR hf tk) ht).imp fun σ H Q h => ?_
  obtain ⟨r, ρ, s, mm, q⟩ := h
  unfold eMeth at q
  refine rdE.go mm (fun y s1 e1 r1 H1 v1 p1 l1 m1 => ?_) (fun c s1 e1 r1 H1 p1 => ?_) (fun e1 => ?_)
  · rw [e1] at q
    simp only [Out.bind] at q
    cases y <;> first | exact False.elim q | skip
    rename_i a
    obtain ⟨hlt, rfl⟩ := rRef l1
    simp only at q
    split at q
    · rename_i c' fs el
      obtain ⟨_, C', dx, fv, h1, gC, l2⟩ := m1.mt.ins el
      split at q
      · rename_i hcc
        obtain ⟨rfl, hno⟩ := hcc
        rw [hC] at gC
        cases gC
        have nof : fv.lookup g = none := by
          rcases l2.look (f := g) with ⟨_, z⟩ | ⟨w, v, z, _⟩
          · exact z
          · rw [hno] at z; cases z
        exact ⟨_, dx, fv, rfl, h1, nof, rfl, r1, s1, [.ref a], m1.mt, .cons l1 .nil, (PostE.shift q p1).mono (fun _ _ z => z) fun c H z => ew_wx z⟩
      · exact False.elim q
    · exact False.elim q
  · rw [e1] at q; exact q r1 H1 p1
  · rw [e1] at q; exact q
end

/-! ### bodies -/
theorem XEF.xe {Ex : XK} {u : Value} {s' : Shared} (hf : X.env.frame = some X.env.locals) (h : XEF X (WxV X (EW X.mg Ex)) u s') : XE X (fun cls d _ H => Ex cls d H) u s' := by
  obtain ⟨a, B, sI, pins, σ, H, cls, d, L, e1, e2, I, e3, e4, e5, e6, e7, e8, rfl, c, C, rfl, g, hw⟩ := h
  rw [hf] at e2
  cases e2
  exact ⟨a, B, sI, pins, σ, H, _, none, e1, I, e3, e4, e5, e6, e7, e8, hw C g⟩
theorem tk_body {Ex : XK} (hs : X.stack = X.env :: X.outer) (hf : X.env.frame = some X.env.locals) (hex : X.ex = []) {E₁ : Value → Shared → Prop}
    (hx : X.xe = fun e s' => wpAny (model X.prog X.w) X.A (leaving X.env e) (fun _ s'' => L2.CX X.prog X.w X.outer X.H_0 X.s_0 Ex e s'') E₁ s') : Tk X (EW X.mg Ex) := fun u s' h => takes_of hs hf hex hx u s' (XEF.xe hf h)
theorem env_start {K : PySem.W.Frag} {r : Rm} {n : Nat} {H : Hp} {N : List Str} {ws : List W} {vs : List V} (l : RelWs K r n H ws vs) : (env0 N.length ws).length = (L2.start N vs).length ∧ ∀ (i : Nat) (w : W), (env0 N.length ws)[i]? = some (some w) → ∃ v, (L2.start N vs)[i]? = some (some v) ∧ RelW K r n H w v := by
  have el := l.len
  unfold env0 L2.start
  refine ⟨by simp [el], fun i w e => ?_⟩
  by_cases hi : i < ws.length
  · rw [List.getElem?_append_left (by simpa using hi), List.getElem?_map] at e
    cases e1 : ws[i]? with
    | none => rw [e1] at e; cases e
    | some w' =>
      rw [e1] at e
      cases e
      obtain ⟨v, e2, q⟩ := l.get e1
      exact ⟨v, by rw [List.getElem?_append_left (by simpa [← el] using hi), List.getElem?_map, e2]; rfl, q⟩
  · rw [List.getElem?_append_right (by simpa using hi), List.getElem?_replicate] at e
    split at e <;> cases e
theorem PostS.body {r : Rm} {s : S} {H : Hp} {n : Nat} {b : B} {ws : List W} {Q : VK} {Wx : Wish} (h : PostE T X.K X.mg r s H (bodyM n b ws s) Q Wx) : PostS T X r s H (b (env0 n ws) s) { nx := fun _ H' => Q .non H', rt := Q } Wx := by
  unfold bodyM at h
  cases e : b (env0 n ws) s with
  | nx ρ s' => rw [e] at h; exact fun r' σ' H' st m => h r' H' _ st mNon
  | rt w s' => rw [e] at h; exact h
  | ex c s' => rw [e] at h; exact h
  | bk ρ s' => rw [e] at h; exact False.elim h
  | ct ρ s' => rw [e] at h; exact False.elim h
  | bad => rw [e] at h; exact h
section
variable {P : Program} {w : World} {K : PySem.W.Frag} {mg : Str → Option Value} {base : Heap}
/-- the context of a def's body -/
abbrev bX (P : Program) (w : World) (K : PySem.W.Frag) (mg : Str → Option Value) (base : Heap) (N : List Str) (qual : Str) (sc : Scope) (f : Addr) (cdv : Value) (A : Around) (outer : List PySem.Env) (s : Shared) (H : Hp) (Ex : XK) : Cx := cxOf (L2.CX P w) P w K mg base N qual sc f cdv A outer s H Ex
theorem fn_R {x qual : Str} {st : Stmt} {f : Addr} {fd : FuncData} {N ps : List Str} {k n : Nat} {b : B} (F : Fun K x qual st f fd) (Sc : FnScope N ps (defScope st)) (hn : n = ps.length)
    (hb : ∀ (cdv : Value) (A : Around) (outer : List PySem.Env) (s : Shared) (H : Hp) (Ex : XK), Room k (A.deeper (envOfC qual (defScope st) s.heap.objs.size f cdv)) → RSs T (cxOf (L2.CX P w) P w K mg base N qual (defScope st) f cdv A outer s H Ex) (defBody st) b) :
    FnOk P w K mg base (L2.CX P w) (k + 1) f fd ps (spR T K mg n (bodyM N.length b)) := by
  refine F.okX Sc (fun vs H Q Ex h => by rw [h.1, hn]) fun cdv A outer s H vs Q Ex hr h => ?_
  obtain ⟨hl, r, S, ws, m, l, q⟩ := h
  have tk : Tk (cxOf (L2.CX P w) P w K mg base N qual (defScope st) f cdv A outer s H Ex) (EW mg Ex) := tk_body (X := cxOf (L2.CX P w) P w K mg base N qual (defScope st) f cdv A outer s H Ex) rfl rfl rfl rfl
  obtain ⟨e1, e2⟩ := env_start (N := N) l
  exact ⟨_, hb cdv A outer s H Ex hr _ tk, r, _, S, ⟨m, e1, e2⟩, PostS.body (X := cxOf (L2.CX P w) P w K mg base N qual (defScope st) f cdv A outer s H Ex) q⟩
end

/-! ### raise -/
theorem takes_of_tk {Wx : Wish} (hf : X.env.frame = some X.env.locals) (tk : Tk X Wx) : Takes X (fun cls d _ H => WxV X Wx cls d H) := fun u s' h => by
  obtain ⟨a, B, sI, pins, σ, H, cls, d, e1, I, e3, e4, e5, e6, e7, e8, hw⟩ := h
  exact tk u s' ⟨a, B, sI, pins, σ, H, cls, d, _, e1, hf, I, e3, e4, e5, e6, e7, e8, hw⟩
/-- what the text says of an own error class -/
structure ErrC (K : PySem.W.Frag) (mg : Str → Option Value) (x : Str) : Prop where
  ex : ∃ (C : Addr) (B newId initId : String) (bmB : List Value), ExcBaseFacts B newId initId bmB ∧ PySem.W.excIn K C bmB newId = true ∧ mg x = some (.ref C) ∧ PySem.W.keepIn K (.ref C) = true ∧ PySem.W.subIn K (.ref C) (.type "BaseException") = some true ∧ PySem.W.typeIn K (.ref C) = some (.type "type")
theorem st_raise {x m : Str} {j : Nat} {p p2 pos2 : Pos} (hc : X.calm = true) (hf : X.env.frame = some X.env.locals) (ec : ErrC X.K X.mg x) (hg : Gl X x := by rfl) (hdb : (x == ("__debug__" : Str)) = false := by decide) :
    RS_ T X (.Raise (some (.Call (.Name x p) [.Constant (.str m) j p2] [] pos2)) none pos) (bRaise x) := fun Wx tk => by
  obtain ⟨C, B, newId, initId, bmB, F, q, gC, kC, eC, tC⟩ := ec.ex
  refine (ps_raise hc (takes_of_tk hf tk) (pmk_own F q gC kC (raises_own eC tC) hg hdb)).imp fun D σ H h => ?_
  obtain ⟨r, ρ, s, mm, hq⟩ := h
  exact ⟨rfl, x, C, rfl, gC, hq r H (.refl mm.mt)⟩
end
end RS
set_option Elab.async false
set_option linter.all false
set_option maxRecDepth 100000
set_option autoImplicit false
/-! RS.C12: a generator expression is made; its context. -/
namespace RS
open PySem PySem.Spec PyProof.Rows L2

section
variable {M : Model} {A : Around} {E : Value → Shared → Prop} {s : Shared}
abbrev frH (h : Heap) (names : List (Str × NameKind)) : Heap := pushCells (h.push { cls := .type "frame", data := .dict #[] }) names
/-- the frame of a generator expression: its cells, the walked thing at .0 -/
theorem newEnv_gen {scope : Scope} {globals : Addr} {cl : List (Str × Addr)} {it : Value} {qual : Str} {code : Value} {bi : Addr} {Q : PySem.Env → Shared → Prop} (hk : scope.kind = .function) (h0 : scope.names.lookup (".0" : Str) = some NameKind.local)
    (hQ : ∀ h', h'.Ns s.heap.objs.size (fun y => if y = (".0" : Str) then some it else none) → Heap.SameBut s.heap.objs.size (frH s.heap scope.names) h' →
      Q (newEnv scope s.heap.objs.size globals (cellsFrom (s.heap.objs.size + 1) scope.names cl) qual none code none bi) { s with heap := h', toks := s.toks + 1 }) :
    wpAny M A (newFunctionEnv scope globals cl [(".0", it)] qual none code none bi) Q E s := by
  simp only [newFunctionEnv, Option.isSome_none, Bool.false_eq_true, if_false]
  refine wpAny_bind (wpAny_alloc ?_)
  refine wpAny_bind (wpAny_layCells _ (fun name kind cells => by cases hkc : kind == NameKind.cell <;> simp [hkc]) scope.names cl _ _ ?_)
  rw [show ({ s with heap := s.heap.push { cls := .type "frame", data := .dict #[] } } : Shared).heap.objs.size = s.heap.objs.size + 1 from Heap.size_push ..]
  rw [List.forIn_cons]
  have kl : Env.kindOf (newEnv scope s.heap.objs.size globals (cellsFrom (s.heap.objs.size + 1) scope.names cl) qual none code none bi) (".0" : Str) = some .local := h0
  have hp : ((newEnv scope s.heap.objs.size globals (cellsFrom (s.heap.objs.size + 1) scope.names cl) qual none code none bi).scope.kind == .class || ((newEnv scope s.heap.objs.size globals (cellsFrom (s.heap.objs.size + 1) scope.names cl) qual none code none bi).scope.kind == .module && (newEnv scope s.heap.objs.size globals (cellsFrom (s.heap.objs.size + 1) scope.names cl) qual none code none bi).locals != (newEnv scope s.heap.objs.size globals (cellsFrom (s.heap.objs.size + 1) scope.names cl) qual none code none bi).globals)) = false := by
    show (scope.kind == .class || (scope.kind == .module && _)) = false
    rw [hk]; rfl
  have hns : (frH s.heap scope.names).Ns s.heap.objs.size (fun _ => none) := Heap.Ns.keeps (Heap.Ns.new ..) fun b o e => pushCells_keeps _ _ _ _ e
  have st := storeName_local kl hp it
  refine wpAny_bind (wpAny_bind (wpAny_bind ?_))
  show wpAny M A (storeName (newEnv scope s.heap.objs.size globals (cellsFrom (s.heap.objs.size + 1) scope.names cl) qual none code none bi) (".0" : Str) it) _ _ _
  rw [st]
  refine wpAny_nsSet (s := { s with heap := frH s.heap scope.names }) hns fun h' hn hs => ?_
  refine wpAny_pure ?_
  show wpAny M A (forIn ([] : List (Str × Value)) _ _) _ _ _
  rw [List.forIn_nil]
  exact wpAny_pure (wpAny_pure (hQ h' hn hs))
end
/-- the environment of a generator expression -/
abbrev gEnv (scope : Scope) (cl : List (Str × Addr)) (C : Addr) (code : Value) (bi : Addr) (env : PySem.Env) : PySem.Env := genEnv scope (cellsFrom (C + 1) scope.names cl) C code bi env
section
variable {M : Model} {A : Around} {E : Value → Shared → Prop} {s : Shared}
theorem gen_make {env : PySem.Env} {elt target iter : Expr} {ifs : List Expr} {scope : Scope} {cl : List (Str × Addr)} {pos : Pos} {Q : Value → Shared → Prop}
    (hco : scope.isCoroutine = false) (hclos : closureFor scope env = pure cl) (h0 : scope.names.lookup (".0" : Str) = some NameKind.local) (hkind : scope.kind = .function) (hroom : A.depth < recursionLimit)
    (h : wpAny M A (eval iter env) (fun xv s₁ => wpAny M A (pyIter xv) (fun it s₂ => s₂.heap.NoLimit ∧
      wpAny M A (genexprCode env pos (env.qual ++ "<genexpr>") scope) (fun code s₃ => wpAny M A (builtinsFor env.globals env.builtins) (fun bi s₄ =>
        ∀ h' tk go, h'.Ns s₄.heap.objs.size (fun y => if y = ".0" then some it else none) → Heap.SameBut s₄.heap.objs.size (frH s₄.heap scope.names) h' → (∃ nm qn, go = ({ cls := .type "generator", data := .fields #[.int s₄.gens.size 0, nm, qn] } : Obj)) →
          Q (.ref h'.objs.size) { s₄ with
            gens := s₄.gens.push (.fresh (.compStart (.GeneratorExp elt [⟨target, iter, ifs, 0⟩] scope pos) 0 it .none (gEnv scope cl s₄.heap.objs.size code bi env))), toks := tk, heap := h'.push go }) E s₃) E s₂) E s₁) E s)
    (hs : ∀ x, genFold iter env x = pure x) :
    wpAny M A (eval (.GeneratorExp elt [⟨target, iter, ifs, 0⟩] scope pos) env) Q E s := by
  rw [eval_GeneratorExp1 _ _ _ _ _ _ _ hco, hclos]
  refine wpAny_bind (wpAny_mono h (fun xv s₁ h₁ => ?_) fun _ _ e => e)
  refine wpAny_bind (wpAny_standAt ?_)
  refine wpAny_bind (wpAny_of_eq (hs xv) ?_)
  refine wpAny_bind (wpAny_holding (wpAny_mono h₁ (fun it s₂ h₂ => ?_) fun _ _ e => e))
  refine wpAny_bind (wpAny_enterFrame h₂.1 hroom ?_)
  refine wpAny_bind (wpAny_pure ?_)
  refine wpAny_bind (wpAny_mono h₂.2 (fun code s₃ h₃ => ?_) fun _ _ e => e)
  refine wpAny_bind (wpAny_mono h₃ (fun bi s₄ h₄ => ?_) fun _ _ e => e)
  refine wpAny_bind (newEnv_gen hkind h0 fun h' hn' hs' => ?_)
  simp only [newGenerator, newFields]
  refine wpAny_bind (wpAny_newGen (wpAny_bind (wpAny_mkText (wpAny_bind (wpAny_mkText (wpAny_newObj_type ?_ (by size_fits)))))))
  exact h₄ h' _ _ hn' hs' ⟨_, _, rfl⟩
end
/-- the around of its code -/
theorem over_gen {A : Around} {elt target iter : Expr} {ifs : List Expr} {scope : Scope} {pos : Pos} {it acc : Value} {cenv : PySem.Env} : A.over (.compLoop (.GeneratorExp elt [⟨target, iter, ifs, 0⟩] scope pos) 0 it acc cenv) [] = A.deeper cenv := by
  first | rfl | (obtain ⟨hd, d, fr, gs, u⟩ := A; simp [Around.over, Around.deeper, marksOver, frameCount, unitsOf, envsOf, guardsOf, pushEnvs, pushGuards, Code.envs, Code.env?, Code.isFrame, Code.guards, Code.isGuard, Code.weight, Code.frames, Code.isCreation, Code.isCaller, Code.cUnits])
theorem over_genS {A : Around} {elt target iter : Expr} {ifs : List Expr} {scope : Scope} {pos : Pos} {it acc : Value} {cenv : PySem.Env} : A.over (.compStart (.GeneratorExp elt [⟨target, iter, ifs, 0⟩] scope pos) 0 it acc cenv) [] = A.deeper cenv := by
  first | rfl | (obtain ⟨hd, d, fr, gs, u⟩ := A; simp [Around.over, Around.deeper, marksOver, frameCount, unitsOf, envsOf, guardsOf, pushEnvs, pushGuards, Code.envs, Code.env?, Code.isFrame, Code.guards, Code.isGuard, Code.weight, Code.frames, Code.isCreation, Code.isCaller, Code.cUnits])

/-- the context of a generator expression's body, made at s in X, woken in the around A' -/
abbrev gX (X : Cx) (A' : Around) (s : Shared) (H : Hp) (scope : Scope) (cenv : PySem.Env) (fp : List Addr) (pn : List (Addr × Obj)) : Cx :=
  { X with A := A'.deeper cenv, s_0 := s, H_0 := H, env := cenv, outer := X.stack, stack := cenv :: X.stack, ex := fp, fn := fun x => scope.names.lookup x == some .cell, pn := pn, xe := fun _ _ => False }
section
variable {X : Cx} {pins : List (Addr × Obj)} {σ : L2.St} {H : Hp} {s : Shared}
theorem gen_start {A' : Around} {scope : Scope} {own : List (Str × Nat)} {fp : List Addr} {code : Value} {h' : Heap} {tk : Nat} {it : Value} (I : Inv X pins σ H s) (ok : BlkOk X.N X.env.scope scope own) (hN : X.N.Nodup) (h00 : (".0" : Str) ∉ X.N) (hfp : ∀ b ∈ fp, FpOk X pins H b ∧ b < s.heap.objs.size) (hA : A'.frames = some X.stack) (hh : A'.handled = none)
    (hns : h'.Ns s.heap.objs.size (fun y => if y = (".0" : Str) then some it else none)) (hsb : Heap.SameBut s.heap.objs.size (frH s.heap scope.names) h') :
    Inv (gX X A' s H scope (gEnv scope (cloFrom X.env.cells scope.names []) s.heap.objs.size code builtinsNs X.env) fp []) [] (wipe σ (own.map (·.2))) H { s with heap := h', toks := tk } := by
  have hfree : ∀ y ∈ scope.names, y.2 = .free → ∃ c, X.env.cells.lookup y.1 = some c := fun y hy e => by
    rcases ok.free y hy e with k | k
    · exact I.ok.has _ (.inl k)
    · exact I.ok.has _ (.inr k)
  generalize hcv : gEnv scope (cloFrom X.env.cells scope.names []) s.heap.objs.size code builtinsNs X.env = cv
  have kf : ∀ b o, s.heap.get? b = some o → (frH s.heap scope.names).get? b = some o := fun b o e => pushCells_keeps _ _ _ _ (Heap.get?_push_of_some _ e)
  have kp : ∀ b o, s.heap.get? b = some o → h'.get? b = some o := fun b o e => (hsb.2 b (Nat.ne_of_lt (Heap.lt_size e))).trans (kf b o e)
  have hL : cv.locals = s.heap.objs.size := by rw [← hcv]; rfl
  have hcl : cv.cells = cellsFrom (s.heap.objs.size + 1) scope.names (cloFrom X.env.cells scope.names []) := by rw [← hcv]; rfl
  have hsc : cv.scope = scope := by rw [← hcv]; rfl
  rw [← Heap.size_push s.heap { cls := .type "frame", data := .dict #[] }] at hcl
  have cm : ∀ {y c}, (y, c) ∈ cloFrom X.env.cells scope.names [] → X.env.cells.lookup y = some c ∧ c < s.heap.objs.size := fun {y c} hm => by
    rcases cloFrom_mem hm with hm | ⟨h1, rfl⟩
    · cases hm
    · obtain ⟨c, hc⟩ := hfree _ h1 rfl
      rw [hc]
      obtain ⟨w, z⟩ := I.cell _ _ hc
      exact ⟨rfl, z.lt⟩
  have mem : ∀ {y c}, cv.cells.lookup y = some c → (X.env.cells.lookup y = some c ∧ c < s.heap.objs.size) ∨ (s.heap.objs.size + 1 ≤ c ∧ CellAt h' c none) := fun {y c} e => by
    rw [hcl] at e
    rcases cells_mem (PySem.mem_of_lookup e) with hm | ⟨_, h2, h3⟩
    · exact .inl (cm hm)
    · rw [Heap.size_push] at h2
      refine .inr ⟨h2, ?_⟩
      obtain ⟨oc, e1, e2⟩ := h3
      exact ⟨oc, (hsb.2 c (Nat.ne_of_gt (Nat.lt_of_succ_le h2))).trans e1, e2⟩
  have look : ∀ {y}, scope.names.lookup y = some .free → ∃ c, cv.cells.lookup y = some c ∧ X.env.cells.lookup y = some c := fun {y} hl => by
    have hy : (y, NameKind.free) ∈ scope.names := PySem.mem_of_lookup hl
    obtain ⟨c', e'⟩ := mem_lookup (cells_acc (names := scope.names) (n := (s.heap.push { cls := .type "frame", data := .dict #[] }).objs.size) (cloFrom_has (cells := X.env.cells) (acc := []) hy))
    rw [← hcl] at e'
    refine ⟨c', e', ?_⟩
    rw [hcl] at e'
    rcases cells_mem (PySem.mem_of_lookup e') with hm | ⟨h1, _, _⟩
    · exact (cm hm).1
    · have z := ok.uniq _ h1
      rw [hl] at z; cases z
  have fp1 : ∀ b ∈ fp, b ≠ s.heap.objs.size := fun b hb => Nat.ne_of_lt (hfp b hb).2
  have okB : (gX X A' s H scope cv fp []).Ok := by
    refine ⟨I.ok.mod, by show cv.scope.kind = _; rw [hsc]; exact ok.kind, by show cv.globals = _; rw [← hcv]; exact I.ok.glob, by show cv.builtins = _; rw [← hcv]; rfl, by show s.heap.objs.size ≤ cv.locals; rw [hL]; exact Nat.le_refl _,
      fun y z c e1 e2 => ?_, fun y hy => ?_, fun y c z e => ?_, fun _ => hh, ?_, .inr ⟨rfl, by show cv.frame = some cv.locals; rw [← hcv]; rfl⟩, fun b hb => ⟨?_, fun y c e z => ?_⟩, I.bs, Nat.le_trans I.ok.bsz I.sz, fun b o e hb => ?_, fun b hb z => ?_, I.stack, I.stkFree⟩
    · have e1 : cv.cells.lookup y = some c := e1
      have e2 : cv.cells.lookup z = some c := e2
      rw [hcl] at e1 e2
      refine cells_inj (fun p hp => ?_) (fun y z c a b => I.ok.inj y z c (cm a).1 (cm b).1) (PySem.mem_of_lookup e1) (PySem.mem_of_lookup e2)
      rw [Heap.size_push]
      exact Nat.lt_succ_of_lt (cm (y := p.1) (c := p.2) hp).2
    · show ∃ c, cv.cells.lookup y = some c
      have key : ∀ k, cv.kindOf y = some k → (k = .cell ∨ k = .free) → ∃ c, cv.cells.lookup y = some c := fun k hk hk' => by
        unfold Env.kindOf at hk
        rw [hsc] at hk
        rcases hk' with rfl | rfl
        · obtain ⟨c, hm⟩ := cells_has (n := (s.heap.push { cls := .type "frame", data := .dict #[] }).objs.size) (acc := cloFrom X.env.cells scope.names []) (PySem.mem_of_lookup hk)
          obtain ⟨c', e'⟩ := mem_lookup hm
          exact ⟨c', by rw [hcl]; exact e'⟩
        · obtain ⟨c, h1, _⟩ := look hk
          exact ⟨c, h1⟩
      rcases hy with hy | hy
      · exact key _ hy (.inl rfl)
      · exact key _ hy (.inr rfl)
    · have z : (scope.names.lookup y == some NameKind.cell) = true := z
      have z : scope.names.lookup y = some .cell := by simpa using z
      have e : cv.cells.lookup y = some c := e
      rw [hcl] at e
      rcases cells_mem (PySem.mem_of_lookup e) with hm | ⟨_, h2, _⟩
      · rcases cloFrom_mem hm with hm | ⟨h1, _⟩
        · cases hm
        · have q := ok.uniq _ h1
          rw [z] at q; cases q
      · rw [Heap.size_push] at h2
        exact Nat.le_of_succ_le h2
    · exact Around.frames_deeper hA
    · show b ≠ cv.locals
      rw [hL]; exact fp1 b hb
    · have e : cv.cells.lookup y = some c := e
      rcases mem e with ⟨h1, _⟩ | ⟨h1, _⟩
      · exact (hfp b hb).1.2.2.2.2.1 y c h1 z
      · have h2 : s.heap.objs.size + 1 ≤ b := by rw [← z]; exact h1
        exact absurd (Nat.lt_of_lt_of_le (hfp b hb).2 (Nat.le_of_succ_le h2)) (Nat.lt_irrefl _)
    · rcases (hfp b hb).1.2.2.2.1 with z | z
      · exact I.ok.noex b o e z
      · exact absurd (Nat.lt_of_lt_of_le (Heap.lt_size e) (Nat.le_trans I.ok.bsz z)) (Nat.lt_irrefl _)
    · rcases List.mem_cons.mp (I.stkSub b z) with z | z
      · exact (hfp b hb).1.2.1 z
      · exact (hfp b hb).1.2.2.1 z
  refine ⟨okB, rfl, I.bare, Un.kept kp, ⟨_, by show Heap.Ns _ cv.locals _; rw [hL]; exact hns, fun i y av e1 e2 e3 => ?_⟩, fun y c e => ?_, ?_, fun y c e => ?_, fun p hp => ?_, I.hok.kept kp, by rw [wipe_length]; exact I.len⟩
  · obtain ⟨e2, hne⟩ := wipe_some e2
    have hfr : scope.names.lookup y = some .free := by
      have key : ∀ k, cv.scope.names.lookup y = some k → k = .local ∨ k = .cell ∨ k = .free → scope.names.lookup y = some .free := fun k hk hk' => by
        rw [hsc] at hk
        have no : ¬ (k = .local ∨ k = .cell) := fun hh => by
          rcases ok.own _ (PySem.mem_of_lookup hk) hh with e' | e'
          · obtain ⟨p, hp, hpy⟩ := List.mem_map.mp e'
            have e3 := ok.ix p hp
            have : p.1 = y := hpy
            rw [this] at e3
            exact hne (List.mem_map.mpr ⟨p, hp, nodup_ix hN e3 e1⟩)
          · exact e' (List.mem_of_getElem? e1)
        rcases hk' with rfl | rfl | rfl
        · exact absurd (.inl rfl) no
        · exact absurd (.inr rfl) no
        · exact hk
      have e3 : Vis cv.scope y := e3
      rcases e3 with e3 | e3 | e3
      · exact key _ e3 (.inl rfl)
      · exact key _ e3 (.inr (.inl rfl))
      · exact key _ e3 (.inr (.inr rfl))
    obtain ⟨m, hn, hl⟩ := I.loc
    have hvis : Vis X.env.scope y := (ok.free _ (PySem.mem_of_lookup hfr) rfl).elim (fun k => .inr (.inl k)) (fun k => .inr (.inr k))
    obtain ⟨w, r, q⟩ := hl i y av e1 e2 hvis
    refine ⟨w, r, .inr ⟨.inr (by show cv.scope.names.lookup y = _; rw [hsc]; exact hfr), ?_⟩⟩
    obtain ⟨c, h1, h2⟩ := look hfr
    rcases q with ⟨k, _⟩ | ⟨_, c', e', z⟩
    · have k : X.env.scope.names.lookup y = some .local := k
      rcases ok.free _ (PySem.mem_of_lookup hfr) rfl with k' | k' <;> rw [show X.env.scope.names.lookup y = _ from k'] at k <;> cases k
    · rw [h2] at e'; cases e'
      exact ⟨c, h1, z.keeps kp⟩
  · have e : cv.cells.lookup y = some c := e
    rcases mem e with ⟨h1, _⟩ | ⟨_, z⟩
    · obtain ⟨w, z⟩ := I.cell y c h1
      exact ⟨w, z.keeps kp⟩
    · exact ⟨_, z⟩
  · show H cv.locals = none
    rw [hL]; exact I.hok.fresh (Nat.le_refl _)
  · have e : cv.cells.lookup y = some c := e
    rcases mem e with ⟨h1, _⟩ | ⟨h1, _⟩
    · exact I.freeC y c h1
    · exact I.hok.fresh (Nat.le_of_succ_le h1)
  · exact absurd (show p ∈ ([] : List (Addr × Obj)) ++ [] from hp) (by simp)
end
end RS
set_option Elab.async false
set_option linter.all false
set_option maxRecDepth 100000
set_option maxHeartbeats 1000000
set_option autoImplicit false
/-! RS.C13: a generator expression runs. -/
namespace RS
open PySem PySem.Spec PyProof.Rows L2

/-! ### plain side: what it hands out next -/
inductive GO where
  | y (w : W) (f i : Nat) (ρ : Env) (s : S) | stop (s : S) | bad
abbrev GD := Nat × Nat × Env × S
def gNext (p : PIt) (g : G) (t : RS.T) (m : E) : Nat → Nat → Env → S → GO
  | 0, _, _, _ => .bad
  | f + 1, i, ρ, s => match p.at' i s with
    | none => .bad
    | some none => .stop s
    | some (some w) => match g w ρ s with
      | .nx ρ1 s1 => match t ρ1 s1 with
        | .ok true s2 => match m ρ1 s2 with
          | .ok v s3 => .y v f (i + 1) ρ1 s3
          | _ => .bad
        | .ok false s2 => gNext p g t m f (i + 1) ρ1 s2
        | _ => .bad
      | _ => .bad
def gNextD (p : PIt) (g : G) (t : RS.T) (m : E) (d : GD) : GO := gNext p g t m d.1 d.2.1 d.2.2.1 d.2.2.2
def GO.d : GO → Option GD
  | .y _ f i ρ s => some (f, i, ρ, s)
  | _ => none
def trG (p : PIt) (g : G) (t : RS.T) (m : E) (d0 : GD) : Nat → Option GD
  | 0 => some d0
  | j + 1 => match trG p g t m d0 j with
    | some d => (gNextD p g t m d).d
    | none => none
def tYesW : RS.T := fun _ s => .ok true s

/-! ### between the turns -/
def PinC (cp : List Addr) (pl : List (Addr × Obj)) : Prop := (∀ b ∈ cp, ∃ o, (b, o) ∈ pl) ∧ ∀ p ∈ pl, p.1 ∈ cp
/-- while it sleeps its consumer works on its own objects -/
structure Slept2 (cp : List Addr) (s s' : Shared) : Prop where
  os : s'.os = s.os
  bare : AllBare s'.gens
  keep : ∀ b o, b ∉ cp → s.heap.get? b = some o → s'.heap.get? b = some o
  own : ∀ b ∈ cp, ∃ o, s'.heap.get? b = some o ∧ ∀ v, o.data ≠ .cell v
structure Cons (X : Cx) (cp : List Addr) : Prop where
  young : ∀ b ∈ cp, X.s_0.heap.objs.size ≤ b ∧ b ≠ X.env.locals ∧ (∀ x c, X.env.cells.lookup x = some c → c ≠ b) ∧ ∀ p ∈ X.pn, p.1 ≠ b
theorem PinC.at {X : Cx} {cp : List Addr} {pl pl' : List (Addr × Obj)} {σ : L2.St} {H : Hp} {s : Shared} (pc : PinC cp pl) (I : Inv X (pl ++ pl') σ H s) {b : Addr} (hb : b ∈ cp) : ∃ o, (b, o) ∈ pl ∧ s.heap.get? b = some o ∧ H b = none ∧ b ≠ X.env.locals ∧ b ∉ X.fs ∧ ∀ v, o.data ≠ .cell v := by
  obtain ⟨o, ho⟩ := pc.1 b hb
  obtain ⟨h1, h2, h3, h4, h5⟩ := I.pin (b, o) (List.mem_append_right _ (List.mem_append_left _ ho))
  exact ⟨o, ho, h1, h2, h3, h4, h5⟩
theorem Inv.woken2 {X : Cx} {cp : List Addr} {pl : List (Addr × Obj)} {σ : L2.St} {H : Hp} {s s' : Shared} (hc : Cons X cp) (pc : PinC cp pl) (I : Inv X pl σ H s) (z : Slept2 cp s s') : ∃ pl', PinC cp pl' ∧ Inv X pl' σ H s' := by
  obtain ⟨z1, z2, z3, z4⟩ := z
  have Ip : Inv X (pl ++ []) σ H s := by rw [List.append_nil]; exact I
  have I0 : Inv X [] σ H s := I.pins_of fun p hp => by simp at hp
  have nH : ∀ b ∈ cp, H b = none := fun b hb => let ⟨_, _, _, h, _⟩ := pc.at Ip hb; h
  obtain ⟨hh, g, d, t, o⟩ := s'
  have ho : o = s.os := z1
  subst ho
  have J : Inv X [] σ H { s with heap := hh, gens := g, drawn := d, toks := t } := by
    refine I0.step (g' := g) (t' := t) (d' := d) (ch := cp) (fun b hb => ?_)
      (fun b ob _ _ hx q _ => z3 b ob hx q) (fun b ob _ _ hx q _ => ⟨ob.slots, z3 b ob hx q⟩) (fun _ _ _ _ n => n) (fun b ob hx q => ⟨ob, z3 b ob hx q⟩)
      (fun _ _ q => q) (fun _ _ _ q => q) (fun b ps q => ⟨#[], by rw [q]; simp⟩) (fun m hm => ?_) (fun b u q => ?_) z2
    · obtain ⟨y1, y2, y3, y4⟩ := hc.young b hb
      refine ⟨.inr y1, y2, y3, fun p hp => ?_⟩
      rw [List.append_nil] at hp
      exact y4 p hp
    · obtain ⟨ob, es, ep, ho, r⟩ := hm
      exact ⟨ob, es, ep, z3 _ ob (fun h => (hc.young _ h).2.1 rfl) ho, r⟩
    · refine (I0.hok b u q).stay (fun c v hx y => z3 c v (fun h => ?_) y) (fun _ y => y) fun _ _ y => y
      rcases hx with y | y
      · rw [y] at h
        rw [nH b h] at q; cases q
      · rw [nH c h] at y; cases y
  refine ⟨pinsAt cp hh, ⟨fun b hb => ?_, fun p hp => (of_pinsAt hp).1⟩, J.pins_of fun p hp => ?_⟩
  · obtain ⟨ob, e, _⟩ := z4 b hb
    exact ⟨ob, mem_pinsAt hb e⟩
  · obtain ⟨hb, e⟩ := of_pinsAt hp
    obtain ⟨_, _, _, h2, h3, h4, _⟩ := pc.at Ip hb
    obtain ⟨ob, e', h5⟩ := z4 p.1 hb
    have e' : hh.get? p.1 = some ob := e'
    rw [e] at e'; cases e'
    exact ⟨e, h2, h3, h4, h5⟩

structure GS (T : List NdefX.NTab) (X : Cx) (cp fp : List Addr) (tn : Nat → Heap → Prop) (i : Nat) (ρ : Env) (S : RS.S) (r : Rm) (H : Hp) (σ : L2.St) (s : Shared) : Prop where
  inv : ∃ pl, PinC cp pl ∧ Inv X pl σ H s
  mte : MtE T X r ρ S σ H
  tn : tn i s.heap
  nfp : ∀ b ∈ fp, H b = none
/-- what the consumer remembers of what it was handed -/
abbrev HiT := Nat → Rm → RS.S → Hp → Shared → Prop
def HiOk (T : List NdefX.NTab) (X : Cx) (cp : List Addr) (Hi : HiT) : Prop := ∀ j r S H s r' S' H' s', Hi j r S H s → Stp T X.K X.mg r S H r' S' H' → (∀ b ∈ cp, s'.heap.get? b = s.heap.get? b) → Hi j r' S' H' s'
def GYp (Hi : HiT) (T : List NdefX.NTab) (X : Cx) (cp fp : List Addr) (tn : Nat → Heap → Prop) (p : PIt) (g : G) (t : RS.T) (m : E) (d0 : GD) (N : Nat) (r0 : Rm) (S0 : RS.S) (H0 : Hp) : Protocol := fun n s₀ v s1 kap =>
  ∃ j d w f i ρ S r H σ x, n + 1 + j = N ∧ trG p g t m d0 j = some d ∧ gNextD p g t m d = .y w f i ρ S ∧ L2.RelV x v ∧ RelW X.K r S.nx H w x ∧ GS T X cp fp tn i ρ S r H σ s1 ∧ Stp T X.K X.mg r0 S0 H0 r S H ∧
    (∀ b ∈ cp, s1.heap.get? b = s₀.heap.get? b) ∧ Hi j r S H s1 ∧ ∀ s'', Slept2 cp s1 s'' → gNext p g t m f i ρ S ≠ .bad → Hi (j + 1) r S H s'' → kap (.send .none) s''
def GRp (Hi : HiT) (T : List NdefX.NTab) (X : Cx) (cp : List Addr) (p : PIt) (g : G) (t : RS.T) (m : E) (d0 : GD) (N : Nat) (r0 : Rm) (S0 : RS.S) (H0 : Hp) (n : Nat) (s₀ s1 : Shared) : Prop :=
  ∃ j d S r H σ, n + j = N ∧ trG p g t m d0 j = some d ∧ gNextD p g t m d = .stop S ∧ (∃ pl, PinC cp pl ∧ Inv X pl σ H s1) ∧ Stp T X.K X.mg r0 S0 H0 r S H ∧ (∀ b ∈ cp, s1.heap.get? b = s₀.heap.get? b) ∧ Hi j r S H s1
def GRe (Hi : HiT) (T : List NdefX.NTab) (X : Cx) (cp : List Addr) (p : PIt) (g : G) (t : RS.T) (m : E) (d0 : GD) (N : Nat) (r0 : Rm) (S0 : RS.S) (H0 : Hp) : GenEnd := fun n s₀ r s₁ =>
  ((r = .ok (.ret .none) ∨ r = .ok .next) ∧ GRp Hi T X cp p g t m d0 N r0 S0 H0 n s₀ s₁) ∨ ∃ e, r = .error e ∧ False

/-! ### tests -/
def RTs (T : List NdefX.NTab) (X : Cx) (ifs : List Expr) (t : RS.T) : Prop := ∀ Wx, Tk X Wx → PTs X ifs (rdT T X t Wx)
theorem rts_nil {T : List NdefX.NTab} {X : Cx} : RTs T X [] tYesW := fun Wx _ => ⟨fun pins s σ H Q I h => by
  obtain ⟨r, ρ, S, m, q⟩ := h
  exact pts_nil.run pins s σ H Q I (q r H (.refl m.mt))⟩
theorem rts_one {T : List NdefX.NTab} {X : Cx} {c : Expr} {t : RS.T} (h : RT T X c t) : RTs T X [c] t := fun Wx tk => pts_one (h Wx tk)
theorem tk0 {X : Cx} : Tk X (fun _ _ => False) := fun u s' h => by
  obtain ⟨_, _, _, _, _, _, _, _, _, _, _, _, _, _, _, _, _, _, _, _, _, _, _, z⟩ := h
  exact z.elim
theorem segb {M : Model} {A XA : Around} {R : GenEnd} {Y : Protocol} {n : Nat} {s₀ : Shared} {c : Code} {fs : List Frame} {s : Shared} {α β : Type} {m : Sem α} {K : α → Sem β} {K' : β → Sem PySem.Fin} {H' : Value → Sem PySem.Fin} {gd lv} {E : Value → Shared → Prop}
    (ov : A.over c fs = XA) (hE : ∀ e s', E e s' → False) (h : wpAny M XA m (fun a s' => Seg M A R Y n s₀ c ((K a).wrap K' H' gd lv) fs s') E s) : Seg M A R Y n s₀ c ((m >>= K).wrap K' H' gd lv) fs s :=
  seg_bind_wrap (by rw [ov]; exact wpAny_mono h (fun _ _ z => z) fun e s' z => (hE e s' z).elim)
theorem thnX {α : Type} {M : Model} {A : Around} {t : Sem α} {Q Q' : α → Shared → Prop} {E E' : Value → Shared → Prop} {s : Shared} (hE : ∀ e s', E e s' → False) (h : wpAny M A t Q E s) (hQ : ∀ a s, Q a s → Q' a s) : wpAny M A t Q' E' s := wpAny_mono h hQ fun e s' z => (hE e s' z).elim

section
variable {Hi : HiT} {T : List NdefX.NTab} {X : Cx} {cp fp : List Addr} {tn : Nat → Heap → Prop} {p : PIt} {g : G} {t : RS.T} {m : E} {d0 : GD} {N : Nat} {r0 : Rm} {S0 : RS.S} {H0 : Hp} {J : It} {it : Addr} {tg elt iter : Expr} {ifs : List Expr} {scope : Scope} {pos : Pos} {A : Around}
abbrev gCode (elt tg iter : Expr) (ifs : List Expr) (scope : Scope) (pos : Pos) (it : Addr) (env : PySem.Env) : Code := .compLoop (.GeneratorExp elt [⟨tg, iter, ifs, 0⟩] scope pos) 0 (.ref it) .none env
theorem seg_gl (hHi : HiOk T X cp Hi) (hxe : ∀ e s', X.xe e s' → False) (hA : A.deeper X.env = X.A) (hc : X.calm = true) (hco : X.env.scope.isCoroutine = false) (cons : Cons X cp) (hTr : Turn X.prog X.w X.K tg J fp it tn) (hfx : ∀ b ∈ fp, b ∈ X.ex) (hfc : ∀ b ∈ fp, b ∉ cp) (hpn : X.pn = [])
    (rel : ItRel T X.K X.mg r0 S0 H0 p J) (hg : RG T X tg g) (ht : RTs T X ifs t) (hm : RE T X elt m) :
    ∀ (f i : Nat) (ρ : Env) (S : RS.S) (j : Nat) (d : GD) (n : Nat) (s₀ s : Shared) (r : Rm) (H : Hp) (σ : L2.St), n + j = N → f ≤ n → trG p g t m d0 j = some d → gNextD p g t m d = gNext p g t m f i ρ S → gNext p g t m f i ρ S ≠ .bad →
      GS T X cp fp tn i ρ S r H σ s → Stp T X.K X.mg r0 S0 H0 r S H → (∀ b ∈ cp, s.heap.get? b = s₀.heap.get? b) → Hi j r S H s →
      Seg (model X.prog X.w) A (GRe Hi T X cp p g t m d0 N r0 S0 H0) (GYp Hi T X cp fp tn p g t m d0 N r0 S0 H0) n s₀ (gCode elt tg iter ifs scope pos it X.env) ((model X.prog X.w).den (gCode elt tg iter ifs scope pos it X.env)) [] s := by
  have ov : A.over (gCode elt tg iter ifs scope pos it X.env) [] = X.A := over_gen.trans hA
  intro f
  induction f with
  | zero => intro i ρ S j d n s₀ s r H σ _ _ _ _ nb _ _ _ _; exact absurd rfl nb
  | succ f ih =>
    intro i ρ S j d n s₀ s r H σ hn hfn htr hgn nb gs st same hi
    obtain ⟨⟨pl, pc, I⟩, mte, tni, nfp⟩ := gs
    have stat : ∀ {σ' : L2.St} {H' : Hp} {s' : Shared} {pl' : List (Addr × Obj)}, Inv X pl' σ' H' s' → (∀ q ∈ pl', q.1 ∈ cp) → (∀ b ∈ fp, H' b = none) → ∀ b ∈ fp, FpOk X pl' H' b := fun {σ' H' s' pl'} I' hp' hn' b hb =>
      ⟨hn' b hb, (I'.ok.exf b (hfx b hb)).1, I'.ok.exfs b (hfx b hb), .inl (hfx b hb), fun x c e => (I'.ok.exf b (hfx b hb)).2 x c e, fun q hq => by
        rw [hpn, List.nil_append] at hq
        intro e
        exact hfc b hb (by rw [← e]; exact hp' q hq)⟩
    obtain ⟨ry, rs⟩ := rel i r S H st
    show Seg _ A _ _ _ s₀ _ ((compTurn (.GeneratorExp elt [⟨tg, iter, ifs, 0⟩] scope pos) 0 (.ref it) .none X.env).onRaise (leaving X.env)) [] s
    rw [compTurn_gen, Sem.onRaise_eq_wrap]
    have hF : ∀ (e : Value) (s' : Shared), (fun _ _ => False : Value → Shared → Prop) e s' → False := fun _ _ z => z
    refine segb ov hF (wpAny_standAt ?_)
    unfold gNext at hgn nb
    cases e : p.at' i S with
    | none => rw [e] at nb; exact absurd rfl nb
    | some o =>
      cases o with
      | none =>
        rw [e] at hgn
        have td := hTr.done X rfl rfl rfl hc i pl s σ H (fun _ _ => False) I (stat I pc.2 nfp) tni (rs e)
        refine segb ov hF (thn td fun rr s6 ⟨hr, I6⟩ => ?_)
        subst hr
        refine seg_end (.ok .next) (.inl ⟨.inr rfl, j, d, S, r, H, σ, hn, htr, hgn, ⟨pl, pc, I6⟩, st, ?_⟩)
        suffices sm : ∀ b ∈ cp, s6.heap.get? b = s₀.heap.get? b from ⟨sm, hHi _ _ _ _ _ _ _ _ _ hi (.refl mte.mt) fun b hb => (sm b hb).trans (same b hb).symm⟩
        intro b hb
        have Ip : Inv X (pl ++ []) σ H s := by rw [List.append_nil]; exact I
        have Ip6 : Inv X (pl ++ []) σ H s6 := by rw [List.append_nil]; exact I6
        obtain ⟨ob, ho, h1, _⟩ := pc.at Ip hb
        have h2 := (Ip6.pin (b, ob) (List.mem_append_right _ (List.mem_append_left _ ho))).1
        rw [← same b hb, h1]; exact h2
      | some w =>
        rw [e] at hgn nb
        obtain ⟨go, yl⟩ := ry w e
        have ti := hTr.item X rfl rfl rfl hc i pl s σ H (fun _ _ => False) I (stat I pc.2 nfp) tni go
        refine segb ov hF (thn ti fun rr s6 ⟨u, hr, h6⟩ => ?_)
        subst hr
        refine segb ov hF (thn h6 fun _ s7 ⟨x, H7, I7, r7, y7, st7, n7⟩ => ?_)
        obtain ⟨r7', sy, rl⟩ := yl x H7 y7
        have I7' := I7.pinned (stat I7 pc.2 n7) (hTr.obj _ _ st7)
        have mte7 := mte.step sy
        simp only at hgn nb
        -- the target
        cases eg : g w ρ S with
        | nx ρ1 S1 =>
          rw [eg] at hgn nb
          simp only at hgn nb
          have pg := (hg (fun _ _ => False) tk0).run (pl ++ pinsAt fp s7.heap) s7 σ H7 x u (fun σ8 H8 => ∃ r8, Stp T X.K X.mg r7' S H7 r8 S1 H8 ∧ MtE T X r8 ρ1 S1 σ8 H8) I7' r7 ⟨r7', ρ, S, w, mte7, rl, by rw [eg]; exact fun r' σ' H' y m' => ⟨r', y, m'⟩⟩
          refine segb ov hxe (thn pg fun _ s8 ⟨σ8, H8, I8, r8, p8, m8⟩ => ?_)
          -- the tests
          cases et : t ρ1 S1 with
          | ok b S2 =>
            rw [et] at hgn nb
            have pt := (ht (fun _ _ => False) tk0).run (pl ++ pinsAt fp s7.heap) s8 σ8 H8 (fun c H9 => c = b ∧ ∃ r9, Stp T X.K X.mg r8 S1 H8 r9 S2 H9 ∧ MtE T X r9 ρ1 S2 σ8 H9) I8 ⟨r8, ρ1, S1, m8, by rw [et]; exact fun r' H' y => ⟨rfl, r', y, m8.step y⟩⟩
            refine segb ov hxe (thn pt fun c s9 ⟨H9, I9, ec, r9, p9, m9⟩ => ?_)
            subst ec
            have stp9 : Stp T X.K X.mg r0 S0 H0 r9 S2 H9 := st.trans (sy.trans (p8.trans p9))
            -- behind a turn
            have fin : ∀ {s' : Shared} {H' : Hp}, Inv X (pl ++ pinsAt fp s7.heap) σ8 H' s' → tn (i + 1) s'.heap ∧ (∀ b ∈ fp, H' b = none) ∧ Inv X pl σ8 H' s' ∧ ∀ b ∈ cp, s'.heap.get? b = s₀.heap.get? b := fun {s' H'} I' => by
              have pin' : ∀ b ∈ fp, ∀ o, s7.heap.get? b = some o → s'.heap.get? b = some o ∧ H' b = none := fun b hb o e =>
                let z := I'.pin (b, o) (List.mem_append_right _ (List.mem_append_right _ (mem_pinsAt hb e)))
                ⟨z.1, z.2.1⟩
              refine ⟨hTr.keep _ _ _ st7 fun b hb o e => (pin' b hb o e).1, fun b hb => ?_, I'.unpinned, fun b hb => ?_⟩
              · obtain ⟨o, e, _⟩ := hTr.obj _ _ st7 b hb
                exact (pin' b hb o e).2
              · have Ip : Inv X (pl ++ []) σ H s := by rw [List.append_nil]; exact I
                obtain ⟨ob, ho, h1, _⟩ := pc.at Ip hb
                have h2 := (I'.pin (b, ob) (List.mem_append_right _ (List.mem_append_left _ ho))).1
                rw [← same b hb, h1]; exact h2
            cases c with
            | false =>
              simp only [Bool.false_eq_true, if_false]
              obtain ⟨f1, f2, f3, f4⟩ := fin I9
              exact seg_again rfl (ih (i + 1) ρ1 S2 j d n s₀ s9 r9 H9 σ8 hn (by omega) htr hgn nb ⟨⟨pl, pc, f3⟩, m9, f1, f2⟩ stp9 f4 (hHi _ _ _ _ _ _ _ _ _ hi (sy.trans (p8.trans p9)) fun b hb => (f4 b hb).trans (same b hb).symm))
            | true =>
              simp only [if_true]
              have hy : ∀ v, yieldOut X.env v = yieldValue v := fun v => by simp only [yieldOut, hco, Bool.false_eq_true, if_false]
              simp only [hy]
              cases em : m ρ1 S2 with
              | ok v S3 =>
                simp only [em] at hgn nb
                have pe := (hm (fun _ _ => False) tk0).run (pl ++ pinsAt fp s7.heap) s9 σ8 H9 (fun vv H10 => ∃ r10, Stp T X.K X.mg r9 S2 H9 r10 S3 H10 ∧ RelW X.K r10 S3.nx H10 v vv) I9 ⟨r9, ρ1, S2, m9, by rw [em]; exact fun r' H' vv y l => ⟨r', y, l⟩⟩
                rw [Sem.bind_eq_wrap', Sem.bind_eq_wrap', Sem.wrap_wrap, Sem.wrap_wrap]
                refine seg_wrap ?_
                rw [ov]
                refine thnX hxe pe fun vv s10 ⟨xx, H10, I10, r10v, r10, p10, l10⟩ => ?_
                obtain ⟨f1, f2, f3, f4⟩ := fin I10
                obtain ⟨n', rfl⟩ : ∃ n', n = n' + 1 := ⟨n - 1, by omega⟩
                have st10 := stp9.trans p10
                have m10 := m9.step p10
                have htr' : trG p g t m d0 (j + 1) = some (f, i + 1, ρ1, S3) := by
                  show (match trG p g t m d0 j with | some d => (gNextD p g t m d).d | none => none) = _
                  rw [htr]
                  show (gNextD p g t m d).d = _
                  rw [hgn]; rfl
                refine seg_at (seg_yield rfl rfl rfl ⟨j, d, v, f, i + 1, ρ1, S3, r10, H10, σ8, xx, hn, htr, hgn, r10v, l10, ⟨⟨pl, pc, f3⟩, m10, f1, f2⟩, st10, f4, hHi _ _ _ _ _ _ _ _ _ hi (sy.trans (p8.trans (p9.trans p10))) fun b hb => (f4 b hb).trans (same b hb).symm, fun s'' z hnb hi' => ?_⟩)
                obtain ⟨pl', pc', J'⟩ := Inv.woken2 cons pc f3 z
                exact seg_again rfl (ih (i + 1) ρ1 S3 (j + 1) (f, i + 1, ρ1, S3) n' s'' s'' r10 H10 σ8 (by omega) (by omega) htr' rfl hnb ⟨⟨pl', pc', J'⟩, m10, hTr.keep _ _ _ f1 fun b hb o e => z.keep b o (hfc b hb) e, f2⟩ st10 (fun _ _ => rfl) hi')
              | ex _ _ => simp only [em] at nb; exact absurd rfl nb
              | bad => simp only [em] at nb; exact absurd rfl nb
          | ex _ _ => rw [et] at nb; exact absurd rfl nb
          | bad => rw [et] at nb; exact absurd rfl nb
        | _ => rw [eg] at nb; exact absurd rfl nb
/-- it begins -/
theorem seg_gst (hHi : HiOk T X cp Hi) (hxe : ∀ e s', X.xe e s' → False) (hA : A.deeper X.env = X.A) (hc : X.calm = true) (hco : X.env.scope.isCoroutine = false) (cons : Cons X cp) (hTr : Turn X.prog X.w X.K tg J fp it tn) (hfx : ∀ b ∈ fp, b ∈ X.ex) (hfc : ∀ b ∈ fp, b ∉ cp) (hpn : X.pn = [])
    (rel : ItRel T X.K X.mg r0 S0 H0 p J) (hg : RG T X tg g) (ht : RTs T X ifs t) (hm : RE T X elt m) {F : Nat} {ρ0 : Env} {σ : L2.St} {s₀ s : Shared} (hd : d0 = (F, 0, ρ0, S0)) (hN : F ≤ N) (nb : gNextD p g t m d0 ≠ .bad) (gs : GS T X cp fp tn 0 ρ0 S0 r0 H0 σ s) (same : ∀ b ∈ cp, s.heap.get? b = s₀.heap.get? b) (hi : Hi 0 r0 S0 H0 s) :
    Seg (model X.prog X.w) A (GRe Hi T X cp p g t m d0 N r0 S0 H0) (GYp Hi T X cp fp tn p g t m d0 N r0 S0 H0) N s₀ (.compStart (.GeneratorExp elt [⟨tg, iter, ifs, 0⟩] scope pos) 0 (.ref it) .none X.env) ((model X.prog X.w).den (.compStart (.GeneratorExp elt [⟨tg, iter, ifs, 0⟩] scope pos) 0 (.ref it) .none X.env)) [] s := by
  subst hd
  have loop := seg_gl (T := T) (X := X) (cp := cp) (fp := fp) (tn := tn) (p := p) (g := g) (t := t) (m := m) (d0 := (F, 0, ρ0, S0)) (N := N) (r0 := r0) (S0 := S0) (H0 := H0) (J := J) (it := it) (tg := tg) (elt := elt) (iter := iter) (ifs := ifs) (scope := scope) (pos := pos) (A := A) hHi hxe hA hc hco cons hTr hfx hfc hpn rel hg ht hm
    F 0 ρ0 S0 0 (F, 0, ρ0, S0) N s₀ s r0 H0 σ (Nat.add_zero _) hN rfl rfl nb gs (.refl gs.mte.mt) same hi
  show Seg _ A _ _ _ s₀ _ ((compStart (.GeneratorExp elt [⟨tg, iter, ifs, 0⟩] scope pos) 0 (.ref it) .none X.env).onRaise (leaving X.env)) [] s
  unfold compStart
  rw [Sem.onRaise_eq_wrap]
  show Seg _ A _ _ _ s₀ _ ((ask >>= _).wrap _ _ _ _) [] s
  refine seg_bind_wrap (wpAny_askSetting ?_)
  split
  · exact seg_again rfl loop
  · first
      | exact seg_bind_wrap (wpAny_rule (seg_bind_wrap (wpAny_standAt (seg_bind_wrap (hTr.self _ 0 s _ _ gs.tn (seg_again rfl loop))))))
      | (refine seg_bind_wrap (wpAny_rule ?_); show Seg _ A _ _ _ s₀ _ ((standAt iter.pos >>= _).wrap _ _ _ _) [] s; exact seg_bind_wrap (wpAny_standAt (seg_bind_wrap (hTr.self _ 0 s _ _ gs.tn (seg_again rfl loop)))))
end
end RS
set_option Elab.async false
set_option linter.all false
set_option maxRecDepth 100000
set_option maxHeartbeats 1000000
set_option autoImplicit false
/-! RS.C14: next of a generator expression; any, all. -/
namespace RS
open PySem PySem.Spec PyProof.Rows L2 GenW

section
variable {Hi : HiT} {T : List NdefX.NTab} {X : Cx} {cp fp : List Addr} {tn : Nat → Heap → Prop} {p : PIt} {g : G} {t : RS.T} {m : E} {d0 : GD} {N : Nat} {r0 : Rm} {S0 : RS.S} {H0 : Hp} {A : Around}
/-- asleep, n to come at most -/
def Rdy (Hi : HiT) (T : List NdefX.NTab) (X : Cx) (cp fp : List Addr) (tn : Nat → Heap → Prop) (p : PIt) (g : G) (t : RS.T) (m : E) (d0 : GD) (N : Nat) (r0 : Rm) (S0 : RS.S) (H0 : Hp) (A : Around) (a : Addr) (k n : Nat) (s : Shared) : Prop :=
  s.heap.IsGen a k ∧ s.heap.NoLimit ∧ ∃ gs, s.gens[k]? = some gs ∧ gs.Goes (model X.prog X.w) A (GRe Hi T X cp p g t m d0 N r0 S0 H0) (GYp Hi T X cp fp tn p g t m d0 N r0 S0 H0) n (.send .none) (s.setGen k .running)
theorem gx_next {a : Addr} {k j n : Nat} {d : GD} {s : Shared} {Q : Option Value → Shared → Prop} {E : Value → Shared → Prop} (hh : A.handled = none) (hroom : A.depth < recursionLimit) (hn : n + j = N) (hn1 : 1 ≤ n) (htr : trG p g t m d0 j = some d) (rdy : Rdy Hi T X cp fp tn p g t m d0 N r0 S0 H0 A.in1 a k n s)
    (hstop : ∀ S, gNextD p g t m d = .stop S → ∀ s1 r H σ h', (∃ pl, PinC cp pl ∧ Inv X pl σ H s1) → Stp T X.K X.mg r0 S0 H0 r S H → (∀ b ∈ cp, s1.heap.get? b = s.heap.get? b) → Hi j r S H s1 → (∀ b o, s1.heap.get? b = some o → h'.get? b = some o) → Q none { s1.setGen k .finished with heap := h' })
    (hyld : ∀ w f i ρ S, gNextD p g t m d = .y w f i ρ S → ∀ v x s1 r H σ gs', L2.RelV x v → RelW X.K r S.nx H w x → GS T X cp fp tn i ρ S r H σ s1 → Stp T X.K X.mg r0 S0 H0 r S H → (∀ b ∈ cp, s1.heap.get? b = s.heap.get? b) → Hi j r S H s1 → gs'.bare = true → k < s1.gens.size →
      trG p g t m d0 (j + 1) = some (f, i, ρ, S) → (∀ s'', Slept2 cp s1 s'' → gNext p g t m f i ρ S ≠ .bad → Hi (j + 1) r S H s'' → gs'.Goes (model X.prog X.w) A.in1 (GRe Hi T X cp p g t m d0 N r0 S0 H0) (GYp Hi T X cp fp tn p g t m d0 N r0 S0 H0) (n - 1) (.send .none) s'') → Q (some v) (s1.setGen k gs')) :
    wpAny (model X.prog X.w) A (pyNext (.ref a)) Q E s := by
  obtain ⟨hg, hl, gs, hgs, hgo⟩ := rdy
  have hkl : k < s.gens.size := (Array.getElem?_eq_some_iff.mp hgs).1
  obtain ⟨n', rfl⟩ : ∃ n', n = n' + 1 := ⟨n - 1, by omega⟩
  refine wpAny_gsz (n := k + 1) hkl (next_genG (Er := fun _ _ => False) hh hl hroom hg hgs hgo (fun v s1 gs' hb hv => ?_) (fun s1 hp h' hk => ?_) fun e s1 z => z.elim)
  · intro hsz
    obtain ⟨j', d', w, f, i, ρ, S, r, H, σ, x, q1, q2, q3, q4, q5, q6, q7, q8, qh, q9⟩ := hv
    have ej : j' = j := by omega
    subst ej
    rw [htr] at q2
    cases q2
    have hsz1 : k < s1.gens.size := by
      have q : (s1.setGen k gs').gens.size = s1.gens.size := setGen_size _ _ _
      have hsz' : k + 1 ≤ (s1.setGen k gs').gens.size := hsz
      omega
    have htr' : trG p g t m d0 (j' + 1) = some (f, i, ρ, S) := by
      show (match trG p g t m d0 j' with | some d => (gNextD p g t m d).d | none => none) = _
      rw [htr]
      show (gNextD p g t m d).d = _
      rw [q3]; rfl
    exact hyld w f i ρ S q3 v x s1 r H σ gs' q4 q5 q6 q7 q8 qh hb hsz1 htr' fun s'' z nb hi => q9 s'' z nb hi
  · intro _
    obtain ⟨j', d', S, r, H, σ, q1, q2, q3, q4, q5, q6, qh⟩ := hp
    have ej : j' = j := by omega
    subst ej
    rw [htr] at q2
    cases q2
    exact hstop S q3 s1 r H σ h' q4 q5 q6 qh hk
/-- behind a yield, the consumer having done its own: asleep again -/
theorem Rdy.again {a : Addr} {k n j : Nat} {f i : Nat} {ρ : Env} {S : RS.S} {r : Rm} {H : Hp} {σ : L2.St} {gs' : GenState} {s1 s2 : Shared} (hcpa : a ∈ cp) (hc : Cons X cp) (gs : GS T X cp fp tn i ρ S r H σ s1) (hg : s2.heap.IsGen a k) (hk : s2.gens[k]? = some gs') (hl : s2.heap.NoLimit)
    (sl : Slept2 cp s1 s2) (nb : gNext p g t m f i ρ S ≠ .bad) (hi : Hi (j + 1) r S H (s2.setGen k .running))
    (kap : ∀ s'', Slept2 cp s1 s'' → gNext p g t m f i ρ S ≠ .bad → Hi (j + 1) r S H s'' → gs'.Goes (model X.prog X.w) A (GRe Hi T X cp p g t m d0 N r0 S0 H0) (GYp Hi T X cp fp tn p g t m d0 N r0 S0 H0) n (.send .none) s'') : Rdy Hi T X cp fp tn p g t m d0 N r0 S0 H0 A a k n s2 :=
  ⟨hg, hl, gs', hk, kap _ ⟨sl.os, allBare_setGen sl.bare rfl, sl.keep, sl.own⟩ nb hi⟩
theorem GS.own {i : Nat} {ρ : Env} {S : RS.S} {r : Rm} {H : Hp} {σ : L2.St} {s1 : Shared} (gs : GS T X cp fp tn i ρ S r H σ s1) : ∀ b ∈ cp, ∃ o, s1.heap.get? b = some o ∧ ∀ v, o.data ≠ .cell v := fun b hb => by
  obtain ⟨⟨pl, pc, I⟩, _⟩ := gs
  have Ip : Inv X (pl ++ []) σ H s1 := by rw [List.append_nil]; exact I
  obtain ⟨o, _, h1, _, _, _, h2⟩ := pc.at Ip hb
  exact ⟨o, h1, h2⟩
/-- nothing done while it slept -/
theorem GS.quiet {i : Nat} {ρ : Env} {S : RS.S} {r : Rm} {H : Hp} {σ : L2.St} {s1 : Shared} {k : Nat} {gs' : GenState} {d : Drawn} {tk : Nat} (gs : GS T X cp fp tn i ρ S r H σ s1) (hb : gs'.bare = true) : Slept2 cp s1 { s1.setGen k gs' with drawn := d, toks := tk } := by
  obtain ⟨_, pc, I⟩ := gs.inv
  exact ⟨rfl, allBare_setGen I.bare hb, fun _ _ _ e => e, gs.own⟩

theorem gNext_lt {p : PIt} {g : G} {t : RS.T} {m : E} : ∀ {f i : Nat} {ρ : Env} {S : RS.S} {w : W} {f' i' : Nat} {ρ' : Env} {S' : RS.S}, gNext p g t m f i ρ S = .y w f' i' ρ' S' → f' + 1 ≤ f
  | 0, _, _, _, _, _, _, _, _, e => by cases e
  | f + 1, i, ρ, S, w, f', i', ρ', S', e => by
    unfold gNext at e
    split at e
    · cases e
    · cases e
    · split at e
      · split at e
        · split at e
          · cases e; exact Nat.le_refl _
          · cases e
        · exact Nat.le_succ_of_le (gNext_lt e)
        · cases e
      · cases e
/-! ### any, all -/
def gAny (b0 : Bool) (p : PIt) (g : G) (t : RS.T) (m : E) : Nat → GD → Out W
  | 0, _ => .bad
  | k + 1, d => match gNextD p g t m d with
    | .stop S => .ok (.bl (!b0)) S
    | .y w f i ρ S => match w with
      | .bl b => if b = b0 then .ok (.bl b0) S else gAny b0 p g t m k (f, i, ρ, S)
      | _ => .bad
    | .bad => .bad
/-- the end of a walk, for its consumer: the generator's context as it stands -/
def GEnd (T : List NdefX.NTab) (X : Cx) (r0 : Rm) (S0 : RS.S) (H0 : Hp) (S : RS.S) (r : Rm) (H : Hp) (s : Shared) : Prop := (∃ pl σ, Inv X pl σ H s) ∧ Stp T X.K X.mg r0 S0 H0 r S H
theorem Inv.fin {pl : List (Addr × Obj)} {σ : L2.St} {H : Hp} {s1 : Shared} {k : Nat} {x : GenState} {h' : Heap} {dr : Drawn} {tk : Nat} (I : Inv X pl σ H s1) (hb : x.bare = true) (hk : ∀ b o, s1.heap.get? b = some o → h'.get? b = some o) : Inv X pl σ H { s1.setGen k x with heap := h', drawn := dr, toks := tk } :=
  I.call' (ch := []) rfl (Un.kept hk) (I.hok.kept hk) (allBare_setGen I.bare hb) fun b z => by simp at z
theorem gx_any (hHi : HiOk T X cp Hi) (hTr : ∀ j r S H s, Hi j r S H s) {R : Result → Shared → Prop} {a : Addr} {k : Nat} (hh : A.handled = none) (hroom : A.depth < recursionLimit) (hc : Cons X cp) (hcpa : a ∈ cp) :
    ∀ (q j n : Nat) (d : GD) (s : Shared), n + j = N → d.1 ≤ n → trG p g t m d0 j = some d → Rdy Hi T X cp fp tn p g t m d0 N r0 S0 H0 A.in1.in1 a k n s →
      (match gAny true p g t m q d with
        | .ok w S => ∀ b, w = .bl b → ∀ r H s', GEnd T X r0 S0 H0 S r H s' → R (.ok (.ret (.bool b))) s'
        | _ => False) → codeAny (model X.prog X.w) A (.builtin "any.loop" ⟨[.ref a], []⟩) R s := by
  intro q
  induction q with
  | zero => intro j n d s _ _ _ _ hq; exact hq.elim
  | succ q ih =>
    intro j n d s hn hfn htr rdy hq
    unfold gAny at hq
    have hn1 : 1 ≤ n := by
      rcases Nat.eq_zero_or_pos d.1 with z | z
      · exfalso
        unfold gNextD at hq
        rw [z] at hq
        simp only [gNext] at hq
      · omega
    refine codeAny_builtin F.entry_any_loop ?_
    rw [Around.under_plainId F.plain_any_loop _]
    show wpAny _ A.in1 (pyNext (.ref a) >>= _) _ _ s
    refine wpAny_bind (gx_next (A := A.in1) hh hroom hn hn1 htr rdy (fun S e s1 r H σ h' hI st same _ hk => ?_) fun w f i ρ S e v x s1 r H σ gs' rv rl gs st same _ hb hsz htr' kap => ?_)
    · rw [e] at hq
      refine wpAny_bind (wpAny_rule (wpAny_pure ?_))
      obtain ⟨pl, _, I⟩ := hI
      exact hq false rfl r H _ ⟨⟨pl, σ, Inv.fin I rfl hk⟩, st⟩
    · rw [e] at hq
      simp only at hq
      cases w <;> first | exact hq.elim | skip
      rename_i b
      obtain rfl := rBl rl
      obtain rfl : v = Value.bool b := rv
      refine wpAny_bind (wpAny_holding (wpAny_truthy_bool ?_))
      refine wpAny_bind (wpAny_letGo ?_)
      cases b with
      | true =>
        simp only [if_true] at hq ⊢
        refine wpAny_bind (wpAny_rule (wpAny_pure ?_))
        obtain ⟨pl, _, I⟩ := gs.inv
        exact hq true rfl r H _ ⟨⟨pl, σ, Inv.fin I hb fun _ _ e => e⟩, st⟩
      | false =>
        simp only [Bool.false_eq_true, if_false] at hq ⊢
        have hfl : f + 1 ≤ d.1 := by
          unfold gNextD at e; exact gNext_lt e
        by_cases nb : gNext p g t m f i ρ S = .bad
        · exfalso
          cases q with
          | zero => exact hq
          | succ q => unfold gAny gNextD at hq; simp only [nb] at hq
        · refine wpAny_pure ⟨plainId_quiet F.plain_any_loop _, ih (j + 1) (n - 1) (f, i, ρ, S) _ (by omega) (by show f ≤ n - 1; omega) htr' ?_ hq⟩
          obtain ⟨pl, pc, I⟩ := gs.inv
          refine Rdy.again hcpa hc gs ?_ (setGen_at hsz) I.nolimit (gs.quiet hb) nb (hTr _ _ _ _ _) kap
          obtain ⟨o, nm, qn, ho, rest⟩ := rdy.1
          exact ⟨o, nm, qn, (same a hcpa).trans ho, rest⟩
theorem gx_all (hHi : HiOk T X cp Hi) (hTr : ∀ j r S H s, Hi j r S H s) {R : Result → Shared → Prop} {a : Addr} {k : Nat} (hh : A.handled = none) (hroom : A.depth < recursionLimit) (hc : Cons X cp) (hcpa : a ∈ cp) :
    ∀ (q j n : Nat) (d : GD) (s : Shared), n + j = N → d.1 ≤ n → trG p g t m d0 j = some d → Rdy Hi T X cp fp tn p g t m d0 N r0 S0 H0 A.in1.in1 a k n s →
      (match gAny false p g t m q d with
        | .ok w S => ∀ b, w = .bl b → ∀ r H s', GEnd T X r0 S0 H0 S r H s' → R (.ok (.ret (.bool b))) s'
        | _ => False) → codeAny (model X.prog X.w) A (.builtin "all.loop" ⟨[.ref a], []⟩) R s := by
  intro q
  induction q with
  | zero => intro j n d s _ _ _ _ hq; exact hq.elim
  | succ q ih =>
    intro j n d s hn hfn htr rdy hq
    unfold gAny at hq
    have hn1 : 1 ≤ n := by
      rcases Nat.eq_zero_or_pos d.1 with z | z
      · exfalso
        unfold gNextD at hq
        rw [z] at hq
        simp only [gNext] at hq
      · omega
    refine codeAny_builtin F.entry_all_loop ?_
    rw [Around.under_plainId F.plain_all_loop _]
    show wpAny _ A.in1 (pyNext (.ref a) >>= _) _ _ s
    refine wpAny_bind (gx_next (A := A.in1) hh hroom hn hn1 htr rdy (fun S e s1 r H σ h' hI st same _ hk => ?_) fun w f i ρ S e v x s1 r H σ gs' rv rl gs st same _ hb hsz htr' kap => ?_)
    · rw [e] at hq
      refine wpAny_bind (wpAny_rule (wpAny_pure ?_))
      obtain ⟨pl, _, I⟩ := hI
      exact hq true rfl r H _ ⟨⟨pl, σ, Inv.fin I rfl hk⟩, st⟩
    · rw [e] at hq
      simp only at hq
      cases w <;> first | exact hq.elim | skip
      rename_i b
      obtain rfl := rBl rl
      obtain rfl : v = Value.bool b := rv
      refine wpAny_bind (wpAny_holding (wpAny_truthy_bool ?_))
      refine wpAny_bind (wpAny_letGo ?_)
      cases b with
      | false =>
        simp only [Bool.false_eq_true, if_false, if_true] at hq ⊢
        refine wpAny_bind (wpAny_rule (wpAny_pure ?_))
        obtain ⟨pl, _, I⟩ := gs.inv
        exact hq false rfl r H _ ⟨⟨pl, σ, Inv.fin I hb fun _ _ e => e⟩, st⟩
      | true =>
        simp only [Bool.true_eq_false, if_false, if_true] at hq ⊢
        have hfl : f + 1 ≤ d.1 := by
          unfold gNextD at e; exact gNext_lt e
        by_cases nb : gNext p g t m f i ρ S = .bad
        · exfalso
          cases q with
          | zero => exact hq
          | succ q => unfold gAny gNextD at hq; simp only [nb] at hq
        · refine wpAny_pure ⟨plainId_quiet F.plain_all_loop _, ih (j + 1) (n - 1) (f, i, ρ, S) _ (by omega) (by show f ≤ n - 1; omega) htr' ?_ hq⟩
          obtain ⟨pl, pc, I⟩ := gs.inv
          refine Rdy.again hcpa hc gs ?_ (setGen_at hsz) I.nolimit (gs.quiet hb) nb (hTr _ _ _ _ _) kap
          obtain ⟨o, nm, qn, ho, rest⟩ := rdy.1
          exact ⟨o, nm, qn, (same a hcpa).trans ho, rest⟩
end
end RS
set_option Elab.async false
set_option linter.all false
set_option maxRecDepth 100000
set_option maxHeartbeats 1000000
set_option autoImplicit false
/-! RS.C15: any(..), all(..) of a generator expression. -/
namespace RS
open PySem PySem.Spec PyProof.Rows L2 GenW

section
variable {T : List NdefX.NTab} {K : PySem.W.Frag} {mg : Str → Option Value} {r : Rm} {s : S} {H : Hp}
/-- a code object more in a table -/
theorem Mt.table (m : Mt T K mg r s H) {P c' : Addr} {nm : Nat → Nat → Str} {ps : Array Value} {pos : Pos} (hP : H P = some (.tbl ps)) (ht : TriplesOk ps.toList) (ha : ∀ (pos : Pos) (cv : Value), codeAmong pos ps.toList = some cv → ∃ c, cv = .ref c ∧ H c = some (LamX.CodeO c (nm pos.line pos.col))) (hu : ∀ q ∈ T, q.1 = P → q.2 = nm) (nC : H c' = none) :
    Stp T K mg r s H r s (upd (upd H P (.tbl (ps ++ #[rawInt pos.line, rawInt pos.col, .ref c']))) c' (LamX.CodeO c' (nm pos.line pos.col))) := by
  have neP : ∀ b o, H b = some o → (∀ qs, o ≠ .tbl qs) → b ≠ P := fun b o e n z => by
    rw [z, hP] at e
    exact n ps (Option.some.inj e).symm
  have keep : ∀ b o, H b = some o → (∀ qs, o ≠ .tbl qs) → upd (upd H P (.tbl (ps ++ #[rawInt pos.line, rawInt pos.col, .ref c']))) c' (LamX.CodeO c' (nm pos.line pos.col)) b = some o := fun b o e n => by
    rw [upd_ne (ne_of_none e nC), upd_ne (neP b o e n)]; exact e
  have kp : Kp r s.nx H r s.nx (upd (upd H P (.tbl (ps ++ #[rawInt pos.line, rawInt pos.col, .ref c']))) c' (LamX.CodeO c' (nm pos.line pos.col))) := ⟨Nat.le_refl _, fun _ _ => rfl, fun p xs h => keep p _ h (fun _ z => nomatch z), fun _ f => f, fun p o f h => keep p _ h fun ps z => by
    obtain ⟨o', e1, e2⟩ := (m.fr p f).2
    rw [h] at e1
    exact e2 ps ((Option.some.inj e1).symm.trans z)⟩
  have tb : ∀ p qs, H p = some (.tbl qs) → ∃ more, upd (upd H P (.tbl (ps ++ #[rawInt pos.line, rawInt pos.col, .ref c']))) c' (LamX.CodeO c' (nm pos.line pos.col)) p = some (.tbl (qs ++ more)) := fun p qs h => by
    rw [upd_ne (ne_of_none h nC)]
    by_cases e : p = P
    · rw [e] at h
      rw [hP] at h; cases h
      rw [e, upd_same]
      exact ⟨_, rfl⟩
    · rw [upd_ne e]
      exact ⟨#[], by simpa using h⟩
  refine ⟨kp, ⟨m.inj, fun a o h => ?_, fun a ha => ?_, fun q hq => ?_, m.lkb, fun q f => ⟨(m.fr q f).1, (m.fr q f).2.elim fun o e => ⟨o, kp.lst q o f e.1, e.2⟩⟩⟩, rfl, fun _ _ => rfl, fun a ha => ?_, fun p o h _ n => keep p o h n, tb, fun a h1 h2 => absurd (Nat.lt_of_le_of_lt h1 h2) (Nat.lt_irrefl _), fun _ f => .inl f⟩
  · obtain ⟨h1, u, h2, h3⟩ := m.ob a o h
    exact ⟨h1, u, keep _ _ h2 h3.notup.2.1, h3.kp kp⟩
  · obtain ⟨u, h2, h3⟩ := m.dom a ha
    exact ⟨u, keep _ _ h2 h3, h3⟩
  · by_cases hb : q.1 = P
    · rw [hu q hq hb, hb]
      have eL : (ps ++ #[rawInt pos.line, rawInt pos.col, Value.ref c']).toList = ps.toList ++ [rawInt pos.line, rawInt pos.col, .ref c'] := by simp
      refine ⟨_, by rw [upd_ne (ne_of_none hP nC), upd_same], by rw [eL]; exact PySem.TriplesOk_snoc _ _ _ _ ht, fun p' cv hcv => ?_⟩
      rw [eL] at hcv
      rcases NdefX.among_app2 _ ht hcv with z | ⟨z, z1, z2⟩
      · obtain ⟨c0, e1, e2⟩ := ha p' cv z
        exact ⟨c0, e1, keep _ _ e2 LamX.codeO_ne⟩
      · refine ⟨c', z, ?_⟩
        rw [← z1, ← z2]
        exact upd_same
    · obtain ⟨ps', a1, a2, a3⟩ := m.tab q hq
      refine ⟨ps', by rw [upd_ne (ne_of_none a1 nC), upd_ne hb]; exact a1, a2, fun p' cv hcv => ?_⟩
      obtain ⟨c0, e1, e2⟩ := a3 p' cv hcv
      exact ⟨c0, e1, keep _ _ e2 LamX.codeO_ne⟩
  · obtain ⟨u, h2, h3⟩ := m.dom a (m.lkb a ha)
    exact ⟨m.lkb a ha, by rw [keep _ _ h2 h3, h2]⟩
end

def wipeE (ρ : Env) : List Nat → Env
  | [] => ρ
  | v :: vs => (wipeE ρ vs).set v none
theorem wipeE_some {ρ : Env} {i : Nat} {w : W} : ∀ {vs : List Nat}, (wipeE ρ vs)[i]? = some (some w) → ρ[i]? = some (some w) ∧ i ∉ vs
  | [], h => ⟨h, by simp⟩
  | v :: vs, h => by
    unfold wipeE at h
    by_cases hi : v = i
    · subst hi
      by_cases hl : v < (wipeE ρ vs).length
      · rw [List.getElem?_set_self hl] at h; cases h
      · rw [List.getElem?_eq_none (by simpa using hl)] at h; cases h
    · rw [List.getElem?_set_ne hi] at h
      obtain ⟨h1, h2⟩ := wipeE_some h
      exact ⟨h1, by simp only [List.mem_cons, not_or]; exact ⟨fun e => hi e.symm, h2⟩⟩
theorem wipeE_length (ρ : Env) : ∀ vs : List Nat, (wipeE ρ vs).length = ρ.length
  | [] => rfl
  | v :: vs => by unfold wipeE; rw [List.length_set, wipeE_length ρ vs]
theorem wipe_keep {σ : L2.St} {i : Nat} {x : V} : ∀ {vs : List Nat}, σ[i]? = some (some x) → i ∉ vs → (wipe σ vs)[i]? = some (some x)
  | [], h, _ => h
  | v :: vs, h, hn => by
    unfold wipe
    rw [List.getElem?_set_ne fun e => hn (by rw [e]; exact List.mem_cons_self ..)]
    exact wipe_keep h fun z => hn (List.mem_cons_of_mem _ z)
section
variable {T : List NdefX.NTab} {X : Cx}
/-- the block's own names are forgotten -/
theorem MtE.wipe {Y : Cx} {r : Rm} {ρ : Env} {s : S} {σ : L2.St} {H : Hp} (m : MtE T X r ρ s σ H) (vs : List Nat) (hK : Y.K = X.K) (hm : Y.mg = X.mg) : MtE T Y r (wipeE ρ vs) s (L2.wipe σ vs) H := by
  refine ⟨by rw [hK, hm]; exact m.mt, by rw [wipeE_length, wipe_length]; exact m.len, fun i w e => ?_⟩
  obtain ⟨e1, hn⟩ := wipeE_some e
  obtain ⟨v, e2, q⟩ := m.env i w e1
  exact ⟨v, wipe_keep e2 hn, by rw [hK]; exact q⟩
/-- what a generator expression in the def X asks -/
structure GxOk (T : List NdefX.NTab) (X : Cx) (scope : Scope) (own : List (Str × Nat)) (c P : Addr) (nm : Nat → Nat → Str) (gpos : Pos) : Prop where
  blk : BlkOk X.N X.env.scope scope own
  nd : X.N.Nodup
  dot : (".0" : Str) ∉ X.N
  co : scope.isCoroutine = false
  d0 : scope.names.lookup (".0" : Str) = some NameKind.local
  code : X.env.code = .ref c
  TB : LamX.TabB X.base X.mg c P
  hT : (P, nm) ∈ T
  hn : nm gpos.line gpos.col = X.env.qual ++ "<genexpr>"
  hu : ∀ q ∈ T, q.1 = P → q.2 = nm
/-- its code object, new or found -/
theorem gx_code {pins : List (Addr × Obj)} {σ : L2.St} {H : Hp} {s : Shared} {r : Rm} {S : RS.S} {scope : Scope} {own : List (Str × Nat)} {c P : Addr} {nm : Nat → Nat → Str} {gpos : Pos} {E : Value → Shared → Prop} {Q : Value → Shared → Prop} (go : GxOk T X scope own c P nm gpos) (I : Inv X pins σ H s) (m : Mt T X.K X.mg r S H)
    (hQ : ∀ code H1 s', Inv X pins σ H1 s' → Stp T X.K X.mg r S H r S H1 → (∀ b o, H b = none → s.heap.get? b = some o → s'.heap.get? b = some o) → (∀ b, b < s.heap.objs.size → H b = none → H1 b = none) → Q code s') :
    wpAny (model X.prog X.w) X.A (genexprCode X.env gpos (X.env.qual ++ "<genexpr>") scope) Q E s := by
  obtain ⟨ps, hP, ht, ha⟩ := (show NdefX.TabN H P nm from m.tab _ go.hT)
  have hPs : s.heap.get? P = some { cls := .none, data := .fields ps } := I.hok P _ hP
  have cd : PySem.W.CodeHd s.heap c P := go.TB.code.keeps I.bk
  cases hf : codeAmong gpos ps.toList with
  | none =>
    refine wpAny_genexprCodeX go.code (cd.code hPs ht) (cd.tab hPs) hf fun c' h' tk hx hge hlt hco' hrec htab' _ => ?_
    obtain ⟨c2, oc, vs, t, e2, hoc, hd, hv⟩ := hrec
    cases e2
    have nC : H c' = none := I.hok.fresh hge
    have I1 := LamX.inv_table (t' := tk) (more := #[rawInt gpos.line, rawInt gpos.col, .ref c']) (h' := h') (q := nm gpos.line gpos.col) I hP (fun b o hb e => hx b o hb e) htab'.2 hge ⟨oc, vs, t, hoc, hd, by rw [go.hn]; exact hv⟩
    refine hQ _ _ _ I1 (m.table hP ht ha go.hu nC) (fun b o n e => hx b o (fun z => by rw [z, hP] at n; cases n) e) fun b hb n => ?_
    rw [upd_ne (fun z => by rw [z] at hb; exact absurd hb (Nat.not_lt.mpr hge)), upd_ne (fun z => by rw [z, hP] at n; cases n)]
    exact n
  | some cv =>
    refine wpAny_genexprCode_hit go.code (cd.code hPs ht) hf ?_
    exact hQ cv H s I (.refl m) (fun _ _ _ e => e) fun _ _ n => n
/-- the generator just made, in X: what its consumer is handed. a: its object -/
structure GNew (T : List NdefX.NTab) (X : Cx) (pins : List (Addr × Obj)) (σ : L2.St) (tg elt iter : Expr) (ifs : List Expr) (scope : Scope) (gpos : Pos) (own : List (Str × Nat)) (p : PIt) (r : Rm) (S : RS.S) (H : Hp) (s4 : Shared) (code : Value) (it : Addr) (fp : List Addr) (tn : Nat → Heap → Prop) (J : It) (a k : Addr) (s5 : Shared) : Prop where
  inv : Inv X pins σ H s4
  fpo : ∀ b ∈ fp, FpOk X pins H b ∧ b < s4.heap.objs.size
  turn : Turn X.prog X.w X.K tg J fp it tn
  rel : ItRel T X.K X.mg r S H p J
  tn0 : tn 0 s4.heap
  gen : s5.heap.IsGen a k
  fresh : s5.gens[k]? = some (.fresh (.compStart (.GeneratorExp elt [⟨tg, iter, ifs, 0⟩] scope gpos) 0 (.ref it) .none (gEnv scope (cloFrom X.env.cells scope.names []) s4.heap.objs.size code builtinsNs X.env)))
  keep : ∀ b o, s4.heap.get? b = some o → s5.heap.get? b = some o
  os : s5.os = s4.os
  sz : s4.heap.objs.size ≤ a ∧ a < s5.heap.objs.size ∧ a ≠ s4.heap.objs.size
  ginv : ∀ A' : Around, A'.frames = some X.stack → A'.handled = none → Inv (gX X A' s4 H scope (gEnv scope (cloFrom X.env.cells scope.names []) s4.heap.objs.size code builtinsNs X.env) fp []) [] (L2.wipe σ (own.map (·.2))) H s5
  nocell : ∀ x c, (gEnv scope (cloFrom X.env.cells scope.names []) s4.heap.objs.size code builtinsNs X.env).cells.lookup x = some c → c ≠ a
  bare : AllBare s5.gens
theorem gx_new {pins : List (Addr × Obj)} {σ : L2.St} {H : Hp} {s : Shared} {r : Rm} {ρ : Env} {S : RS.S} {tg elt iter : Expr} {ifs : List Expr} {scope : Scope} {own : List (Str × Nat)} {c P : Addr} {nm : Nat → Nat → Str} {gpos : Pos} {mi : It'} {k0 : Nat} {Wx : Wish} {Q : Value → Shared → Prop}
    (tk : Tk X Wx) (hr : Room k0 X.A) (go : GxOk T X scope own c P nm gpos) (hi : RI T X tg iter mi) (hs : ∀ v, genFold iter X.env v = pure v) (I : Inv X pins σ H s) (m : MtE T X r ρ S σ H) (hex : ∀ cl s', mi ρ S = .ex cl s' → ∀ r' H', Stp T X.K X.mg r S H r' s' H' → Wx cl H') (hb : mi ρ S ≠ .bad)
    (hQ : ∀ p S1, mi ρ S = .ok p S1 → ∀ r1 H1 s4 code it fp tn J a k s5, Stp T X.K X.mg r S H r1 S1 H1 → GNew T X pins σ tg elt iter ifs scope gpos own p r1 S1 H1 s4 code it fp tn J a k s5 → Q (.ref a) s5) :
    wpAny (model X.prog X.w) X.A (eval (.GeneratorExp elt [⟨tg, iter, ifs, 0⟩] scope gpos) X.env) Q X.xe s := by
  have hfree : ∀ y ∈ scope.names, y.2 = .free → ∃ c, X.env.cells.lookup y.1 = some c := fun y hy e => by
    rcases go.blk.free y hy e with z | z
    · exact I.ok.has _ (.inl z)
    · exact I.ok.has _ (.inr z)
  refine gen_make go.co (closure_ok hfree) go.d0 go.blk.kind (by have := hr.dp; omega) ?_ hs
  have hrun := (hi Wx tk).run pins s σ H (fun J H1 => ∃ p S1 r1, mi ρ S = .ok p S1 ∧ Stp T X.K X.mg r S H r1 S1 H1 ∧ ItRel T X.K X.mg r1 S1 H1 p J) I ⟨r, ρ, S, m, by
    cases e : mi ρ S with
    | ok p S1 => exact fun r1 H1 J st rl => ⟨p, S1, r1, rfl, st, rl⟩
    | ex cl s' => exact fun r' H' st => hex cl s' e r' H' st
    | bad => exact absurd e hb⟩
  refine thn hrun fun xv s1 h1 => thn h1 fun itv s2 h2 => ?_
  obtain ⟨it, fp, tn, J, H2, e, I2, Tu, st2, f2, p, S1, r1, em, st, rel⟩ := h2
  subst e
  refine ⟨I2.nolimit, ?_⟩
  have sz2 : ∀ b ∈ fp, b < s2.heap.objs.size := fun b hb => by
    obtain ⟨o, e, _⟩ := Tu.obj _ _ st2 b hb
    exact Heap.lt_size e
  refine gx_code go I2 st.mt fun code H3 s3 I3 st3 k3 n3 => ?_
  obtain ⟨bm, ob, e1, e2, e3, e4, e5, e6, e7, e8⟩ := go.TB.bm
  refine wpAny_builtinsFor (m := X.mg) (by rw [I3.ok.glob]; exact I3.mod.glob.keeps I3.bk) e1 e2 (I3.bk _ _ e5) e6 e7 e8 ?_
  intro h' tk' gobj hns hsb ⟨q1, q2, eg⟩
  subst eg
  have f3 : ∀ b ∈ fp, FpOk X pins H3 b ∧ b < s3.heap.objs.size := fun b hb => by
    obtain ⟨o, e, _⟩ := Tu.obj _ _ st2 b hb
    refine ⟨⟨n3 b (sz2 b hb) (f2 b hb).1, (f2 b hb).2⟩, Heap.lt_size (k3 b o (f2 b hb).1 e)⟩
  have kf : ∀ b o, s3.heap.get? b = some o → h'.get? b = some o := fun b o e => (hsb.2 b (Nat.ne_of_lt (Heap.lt_size e))).trans (pushCells_keeps _ _ _ _ (Heap.get?_push_of_some _ e))
  have szh : s3.heap.objs.size < h'.objs.size := hns.lt
  refine hQ p S1 em r1 H3 s3 code it fp tn J h'.objs.size s3.gens.size _ (st.trans st3) ⟨I3, f3, Tu, ?_, ?_, ⟨_, q1, q2, Heap.get?_push_size _ rfl, rfl, rfl, rfl⟩, Array.getElem?_push_size .., fun b o e => Heap.get?_push_of_some _ (kf b o e), rfl, ⟨Nat.le_of_lt szh, ?_, Nat.ne_of_gt szh⟩, fun A' hA hh => ?_, fun x c e z => ?_, AllBare.push I3.bare rfl⟩
  · exact fun i r s H z => rel i r s H (st3.trans z)
  · exact Tu.keep _ _ _ st2 fun b hb o e => k3 b o (f2 b hb).1 e
  · show _ < (h'.push _).objs.size
    rw [Heap.size_push]; exact Nat.lt_succ_self _
  · have J1 := gen_start (code := code) (tk := tk') I3 go.blk go.nd go.dot f3 hA hh hns hsb
    exact J1.call' (ch := []) rfl (Un.kept fun b o e => Heap.get?_push_of_some _ e) (J1.hok.kept fun b o e => Heap.get?_push_of_some _ e) (AllBare.push I3.bare rfl) fun b z => by simp at z
  · have J1 := gen_start (A' := X.A) (code := code) (tk := tk') I3 go.blk go.nd go.dot f3 I3.ok.frames hr.hd hns hsb
    obtain ⟨v, hv⟩ := J1.cell x c e
    have hl := hv.lt
    rw [z] at hl
    exact Nat.lt_irrefl _ hl

/-- what is asked of its parts: in whatever state and around it runs -/
structure GParts (T : List NdefX.NTab) (X : Cx) (scope : Scope) (k0 : Nat) (tg elt : Expr) (ifs : List Expr) (g : G) (t : RS.T) (m : E) : Prop where
  tgt : ∀ (A' : Around) (s : Shared) (H : Hp) (cenv : PySem.Env) (fp : List Addr), cenv.scope = scope → cenv.qual = X.env.qual ++ "<genexpr>." → Room k0 (A'.deeper cenv) → (∃ L, cenv.frame = some L) → RG T (gX X A' s H scope cenv fp []) tg g
  tst : ∀ (A' : Around) (s : Shared) (H : Hp) (cenv : PySem.Env) (fp : List Addr), cenv.scope = scope → cenv.qual = X.env.qual ++ "<genexpr>." → Room k0 (A'.deeper cenv) → (∃ L, cenv.frame = some L) → RTs T (gX X A' s H scope cenv fp []) ifs t
  elt : ∀ (A' : Around) (s : Shared) (H : Hp) (cenv : PySem.Env) (fp : List Addr), cenv.scope = scope → cenv.qual = X.env.qual ++ "<genexpr>." → Room k0 (A'.deeper cenv) → (∃ L, cenv.frame = some L) → RE T (gX X A' s H scope cenv fp []) elt m
/-- the walk's context, ready to be woken in A' -/
theorem GNew.ready {Hi : HiT} {pins : List (Addr × Obj)} {σ : L2.St} {H : Hp} {s4 s5 : Shared} {r : Rm} {ρ : Env} {S : RS.S} {tg elt iter : Expr} {ifs : List Expr} {scope : Scope} {own : List (Str × Nat)} {gpos : Pos} {p : PIt} {code : Value} {it : Addr} {fp : List Addr} {tn : Nat → Heap → Prop} {J : It} {a k : Addr} {g : G} {t : RS.T} {m : E} {A' : Around} {cp : List Addr} {s6 : Shared} {k0 : Nat}
    (gn : GNew T X pins σ tg elt iter ifs scope gpos own p r S H s4 code it fp tn J a k s5) (hc : X.calm = true) (hco : scope.isCoroutine = false) (mm : MtE T X r ρ S σ H) (hA : A'.frames = some X.stack) (hh : A'.handled = none)
    (gp : GParts T X scope k0 tg elt ifs g t m) (hr' : Room k0 (A'.deeper (gEnv scope (cloFrom X.env.cells scope.names []) s4.heap.objs.size code builtinsNs X.env)))
    (nb : gNextD p g t m (p.n + 1, 0, wipeE ρ (own.map (·.2)), S) ≠ .bad)
    (hHi : HiOk T (gX X A' s4 H scope (gEnv scope (cloFrom X.env.cells scope.names []) s4.heap.objs.size code builtinsNs X.env) fp []) cp Hi) (hi : Hi 0 r S H (s6.setGen k .running)) (hcp : ∀ b ∈ cp, s4.heap.objs.size ≤ b ∧ b ≠ s4.heap.objs.size ∧ (∃ o, s6.heap.get? b = some o ∧ ∀ v, o.data ≠ .cell v) ∧ (∀ x c, (gEnv scope (cloFrom X.env.cells scope.names []) s4.heap.objs.size code builtinsNs X.env).cells.lookup x = some c → c ≠ b))
    (h6 : s6.os = s5.os ∧ s6.gens = s5.gens ∧ ∀ b o, s5.heap.get? b = some o → s6.heap.get? b = some o) :
    Cons (gX X A' s4 H scope (gEnv scope (cloFrom X.env.cells scope.names []) s4.heap.objs.size code builtinsNs X.env) fp []) cp ∧
    Rdy Hi T (gX X A' s4 H scope (gEnv scope (cloFrom X.env.cells scope.names []) s4.heap.objs.size code builtinsNs X.env) fp []) cp fp tn p g t m (p.n + 1, 0, wipeE ρ (own.map (·.2)), S) (p.n + 1) r S H A' a k (p.n + 1) s6 := by
  obtain ⟨h6o, h6g, h6k⟩ := h6
  have cons : Cons (gX X A' s4 H scope (gEnv scope (cloFrom X.env.cells scope.names []) s4.heap.objs.size code builtinsNs X.env) fp []) cp := ⟨fun b hb => let ⟨c1, c2, _, c4⟩ := hcp b hb; ⟨c1, c2, c4, fun q hq => by simp at hq⟩⟩
  have gi := gn.ginv A' hA hh
  have g6 : s6.gens[k]? = some (.fresh (.compStart (.GeneratorExp elt [⟨tg, iter, ifs, 0⟩] scope gpos) 0 (.ref it) .none (gEnv scope (cloFrom X.env.cells scope.names []) s4.heap.objs.size code builtinsNs X.env))) := by rw [h6g]; exact gn.fresh
  have nofr : ∀ b : Addr, s4.heap.objs.size ≤ b → b ∉ frs X.stack := fun b hb z => by
    rcases List.mem_cons.mp (gn.inv.stkSub _ z) with e | e
    · have h1 := gn.inv.lt
      rw [← e] at h1
      exact Nat.lt_irrefl _ (Nat.lt_of_lt_of_le h1 hb)
    · exact gn.inv.nofs hb e
  have g7 : Inv (gX X A' s4 H scope (gEnv scope (cloFrom X.env.cells scope.names []) s4.heap.objs.size code builtinsNs X.env) fp []) [] (L2.wipe σ (own.map (·.2))) H (s6.setGen k .running) :=
    gi.call' (ch := []) h6o (Un.kept h6k) (gi.hok.kept h6k) (allBare_setGen (by rw [h6g]; exact gn.bare) rfl) fun b z => by simp at z
  refine ⟨cons, gn.gen.keeps h6k, (gi.nolimit).keeps h6k, _, g6, rfl, ?_⟩
  refine seg_gst (X := gX X A' s4 H scope (gEnv scope (cloFrom X.env.cells scope.names []) s4.heap.objs.size code builtinsNs X.env) fp []) (ρ0 := wipeE ρ (own.map (·.2))) (F := p.n + 1) hHi (fun _ _ z => z) rfl hc hco cons gn.turn (fun _ z => z) (fun b hb z => ?_) rfl gn.rel (gp.tgt _ _ _ _ _ rfl rfl hr' ⟨_, rfl⟩) (gp.tst _ _ _ _ _ rfl rfl hr' ⟨_, rfl⟩) (gp.elt _ _ _ _ _ rfl rfl hr' ⟨_, rfl⟩) rfl (Nat.le_refl _) nb ⟨⟨pinsAt cp s6.heap, ⟨fun b hb => ?_, fun q hq => (of_pinsAt hq).1⟩, g7.pins_of fun q hq => ?_⟩, ?_, ?_, fun b hb => (gn.fpo b hb).1.1⟩ (fun _ _ => rfl) hi
  · exact absurd (gn.fpo b hb).2 (Nat.not_lt.mpr (hcp b z).1)
  · obtain ⟨_, _, ⟨o, e, _⟩, _⟩ := hcp b hb
    exact ⟨o, mem_pinsAt hb e⟩
  · obtain ⟨hb, e⟩ := of_pinsAt hq
    obtain ⟨c1, c2, ⟨o, e', hd⟩, _⟩ := hcp q.1 hb
    rw [e] at e'; cases e'
    exact ⟨e, gn.inv.hok.fresh c1, c2, nofr _ c1, hd⟩
  · exact MtE.wipe (Y := gX X A' s4 H scope (gEnv scope (cloFrom X.env.cells scope.names []) s4.heap.objs.size code builtinsNs X.env) fp []) mm (own.map (·.2)) rfl rfl
  · exact gn.turn.keep _ _ _ gn.tn0 fun b _ o e => h6k b o (gn.keep b o e)
/-- the def's own context again -/
theorem GNew.back {pins : List (Addr × Obj)} {σ : L2.St} {H : Hp} {s4 s5 : Shared} {r : Rm} {S : RS.S} {tg elt iter : Expr} {ifs : List Expr} {scope : Scope} {own : List (Str × Nat)} {gpos : Pos} {p : PIt} {code : Value} {it : Addr} {fp : List Addr} {tn : Nat → Heap → Prop} {J : It} {a k : Addr} {A' : Around} {pl : List (Addr × Obj)} {σ' : L2.St} {H' : Hp} {s' : Shared}
    (gn : GNew T X pins σ tg elt iter ifs scope gpos own p r S H s4 code it fp tn J a k s5) (I : Inv (gX X A' s4 H scope (gEnv scope (cloFrom X.env.cells scope.names []) s4.heap.objs.size code builtinsNs X.env) fp []) pl σ' H' s') : Inv X pins σ H' s' :=
  gn.inv.call' (ch := fp) I.os I.base I.hok I.bare fun b hb => ⟨(gn.fpo b hb).1.2.2.2.1, (gn.fpo b hb).1.2.1, (gn.fpo b hb).1.2.2.2.2.1, (gn.fpo b hb).1.2.2.2.2.2⟩

/-! ### any, all -/
def eAny (b0 : Bool) (mi : It') (own : List Nat) (g : G) (t : RS.T) (m : E) : E := fun ρ s => (mi ρ s).bind fun p s1 => gAny b0 p g t m (p.n + 1) (p.n + 1, 0, wipeE ρ own, s1)
theorem gAny_ok {b0 : Bool} {p : PIt} {g : G} {t : RS.T} {m : E} : ∀ {q : Nat} {d : GD} {w : W} {S : RS.S}, gAny b0 p g t m q d = .ok w S → ∃ b, w = .bl b
  | 0, _, _, _, e => by cases e
  | q + 1, d, w, S, e => by
    unfold gAny at e
    split at e
    · cases e; exact ⟨_, rfl⟩
    · split at e
      · split at e
        · cases e; exact ⟨_, rfl⟩
        · exact gAny_ok e
      · cases e
    · cases e
theorem gAny_ex {b0 : Bool} {p : PIt} {g : G} {t : RS.T} {m : E} : ∀ {q : Nat} {d : GD} {c : Str} {S : RS.S}, gAny b0 p g t m q d ≠ .ex c S
  | 0, _, _, _, e => by cases e
  | q + 1, d, w, S, e => by
    unfold gAny at e
    split at e
    · cases e
    · split at e
      · split at e
        · cases e
        · exact gAny_ex e
      · cases e
    · cases e
theorem gAny_nb {b0 : Bool} {p : PIt} {g : G} {t : RS.T} {m : E} {q : Nat} {d : GD} {w : W} {S : RS.S} (e : gAny b0 p g t m q d = .ok w S) : gNextD p g t m d ≠ .bad := fun z => by
  cases q with
  | zero => cases e
  | succ q => unfold gAny at e; rw [z] at e; cases e
variable {c P : Addr} {nm : Nat → Nat → Str} {gpos p pos : Pos} {own : List (Str × Nat)} {tg elt iter : Expr} {ifs : List Expr} {scope : Scope} {mi : It'} {g : G} {t : RS.T} {m : E} {k0 : Nat}
theorem roomGen {k0 : Nat} {A : Around} (hr : Room (k0 + 2) A) (env : PySem.Env) : Room k0 (A.in1.in1.in1.in1.deeper env) :=
  ⟨hr.hd, by have := hr.dp; show A.depth + 1 + 3 * k0 + 5 < _; omega, by have := hr.un; show A.units + 1 + 1 + 1 + 1 + 3 + 16 * k0 + 200 < _; omega⟩
theorem roomGen2 {k0 : Nat} {A : Around} (hr : Room (k0 + 2) A) (env : PySem.Env) : Room k0 (A.in1.in1.deeper env) :=
  ⟨hr.hd, by have := hr.dp; show A.depth + 1 + 3 * k0 + 5 < _; omega, by have := hr.un; show A.units + 1 + 1 + 3 + 16 * k0 + 200 < _; omega⟩
theorem GNew.hcp1 {pins : List (Addr × Obj)} {σ : L2.St} {H : Hp} {s4 s5 : Shared} {r : Rm} {S : RS.S} {pi : PIt} {code : Value} {it : Addr} {fp : List Addr} {tn : Nat → Heap → Prop} {J : It} {a k : Addr} (gn : GNew T X pins σ tg elt iter ifs scope gpos own pi r S H s4 code it fp tn J a k s5) :
    s4.heap.objs.size ≤ a ∧ a ≠ s4.heap.objs.size ∧ (∃ o, s5.heap.get? a = some o ∧ ∀ v, o.data ≠ .cell v) ∧ (∀ x c, (gEnv scope (cloFrom X.env.cells scope.names []) s4.heap.objs.size code builtinsNs X.env).cells.lookup x = some c → c ≠ a) := by
  obtain ⟨o, q1, q2, ho, _, hd, _⟩ := gn.gen
  exact ⟨gn.sz.1, gn.sz.2.2, ⟨o, ho, fun v z => by rw [hd] at z; cases z⟩, gn.nocell⟩
theorem rs_any (hr : Room (k0 + 2) X.A) (hc : X.calm = true) (go : GxOk T X scope own c P nm gpos) (hi : RI T X tg iter mi) (gp : GParts T X scope k0 tg elt ifs g t m) (hg : Gl X "any" := by rfl) (hmg : X.mg "any" = none) (hs : ∀ v, genFold iter X.env v = pure v := by intro _; rfl)
    (he : starEach [.GeneratorExp elt [⟨tg, iter, ifs, 0⟩] scope gpos] X.env = (false, eval (.GeneratorExp elt [⟨tg, iter, ifs, 0⟩] scope gpos) X.env) :: starEach [] X.env := by rfl) :
    RE T X (.Call (.Name "any" p) [.GeneratorExp elt [⟨tg, iter, ifs, 0⟩] scope gpos] [] pos) (eAny true mi (own.map (·.2)) g t m) := fun Wx tk => ⟨fun pins s σ H Q I h => by
  obtain ⟨r, ρ, S, mm, q⟩ := h
  unfold eAny at q
  refine wpAny_Call_Name_kw (ld_blt I hg hmg boot_any ?_)
  refine PyProof.Rows.callWith_builtin1 ?_ he (by rfl)
  rw [he]
  show wpAny _ _ (spliced ((false, eval (.GeneratorExp elt [⟨tg, iter, ifs, 0⟩] scope gpos) X.env) :: backTo pos (starEach [] X.env))) _ _ s
  refine Calls.spliced_cons (gx_new tk (hr.mono (Nat.le_add_right _ _)) go hi hs I mm (fun cl s' e r' H' st => ?_) (fun z => ?_) fun pi S1 em r1 H1 s4 code it fp tn J a k s5 st gn => ?_)
  · rw [e] at q; exact q r' H' st
  · rw [z] at q; exact q
  rw [em] at q
  simp only [Out.bind] at q
  refine Calls.spliced_nil ?_
  refine call_function_tree F.kind_any F.plain_any F.entry_any (F.args_any1 _) ?_
  unfold Builtin.«any»
  refine wpAny_bind (m := oneArg "any" _) (wpAny_pure ?_)
  refine wpAny_bind (wpAny_pyIter_gen gn.gen ?_)
  cases eg : gAny true pi g t m (pi.n + 1) (pi.n + 1, 0, wipeE ρ (own.map (·.2)), S1) with
  | bad => rw [eg] at q; exact q.elim
  | ex _ _ => exact absurd eg gAny_ex
  | ok w S2 =>
    rw [eg] at q
    obtain ⟨cons, rdy⟩ := gn.ready (Hi := fun _ _ _ _ _ => True) (A' := X.A.in1.in1) (cp := [a]) (s6 := s5) hc go.co (mm.step st) I.ok.frames hr.hd gp (roomGen2 hr _) (gAny_nb eg) (fun _ _ _ _ _ _ _ _ _ _ _ _ => trivial) trivial (fun b hb => by rw [List.mem_singleton.mp hb]; exact gn.hcp1) ⟨rfl, rfl, fun _ _ e => e⟩
    refine wpAny_pure ⟨plainId_quiet F.plain_any_loop _, gx_any (Hi := fun _ _ _ _ _ => True) (A := X.A) (fun _ _ _ _ _ _ _ _ _ _ _ _ => trivial) (fun _ _ _ _ _ => trivial) hr.hd (by have := hr.dp; show X.A.depth < _; omega) cons (List.mem_singleton.mpr rfl) (pi.n + 1) 0 (pi.n + 1) _ s5 (Nat.add_zero _) (Nat.le_refl _) rfl rdy ?_⟩
    rw [eg]
    intro b eb r2 H2 s' ⟨⟨pl, σ', I'⟩, st'⟩
    subst eb
    exact ⟨.bl b, H2, gn.back I', rfl, q r2 H2 (.bl b) (st.trans st') mBl⟩⟩
theorem rs_all (hr : Room (k0 + 2) X.A) (hc : X.calm = true) (go : GxOk T X scope own c P nm gpos) (hi : RI T X tg iter mi) (gp : GParts T X scope k0 tg elt ifs g t m) (hg : Gl X "all" := by rfl) (hmg : X.mg "all" = none) (hs : ∀ v, genFold iter X.env v = pure v := by intro _; rfl)
    (he : starEach [.GeneratorExp elt [⟨tg, iter, ifs, 0⟩] scope gpos] X.env = (false, eval (.GeneratorExp elt [⟨tg, iter, ifs, 0⟩] scope gpos) X.env) :: starEach [] X.env := by rfl) :
    RE T X (.Call (.Name "all" p) [.GeneratorExp elt [⟨tg, iter, ifs, 0⟩] scope gpos] [] pos) (eAny false mi (own.map (·.2)) g t m) := fun Wx tk => ⟨fun pins s σ H Q I h => by
  obtain ⟨r, ρ, S, mm, q⟩ := h
  unfold eAny at q
  refine wpAny_Call_Name_kw (ld_blt I hg hmg (show bootBuiltins ("all" : Str) = some (.builtin "all") by rfl) ?_)
  refine PyProof.Rows.callWith_builtin1 ?_ he (by rfl)
  rw [he]
  show wpAny _ _ (spliced ((false, eval (.GeneratorExp elt [⟨tg, iter, ifs, 0⟩] scope gpos) X.env) :: backTo pos (starEach [] X.env))) _ _ s
  refine Calls.spliced_cons (gx_new tk (hr.mono (Nat.le_add_right _ _)) go hi hs I mm (fun cl s' e r' H' st => ?_) (fun z => ?_) fun pi S1 em r1 H1 s4 code it fp tn J a k s5 st gn => ?_)
  · rw [e] at q; exact q r' H' st
  · rw [z] at q; exact q
  rw [em] at q
  simp only [Out.bind] at q
  refine Calls.spliced_nil ?_
  refine call_function_tree F.kind_all F.plain_all F.entry_all (F.args_all1 _) ?_
  unfold Builtin.«all»
  refine wpAny_bind (m := oneArg "all" _) (wpAny_pure ?_)
  refine wpAny_bind (wpAny_pyIter_gen gn.gen ?_)
  cases eg : gAny false pi g t m (pi.n + 1) (pi.n + 1, 0, wipeE ρ (own.map (·.2)), S1) with
  | bad => rw [eg] at q; exact q.elim
  | ex _ _ => exact absurd eg gAny_ex
  | ok w S2 =>
    rw [eg] at q
    obtain ⟨cons, rdy⟩ := gn.ready (Hi := fun _ _ _ _ _ => True) (A' := X.A.in1.in1) (cp := [a]) (s6 := s5) hc go.co (mm.step st) I.ok.frames hr.hd gp (roomGen2 hr _) (gAny_nb eg) (fun _ _ _ _ _ _ _ _ _ _ _ _ => trivial) trivial (fun b hb => by rw [List.mem_singleton.mp hb]; exact gn.hcp1) ⟨rfl, rfl, fun _ _ e => e⟩
    refine wpAny_pure ⟨plainId_quiet F.plain_all_loop _, gx_all (Hi := fun _ _ _ _ _ => True) (A := X.A) (fun _ _ _ _ _ _ _ _ _ _ _ _ => trivial) (fun _ _ _ _ _ => trivial) hr.hd (by have := hr.dp; show X.A.depth < _; omega) cons (List.mem_singleton.mpr rfl) (pi.n + 1) 0 (pi.n + 1) _ s5 (Nat.add_zero _) (Nat.le_refl _) rfl rdy ?_⟩
    rw [eg]
    intro b eb r2 H2 s' ⟨⟨pl, σ', I'⟩, st'⟩
    subst eb
    exact ⟨.bl b, H2, gn.back I', rfl, q r2 H2 (.bl b) (st.trans st') mBl⟩⟩
end
end RS
set_option Elab.async false
set_option linter.all false
set_option maxRecDepth 100000
set_option maxHeartbeats 1000000
set_option autoImplicit false
/-! RS.C16: sum(..) of a generator expression; its items collected. -/
namespace RS
open PySem PySem.Spec PyProof.Rows L2 GenW

def inL (i : Int) : Bool := decide (-(2 ^ 63) ≤ i) && decide (i < 2 ^ 63)
def numW : W → Option Int
  | .int i => some i
  | .bl b => some (if b = true then 1 else 0)
  | _ => none
def gSum (p : PIt) (g : G) (t : RS.T) (m : E) : Nat → Int → GD → Out W
  | 0, _, _ => .bad
  | k + 1, a, d => match gNextD p g t m d with
    | .stop S => .ok (.int a) S
    | .y w f i ρ S => match numW w with
      | some v => if inL v = true ∧ inL (a + v) = true then gSum p g t m k (a + v) (f, i, ρ, S) else .bad
      | none => .bad
    | .bad => .bad
def gCol (p : PIt) (g : G) (t : RS.T) (m : E) : Nat → List W → GD → Out (List W)
  | 0, _, _ => .bad
  | k + 1, acc, d => match gNextD p g t m d with
    | .stop S => .ok acc S
    | .y w f i ρ S => gCol p g t m k (acc ++ [w]) (f, i, ρ, S)
    | .bad => .bad
theorem gSum_ok {p : PIt} {g : G} {t : RS.T} {m : E} : ∀ {q : Nat} {a : Int} {d : GD} {w : W} {S : RS.S}, gSum p g t m q a d = .ok w S → ∃ b, w = .int b
  | 0, _, _, _, _, e => by cases e
  | q + 1, a, d, w, S, e => by
    unfold gSum at e
    split at e
    · cases e; exact ⟨_, rfl⟩
    · split at e
      · split at e
        · exact gSum_ok e
        · cases e
      · cases e
    · cases e
theorem gSum_ex {p : PIt} {g : G} {t : RS.T} {m : E} : ∀ {q : Nat} {a : Int} {d : GD} {c : Str} {S : RS.S}, gSum p g t m q a d ≠ .ex c S
  | 0, _, _, _, _, e => by cases e
  | q + 1, a, d, w, S, e => by
    unfold gSum at e
    split at e
    · cases e
    · split at e
      · split at e
        · exact gSum_ex e
        · cases e
      · cases e
    · cases e
theorem gSum_nb {p : PIt} {g : G} {t : RS.T} {m : E} {q : Nat} {a : Int} {d : GD} {w : W} {S : RS.S} (e : gSum p g t m q a d = .ok w S) : gNextD p g t m d ≠ .bad := fun z => by
  cases q with
  | zero => cases e
  | succ q => unfold gSum at e; rw [z] at e; cases e
theorem gCol_ex {p : PIt} {g : G} {t : RS.T} {m : E} : ∀ {q : Nat} {a : List W} {d : GD} {c : Str} {S : RS.S}, gCol p g t m q a d ≠ .ex c S
  | 0, _, _, _, _, e => by cases e
  | q + 1, a, d, w, S, e => by
    unfold gCol at e
    split at e
    · cases e
    · exact gCol_ex e
    · cases e
theorem gCol_nb {p : PIt} {g : G} {t : RS.T} {m : E} {q : Nat} {a : List W} {d : GD} {w : List W} {S : RS.S} (e : gCol p g t m q a d = .ok w S) : gNextD p g t m d ≠ .bad := fun z => by
  cases q with
  | zero => cases e
  | succ q => unfold gCol at e; rw [z] at e; cases e
theorem gCol_len {p : PIt} {g : G} {t : RS.T} {m : E} : ∀ {q : Nat} {a : List W} {d : GD} {w : List W} {S : RS.S}, gCol p g t m q a d = .ok w S → a.length ≤ w.length
  | 0, _, _, _, _, e => by cases e
  | q + 1, a, d, w, S, e => by
    unfold gCol at e
    split at e
    · cases e; exact Nat.le_refl _
    · have := gCol_len e
      simp only [List.length_append, List.length_cons, List.length_nil] at this
      omega
    · cases e
theorem next_pos {p : PIt} {g : G} {t : RS.T} {m : E} {d : GD} (h : gNextD p g t m d ≠ .bad) : 1 ≤ d.1 := by
  rcases Nat.eq_zero_or_pos d.1 with z | z
  · exfalso
    refine h ?_
    unfold gNextD
    rw [z]; rfl
  · exact z

section
variable {T : List NdefX.NTab} {X : Cx} {cp fp : List Addr} {tn : Nat → Heap → Prop} {p : PIt} {g : G} {t : RS.T} {m : E} {d0 : GD} {N : Nat} {r0 : Rm} {S0 : RS.S} {H0 : Hp} {A : Around}
/-- the consumer has written one of its own objects -/
theorem GS.wrote {i : Nat} {ρ : Env} {S : RS.S} {r : Rm} {H : Hp} {σ : L2.St} {s1 : Shared} {k : Nat} {gs' : GenState} {d : Drawn} {tk : Nat} {b : Addr} {f : Obj → Obj} {o : Obj} (gs : GS T X cp fp tn i ρ S r H σ s1) (hb : gs'.bare = true) (hcp : b ∈ cp) (ho : s1.heap.get? b = some o) (hf : (s1.heap.update b f).get? b = some (f o)) (hd : ∀ v, (f o).data ≠ .cell v) :
    Slept2 cp s1 { s1.setGen k gs' with heap := s1.heap.update b f, drawn := d, toks := tk } := by
  obtain ⟨_, pc, I⟩ := gs.inv
  refine ⟨rfl, allBare_setGen I.bare hb, fun c u hc e => (Heap.get?_update_other _ _ (fun z => hc (by rw [← z]; exact hcp))).trans e, fun c hc => ?_⟩
  by_cases z : c = b
  · subst z; exact ⟨_, hf, hd⟩
  · obtain ⟨u, e, hu⟩ := gs.own c hc
    exact ⟨u, (Heap.get?_update_other _ _ (Ne.symm z)).trans e, hu⟩
theorem gx_sum {R : Result → Shared → Prop} {a Sa : Addr} {k : Nat} (hh : A.handled = none) (hroom : A.depth < recursionLimit) (hc : Cons X cp) (hcpa : a ∈ cp) (hcpS : Sa ∈ cp) (hne : a ≠ Sa) (hS0 : Sa ≠ cStatics) :
    ∀ (q j n : Nat) (acc : Int) (d : GD) (s : Shared) (tA : Tok) (c : Nat), n + j = N → d.1 ≤ n → trG p g t m d0 j = some d → Rdy (fun _ _ _ _ _ => True) T X cp fp tn p g t m d0 N r0 S0 H0 A.in1.in1 a k n s →
      s.heap.get? Sa = some (lstObj #[.int acc tA] c) →
      (match gSum p g t m q acc d with
        | .ok w S => ∀ b, w = .int b → ∀ r H s' t', GEnd T X r0 S0 H0 S r H s' → R (.ok (.ret (.int b t'))) s'
        | _ => False) → codeAny (model X.prog X.w) A (.builtin "sum.loop" ⟨[.ref a, .ref Sa, rawInt 0, rawInt 0], []⟩) R s := by
  intro q
  induction q with
  | zero => intro j n acc d s tA c _ _ _ _ _ hq; exact hq.elim
  | succ q ih =>
    intro j n acc d s tA c hn hfn htr rdy hS hq
    unfold gSum at hq
    have nbd : gNextD p g t m d ≠ .bad := fun z => by rw [z] at hq; exact hq
    have hn1 : 1 ≤ n := Nat.le_trans (next_pos nbd) hfn
    refine codeAny_builtin F.entry_sum_loop ?_
    rw [Around.under_plainId F.plain_sum_loop _]
    show wpAny _ A.in1 (seqItems? (.ref Sa) >>= _) _ _ s
    refine wpAny_bind (wpAny_seqItems hS rfl ?_)
    show wpAny _ A.in1 (tryCatch (pyNext (.ref a)) _ >>= _) _ _ s
    refine wpAny_bind (wpAny_tryCatch (gx_next (A := A.in1) hh hroom hn hn1 htr rdy (fun S e s1 r H σ h' hI st same _ hk => ?_) fun w f i ρ S e v x s1 r H σ gs' rv rl gs st same _ hb hsz htr' kap => ?_))
    · rw [e] at hq
      obtain ⟨pl, _, I⟩ := hI
      exact wpAny_pure (hq acc rfl r H _ tA ⟨⟨pl, σ, Inv.fin I rfl hk⟩, st⟩)
    · rw [e] at hq
      simp only at hq
      cases ew : numW w with
      | none => rw [ew] at hq; exact hq.elim
      | some val =>
        rw [ew] at hq
        simp only at hq
        by_cases hL : inL val = true ∧ inL (acc + val) = true
        · rw [if_pos hL] at hq
          obtain ⟨f1, f2⟩ := hL
          have hS1 : s1.heap.get? Sa = some (lstObj #[.int acc tA] c) := (same Sa hcpS).trans hS
          have hcond : ((decide (-(2 ^ 63) ≤ val) && decide (val < 2 ^ 63)) && (decide (-(2 ^ 63) ≤ acc + val) && decide (acc + val < 2 ^ 63))) = true := by
            unfold inL at f1 f2
            rw [f1, f2]; rfl
          have hfl : f + 1 ≤ d.1 := by unfold gNextD at e; exact gNext_lt e
          have go : ∀ els : Sem PySem.Fin, wpAny (model X.prog X.w) A.in1 (if ((decide (-(2 ^ 63) ≤ val) && decide (val < 2 ^ 63)) && (decide (-(2 ^ 63) ≤ acc + val) && decide (acc + val < 2 ^ 63))) = true then (mkInt (acc + val) >>= fun x => updateSeq Sa (fun _ => #[x]) >>= fun _ => again (.builtin "sum.loop" ⟨[.ref a, .ref Sa, rawInt 0, rawInt 0], []⟩)) else els)
              (fun fin s' => match fin with | .done fl => R (.ok fl) s' | .again c' => c'.quiet = true ∧ codeAny (model X.prog X.w) A c' R s') (fun e' s' => R (.error e') s') (s1.setGen k gs') := by
            intro els
            rw [if_pos hcond]
            refine wpAny_bind (wpAny_mkInt ?_)
            refine wpAny_bind (wpAny_updateSeq (s := { s1.setGen k gs' with toks := (s1.setGen k gs').toks + 1 }) hS1 rfl (wpAny_pure ⟨plainId_quiet F.plain_sum_loop _, ?_⟩))
            by_cases nb : gNext p g t m f i ρ S = .bad
            · exfalso
              cases q with
              | zero => exact hq
              | succ q => unfold gSum gNextD at hq; simp only [nb] at hq
            have hS2 := Heap.get?_update_self (Obj.mapSeq (fun _ => #[Value.int (acc + val) (s1.setGen k gs').toks])) hS1 rfl
            refine ih (j + 1) (n - 1) (acc + val) (f, i, ρ, S) _ _ _ (by omega) (by show f ≤ n - 1; omega) htr' ?_ hS2 hq
            obtain ⟨pl, pc, I⟩ := gs.inv
            refine Rdy.again (j := 0) hcpa hc gs ?_ (setGen_at hsz) ?_ (gs.wrote hb hcpS hS1 hS2 (fun v z => nomatch z)) nb trivial kap
            · obtain ⟨o, nm, qn, ho, rest⟩ := rdy.1
              exact ⟨o, nm, qn, (Heap.get?_update_other _ _ (Ne.symm hne)).trans ((same a hcpa).trans ho), rest⟩
            · obtain ⟨mc, hns, hnn⟩ := I.nolimit
              exact ⟨mc, hns.at' fun o e => (Heap.get?_update_other _ _ hS0).trans e, hnn⟩
          clear hq
          cases w with
          | bl b =>
            obtain rfl := rBl rl
            obtain rfl : v = Value.bool b := rv
            have ev : (if b = true then 1 else 0) = val := Option.some.inj ew
            subst ev
            exact go _
          | int iv =>
            obtain rfl := rInt rl
            obtain ⟨tt, rfl⟩ : ∃ tt, v = Value.int iv tt := rv
            have ev : iv = val := Option.some.inj ew
            subst ev
            exact go _
          | _ => cases ew
        · rw [if_neg hL] at hq; exact hq.elim
end
end RS
set_option Elab.async false
set_option linter.all false
set_option maxRecDepth 100000
set_option maxHeartbeats 1000000
set_option autoImplicit false
/-! RS.C17: sum, tuple of a generator expression; its items in a list. -/
namespace RS
open PySem PySem.Spec PyProof.Rows L2 GenW

def ysG (p : PIt) (g : G) (t : RS.T) (m : E) (d0 : GD) : Nat → List W
  | 0 => []
  | j + 1 => ysG p g t m d0 j ++ match trG p g t m d0 j with
    | some d => match gNextD p g t m d with
      | .y w _ _ _ _ => [w]
      | _ => []
    | none => []
def HiC (T : List NdefX.NTab) (X : Cx) (Sa : Addr) (p : PIt) (g : G) (t : RS.T) (m : E) (d0 : GD) : HiT := fun j r S H s => ∃ acc c xs, s.heap.get? Sa = some (lstObj acc c) ∧ Vals xs acc.toList ∧ RelWs X.K r S.nx H (ysG p g t m d0 j) xs
section
variable {T : List NdefX.NTab} {X : Cx} {cp fp : List Addr} {tn : Nat → Heap → Prop} {p : PIt} {g : G} {t : RS.T} {m : E} {d0 : GD} {N : Nat} {r0 : Rm} {S0 : RS.S} {H0 : Hp} {A : Around}
theorem hiC_ok {Sa : Addr} (hS : Sa ∈ cp) : HiOk T X cp (HiC T X Sa p g t m d0) := fun j r S H s r' S' H' s' h st same => by
  obtain ⟨acc, c, xs, h1, h2, h3⟩ := h
  exact ⟨acc, c, xs, (same Sa hS).trans h1, h2, RelWs.kp st.kp h3⟩
theorem gx_col {R : Result → Shared → Prop} {a Sa : Addr} {k : Nat} {res : Value} (hh : A.handled = none) (hroom : A.depth < recursionLimit) (hc : Cons X cp) (hcpa : a ∈ cp) (hcpS : Sa ∈ cp) (hne : a ≠ Sa) (hS0 : Sa ≠ cStatics) :
    ∀ (q j n : Nat) (d : GD) (s : Shared), n + j = N → d.1 ≤ n → trG p g t m d0 j = some d → Rdy (HiC T X Sa p g t m d0) T X cp fp tn p g t m d0 N r0 S0 H0 A.in1.in1 a k n s →
      (match gCol p g t m q (ysG p g t m d0 j) d with
        | .ok ws S => ws.length ≤ sizeLine ∧ ∀ r H s' acc c xs, GEnd T X r0 S0 H0 S r H s' → s'.heap.get? Sa = some (lstObj acc c) → Vals xs acc.toList → RelWs X.K r S.nx H ws xs → R (.ok (.ret res)) s'
        | _ => False) → codeAny (model X.prog X.w) A (.builtin "list.extend.loop" ⟨[.ref Sa, .ref a, res], []⟩) R s := by
  intro q
  induction q with
  | zero => intro j n d s _ _ _ _ hq; exact hq.elim
  | succ q ih =>
    intro j n d s hn hfn htr rdy hq
    unfold gCol at hq
    have nbd : gNextD p g t m d ≠ .bad := fun z => by rw [z] at hq; exact hq
    have hn1 : 1 ≤ n := Nat.le_trans (next_pos nbd) hfn
    refine codeAny_builtin F.entry_extend_loop ?_
    rw [Around.under_plainId F.plain_extend_loop _]
    show wpAny _ A.in1 (pyNext (.ref a) >>= _) _ _ s
    refine wpAny_bind (gx_next (A := A.in1) hh hroom hn hn1 htr rdy (fun S e s1 r H σ h' hI st same hi hk => ?_) fun w f i ρ S e v x s1 r H σ gs' rv rl gs st same hi hb hsz htr' kap => ?_)
    · rw [e] at hq
      obtain ⟨pl, _, I⟩ := hI
      obtain ⟨acc, c, xs, h1, h2, h3⟩ := hi
      exact wpAny_pure (hq.2 r H _ acc c xs ⟨⟨pl, σ, Inv.fin I rfl hk⟩, st⟩ (hk _ _ h1) h2 h3)
    · rw [e] at hq
      simp only at hq
      have hfl : f + 1 ≤ d.1 := by unfold gNextD at e; exact gNext_lt e
      have ey : ysG p g t m d0 (j + 1) = ysG p g t m d0 j ++ [w] := by
        show _ ++ (match trG p g t m d0 j with | some d => (match gNextD p g t m d with | .y w _ _ _ _ => [w] | _ => []) | none => []) = _
        rw [htr]
        simp only [e]
      rw [← ey] at hq
      by_cases nb : gNext p g t m f i ρ S = .bad
      · exfalso
        cases q with
        | zero => exact hq
        | succ q => unfold gCol gNextD at hq; simp only [nb] at hq
      obtain ⟨acc, c, xs, h1, h2, h3⟩ := hi
      have hlen : (ysG p g t m d0 (j + 1)).length ≤ sizeLine := by
        cases eq : gCol p g t m q (ysG p g t m d0 (j + 1)) (f, i, ρ, S) with
        | ok ws S' => rw [eq] at hq; exact Nat.le_trans (gCol_len eq) hq.1
        | ex _ _ => rw [eq] at hq; exact hq.elim
        | bad => rw [eq] at hq; exact hq.elim
      have hsz0 : acc.size + 1 ≤ sizeLine := by
        have e1 := h2.length
        have e2 : acc.toList.length = acc.size := by simp
        have e3 := h3.len
        rw [ey, List.length_append, List.length_singleton] at hlen
        omega
      show wpAny _ A.in1 (updateSeq Sa (·.push v) >>= _) _ _ _
      refine wpAny_bind ?_
      have hS2 := Heap.get?_update_self (Obj.mapSeq (·.push v)) h1 rfl
      refine wpAny_updateSeq (s := s1.setGen k gs') h1 rfl (wpAny_pure ⟨plainId_quiet F.plain_extend_loop _, ?_⟩) (by omega) (by show (acc.push v).size ≤ sizeLine + 1; rw [Array.size_push]; omega)
      refine ih (j + 1) (n - 1) (f, i, ρ, S) _ (by omega) (by show f ≤ n - 1; omega) htr' ?_ hq
      obtain ⟨pl, pc, I⟩ := gs.inv
      refine Rdy.again (j := j) hcpa hc gs ?_ (setGen_at hsz) ?_ (gs.wrote hb hcpS h1 hS2 (fun v z => nomatch z)) nb ?_ kap
      · obtain ⟨o, nm, qn, ho, rest⟩ := rdy.1
        exact ⟨o, nm, qn, (Heap.get?_update_other _ _ (Ne.symm hne)).trans ((same a hcpa).trans ho), rest⟩
      · obtain ⟨mc, hns, hnn⟩ := I.nolimit
        exact ⟨mc, hns.at' fun o e => (Heap.get?_update_other _ _ hS0).trans e, hnn⟩
      · refine ⟨acc.push v, _, xs ++ [x], hS2, ?_, ?_⟩
        · rw [Array.toList_push]
          exact h2.append (.cons rv .nil)
        · rw [ey]
          exact RelWs.app h3 (.cons rl .nil)
end

section
variable {T : List NdefX.NTab} {X : Cx} {c P : Addr} {nm : Nat → Nat → Str} {gpos p pos : Pos} {own : List (Str × Nat)} {tg elt iter : Expr} {ifs : List Expr} {scope : Scope} {mi : It'} {g : G} {t : RS.T} {m : E} {k0 : Nat}
/-- all its items, as a built-in's list -/
theorem gx_collect {pins : List (Addr × Obj)} {σ : L2.St} {H : Hp} {s4 s5 : Shared} {r : Rm} {ρ : Env} {S : RS.S} {pi : PIt} {code : Value} {it : Addr} {fp : List Addr} {tn : Nat → Heap → Prop} {J : It} {a k : Addr} {A : Around} {ws : List W} {S2 : RS.S} {Q : List Value → Shared → Prop} {E : Value → Shared → Prop} (gn : GNew T X pins σ tg elt iter ifs scope gpos own pi r S H s4 code it fp tn J a k s5) (hc : X.calm = true) (hco : scope.isCoroutine = false) (mm : MtE T X r ρ S σ H)
    (hA : A.frames = some X.stack) (hh : A.handled = none) (hroom : A.depth < recursionLimit) (gp : GParts T X scope k0 tg elt ifs g t m) (hr' : Room k0 (A.in1.in1.deeper (gEnv scope (cloFrom X.env.cells scope.names []) s4.heap.objs.size code builtinsNs X.env)))
    (eg : gCol pi g t m (pi.n + 1) [] (pi.n + 1, 0, wipeE ρ (own.map (·.2)), S) = .ok ws S2) (hz : ws.length ≤ sizeLine)
    (hQ : ∀ r2 H2 s' xs us, Inv X pins σ H2 s' → Stp T X.K X.mg r S H r2 S2 H2 → Vals xs us → RelWs X.K r2 S2.nx H2 ws xs → Q us s') : wpAny (model X.prog X.w) A (collect (.ref a)) Q E s5 := by
  have hgT : ∀ {h : Heap}, (∀ b o, s5.heap.get? b = some o → h.get? b = some o) → h.IsGen a k := fun {h} q => gn.gen.keeps q
  have hSI : s5.heap.objs.size ≠ a := Nat.ne_of_gt gn.sz.2.1
  have gi := gn.ginv A.in1.in1 hA hh
  have hcl : cStatics < s5.heap.objs.size := let ⟨_, hn, _⟩ := gi.nolimit; hn.lt
  have k1 : ∀ b o, s5.heap.get? b = some o → (s5.heap.push { cls := .type "list", data := .seq ([] : List Value).toArray }).get? b = some o := fun b o e => Heap.get?_push_of_some _ e
  unfold collect
  refine wpAny_bind (wpAny_runValue (codeAny_builtin F.entry_proto_collect ?_))
  rw [Around.under_plainId F.plain_proto_collect _]
  show wpAny _ A.in1 (newList [] >>= fun l => again (.builtin "list.__iadd__" ⟨[l, .ref a], []⟩)) _ _ s5
  refine wpAny_bind (wpAny_newObj_type ?_)
  refine wpAny_pure ⟨plainId_quiet F.plain_list_iadd _, codeAny_builtin F.entry_list_iadd ?_⟩
  rw [Around.under_plainId F.plain_list_iadd _]
  show wpAny _ A.in1 (Builtin.List.listExtendWith (.ref s5.heap.objs.size) (.ref a) (.ref s5.heap.objs.size)) _ _ _
  unfold Builtin.List.listExtendWith
  have tyG : ({ s5 with heap := s5.heap.push { cls := .type "list", data := .seq ([] : List Value).toArray } } : Shared).TypeIs (.ref a) "generator" := Heap.IsGen.typeIs (s := { s5 with heap := _ }) (hgT k1)
  refine wpAny_bind (wpAny_typeOf tyG ?_)
  have h1 : Builtin.List.listSameRef (.ref s5.heap.objs.size) (.ref a) = false := by simp [Builtin.List.listSameRef, hSI]
  have h2 : (Value.type "generator" == Value.type "list") = false := by decide
  have h3 : (Value.type "generator" == Value.type "tuple") = false := by decide
  simp only [h1, h2, h3, Bool.or_false, Bool.false_eq_true, if_false]
  refine wpAny_bind (wpAny_pyIter_gen (s := { s5 with heap := _ }) (hgT k1) ?_)
  refine wpAny_bind (wpAny_holding ?_)
  unfold Builtin.List.listLengthHint
  refine wpAny_bind (wpAny_specialOf tyG F.gen_no_len ?_)
  show wpAny _ A.in1 (specialOf (Value.ref a) (Str.ofString "__length_hint__") >>= _) _ _ _
  refine wpAny_bind (wpAny_specialOf tyG F.gen_no_hint ?_)
  refine wpAny_pure ?_
  show wpAny _ A.in1 (rule "list.extend.makes-room" >>= fun _ => Builtin.List.listTouch (.ref s5.heap.objs.size) >>= fun _ =>
    again (.builtin "list.extend.loop" ⟨[.ref s5.heap.objs.size, .ref a, .ref s5.heap.objs.size], []⟩)) _ _ _
  refine wpAny_bind (wpAny_rule ?_)
  have hS1 : (s5.heap.push { cls := .type "list", data := .seq ([] : List Value).toArray }).get? s5.heap.objs.size = some { cls := .type "list", data := .seq ([] : List Value).toArray } := Heap.get?_push_size _ rfl
  refine wpAny_bind ?_
  show wpAny _ A.in1 (updateSeq s5.heap.objs.size (·.push .none) >>= fun _ => updateSeq s5.heap.objs.size (·.pop)) _ _ _
  refine wpAny_bind (wpAny_updateSeq hS1 rfl ?_)
  have hS2 := Heap.get?_update_self (Obj.mapSeq (·.push Value.none)) hS1 rfl
  refine wpAny_updateSeq hS2 rfl ?_
  have hS3 := Heap.get?_update_self (Obj.mapSeq (·.pop)) hS2 rfl
  have oth : ∀ b o, s5.heap.get? b = some o →
      (((s5.heap.push { cls := .type "list", data := .seq ([] : List Value).toArray }).update s5.heap.objs.size (Obj.mapSeq (·.push Value.none))).update s5.heap.objs.size (Obj.mapSeq (·.pop))).get? b = some o :=
    fun b o e => (Heap.get?_update_other _ _ (Ne.symm (Nat.ne_of_lt (Heap.lt_size e)))).trans ((Heap.get?_update_other _ _ (Ne.symm (Nat.ne_of_lt (Heap.lt_size e)))).trans (k1 b o e))
  generalize hs6 : ({ s5 with heap := ((s5.heap.push { cls := .type "list", data := .seq ([] : List Value).toArray }).update s5.heap.objs.size (Obj.mapSeq (·.push Value.none))).update s5.heap.objs.size (Obj.mapSeq (·.pop)) } : Shared) = s6
  have e6 : s6.heap = ((s5.heap.push { cls := .type "list", data := .seq ([] : List Value).toArray }).update s5.heap.objs.size (Obj.mapSeq (·.push Value.none))).update s5.heap.objs.size (Obj.mapSeq (·.pop)) := by rw [← hs6]
  have h6 : s6.os = s5.os ∧ s6.gens = s5.gens ∧ ∀ b o, s5.heap.get? b = some o → s6.heap.get? b = some o := by
    refine ⟨by rw [← hs6], by rw [← hs6], fun b o e => ?_⟩
    rw [e6]; exact oth b o e
  have hS6 : s6.heap.get? s5.heap.objs.size = some (lstObj #[] (((0 : Nat)))) ∨ ∃ cc, s6.heap.get? s5.heap.objs.size = some (lstObj #[] cc) := .inr ⟨_, by rw [e6]; exact hS3⟩
  obtain ⟨cc, hS6⟩ : ∃ cc, s6.heap.get? s5.heap.objs.size = some (lstObj #[] cc) := hS6.elim (fun z => ⟨_, z⟩) id
  obtain ⟨cons, rdy⟩ := gn.ready (Hi := HiC T (gX X A.in1.in1 s4 H scope (gEnv scope (cloFrom X.env.cells scope.names []) s4.heap.objs.size code builtinsNs X.env) fp []) s5.heap.objs.size pi g t m (pi.n + 1, 0, wipeE ρ (own.map (·.2)), S)) (A' := A.in1.in1) (cp := [a, s5.heap.objs.size]) (s6 := s6) hc hco mm hA hh gp hr' (gCol_nb eg)
    (hiC_ok (by simp)) ⟨#[], cc, [], hS6, .nil, .nil⟩ (fun b hb => by
      have hb : b = a ∨ b = s5.heap.objs.size := by simpa using hb
      rcases hb with z | z
      · rw [z]
        obtain ⟨c1, c2, ⟨o, c3, c4⟩, c5⟩ := gn.hcp1
        exact ⟨c1, c2, ⟨o, h6.2.2 _ _ c3, c4⟩, c5⟩
      · rw [z]
        refine ⟨Nat.le_trans gn.sz.1 (Nat.le_of_lt gn.sz.2.1), Nat.ne_of_gt (Nat.lt_of_le_of_lt gn.sz.1 gn.sz.2.1), ⟨_, hS6, fun v q => nomatch q⟩, fun x c e z => ?_⟩
        obtain ⟨v, hv⟩ := gi.cell x c e
        have hl := hv.lt
        rw [z] at hl
        exact Nat.lt_irrefl _ hl) h6
  refine wpAny_pure ⟨plainId_quiet F.plain_extend_loop _, gx_col (A := A) (a := a) (Sa := s5.heap.objs.size) hh hroom cons (by simp) (by simp) (Ne.symm hSI) (Nat.ne_of_gt hcl) (pi.n + 1) 0 (pi.n + 1) _ s6 (Nat.add_zero _) (Nat.le_refl _) rfl rdy ?_⟩
  show match gCol pi g t m (pi.n + 1) [] _ with | .ok ws S => _ | _ => False
  rw [eg]
  refine ⟨hz, fun r2 H2 s' acc c2 xs ⟨⟨pl, σ', I'⟩, st'⟩ hS' hv hrl => ?_⟩
  show wpAny _ A (load s5.heap.objs.size >>= _) _ _ s'
  refine wpAny_bind (wpAny_load hS' ?_)
  exact wpAny_pure (hQ r2 H2 s' xs acc.toList (gn.back I') st' hv hrl)
/-! ### sum, tuple -/
def eSumG (mi : It') (own : List Nat) (g : G) (t : RS.T) (m : E) : E := fun ρ s => (mi ρ s).bind fun p s1 => gSum p g t m (p.n + 1) 0 (p.n + 1, 0, wipeE ρ own, s1)
def eTupG (mi : It') (own : List Nat) (g : G) (t : RS.T) (m : E) : E := fun ρ s => (mi ρ s).bind fun p s1 => (gCol p g t m (p.n + 1) [] (p.n + 1, 0, wipeE ρ own, s1)).bind fun ws s2 => if ws.length ≤ szL then .ok (.tup ws) s2 else .bad
theorem rs_sumG (hr : Room (k0 + 2) X.A) (hc : X.calm = true) (go : GxOk T X scope own c P nm gpos) (hi : RI T X tg iter mi) (gp : GParts T X scope k0 tg elt ifs g t m) (hg : Gl X "sum" := by rfl) (hmg : X.mg "sum" = none) (hs : ∀ v, genFold iter X.env v = pure v := by intro _; rfl)
    (he : starEach [.GeneratorExp elt [⟨tg, iter, ifs, 0⟩] scope gpos] X.env = (false, eval (.GeneratorExp elt [⟨tg, iter, ifs, 0⟩] scope gpos) X.env) :: starEach [] X.env := by rfl) :
    RE T X (.Call (.Name "sum" p) [.GeneratorExp elt [⟨tg, iter, ifs, 0⟩] scope gpos] [] pos) (eSumG mi (own.map (·.2)) g t m) := fun Wx tk => ⟨fun pins s σ H Q I h => by
  obtain ⟨r, ρ, S, mm, q⟩ := h
  unfold eSumG at q
  refine wpAny_Call_Name_kw (ld_blt I hg hmg boot_sum ?_)
  refine PyProof.Rows.callWith_builtin1 ?_ he (by rfl)
  rw [he]
  show wpAny _ _ (spliced ((false, eval (.GeneratorExp elt [⟨tg, iter, ifs, 0⟩] scope gpos) X.env) :: backTo pos (starEach [] X.env))) _ _ s
  refine Calls.spliced_cons (gx_new tk (hr.mono (Nat.le_add_right _ _)) go hi hs I mm (fun cl s' e r' H' st => ?_) (fun z => ?_) fun pi S1 em r1 H1 s4 code it fp tn J a k s5 st gn => ?_)
  · rw [e] at q; exact q r' H' st
  · rw [z] at q; exact q
  rw [em] at q
  simp only [Out.bind] at q
  refine Calls.spliced_nil ?_
  refine call_function_tree F.kind_sum F.plain_sum F.entry_sum (F.args_sum1 _) ?_
  unfold Builtin.«sum»
  simp only [List.length_cons, List.length_nil]
  rw [if_neg (by decide)]
  refine wpAny_bind (wpAny_of_eq (show Builtin.Builtins.bindParams "sum" ["start"] 0 { } = pure [none] from rfl) ?_)
  refine wpAny_bind (wpAny_pyIter_gen gn.gen ?_)
  refine wpAny_bind (wpAny_mkInt ?_)
  refine wpAny_bind (wpAny_pure ?_)
  simp only [List.forIn_cons, List.forIn_nil]
  refine wpAny_bind (wpAny_bind (wpAny_bind (wpAny_isInstance (T := "int") (b := false) (typeIs_int _ _ _) PySem.sub_int_str ?_)))
  simp only [Bool.false_eq_true, if_false]
  refine wpAny_pure (wpAny_bind (wpAny_bind (wpAny_isInstance (T := "int") (b := false) (typeIs_int _ _ _) PySem.sub_int_bytes ?_)))
  simp only [Bool.false_eq_true, if_false]
  refine wpAny_pure (wpAny_bind (wpAny_bind (wpAny_isInstance (T := "int") (b := false) (typeIs_int _ _ _) PySem.sub_int_bytearray ?_)))
  simp only [Bool.false_eq_true, if_false]
  refine wpAny_pure (wpAny_pure ?_)
  refine wpAny_bind (wpAny_newObj_type ?_)
  cases eg : gSum pi g t m (pi.n + 1) 0 (pi.n + 1, 0, wipeE ρ (own.map (·.2)), S1) with
  | bad => rw [eg] at q; exact q.elim
  | ex _ _ => exact absurd eg gSum_ex
  | ok w S2 =>
    rw [eg] at q
    have gi := gn.ginv X.A.in1.in1 I.ok.frames hr.hd
    have hcl : cStatics < s5.heap.objs.size := let ⟨_, hn, _⟩ := gi.nolimit; hn.lt
    have hSI : s5.heap.objs.size ≠ a := Nat.ne_of_gt gn.sz.2.1
    generalize hs6 : ({ s5 with toks := s5.toks + 1, heap := s5.heap.push { cls := .type "list", data := .seq [Value.int 0 s5.toks].toArray } } : Shared) = s6
    have e6 : s6.heap = s5.heap.push { cls := .type "list", data := .seq [Value.int 0 s5.toks].toArray } := by rw [← hs6]
    have h6 : s6.os = s5.os ∧ s6.gens = s5.gens ∧ ∀ b o, s5.heap.get? b = some o → s6.heap.get? b = some o := by
      refine ⟨by rw [← hs6], by rw [← hs6], fun b o e => ?_⟩
      rw [e6]; exact Heap.get?_push_of_some _ e
    have hS6 : s6.heap.get? s5.heap.objs.size = some { cls := .type "list", data := .seq [Value.int 0 s5.toks].toArray } := by rw [e6]; exact Heap.get?_push_size _ rfl
    obtain ⟨cons, rdy⟩ := gn.ready (Hi := fun _ _ _ _ _ => True) (A' := X.A.in1.in1) (cp := [a, s5.heap.objs.size]) (s6 := s6) hc go.co (mm.step st) I.ok.frames hr.hd gp (roomGen2 hr _) (gSum_nb eg) (fun _ _ _ _ _ _ _ _ _ _ _ _ => trivial) trivial (fun b hb => by
        have hb : b = a ∨ b = s5.heap.objs.size := by simpa using hb
        rcases hb with z | z
        · rw [z]
          obtain ⟨c1, c2, ⟨o, c3, c4⟩, c5⟩ := gn.hcp1
          exact ⟨c1, c2, ⟨o, h6.2.2 _ _ c3, c4⟩, c5⟩
        · rw [z]
          refine ⟨Nat.le_trans gn.sz.1 (Nat.le_of_lt gn.sz.2.1), Nat.ne_of_gt (Nat.lt_of_le_of_lt gn.sz.1 gn.sz.2.1), ⟨_, hS6, fun v q => nomatch q⟩, fun x c e z => ?_⟩
          obtain ⟨v, hv⟩ := gi.cell x c e
          have hl := hv.lt
          rw [z] at hl
          exact Nat.lt_irrefl _ hl) h6
    refine wpAny_pure ⟨plainId_quiet F.plain_sum_loop _, gx_sum (A := X.A) hr.hd (by have := hr.dp; show X.A.depth < _; omega) cons (by simp) (by simp) (Ne.symm hSI) (Nat.ne_of_gt hcl) (pi.n + 1) 0 (pi.n + 1) 0 _ s6 s5.toks _ (Nat.add_zero _) (Nat.le_refl _) rfl rdy hS6 ?_⟩
    rw [eg]
    intro b eb r2 H2 s' t' ⟨⟨pl, σ', I'⟩, st'⟩
    subst eb
    exact ⟨.int b, H2, gn.back I', ⟨t', rfl⟩, q r2 H2 (.int b) (st.trans st') mInt⟩⟩
end
end RS
set_option Elab.async false
set_option linter.all false
set_option maxRecDepth 100000
set_option maxHeartbeats 1000000
set_option autoImplicit false
/-! RS.C18: tuple(..) of a generator expression. -/
namespace RS
open PySem PySem.Spec PyProof.Rows L2 GenW

section
variable {prog : Program} {w : World} {A : Around} {E : Value → Shared → Prop} {s : Shared}
theorem code_tupG {Q₁ : Value → Shared → Prop} {a : Addr} {PP : List Value → Shared → Prop} (hTI : s.TypeIs (.ref a) "generator") (hcol : ∀ {Q : List Value → Shared → Prop} {E : Value → Shared → Prop}, (∀ us s', PP us s' → Q us s') → wpAny (model prog w) A.in1 (collect (.ref a)) Q E s)
    (h : ∀ us s', PP us s' → us.length ≤ sizeLine ∧ Q₁ (.ref s'.heap.objs.size) { s' with heap := s'.heap.push { cls := .type "tuple", data := .seq us.toArray } }) :
    codeAny (model prog w) A (.call (.builtin "tuple.__new__") ⟨[.type "tuple", .ref a], []⟩) (wants Q₁ E) s := by
  refine codeAny_of_tree ?_
  show wpAny _ A.in1 (do checkBuiltinCall "tuple.__new__" ⟨[.type "tuple", .ref a], []⟩; again (.builtin "tuple.__new__" ⟨[.type "tuple", .ref a], []⟩)) _ _ s
  refine wpAny_bind (wpAny_of_eq (F.newCall_tuple_1 _) (wpAny_pure ⟨plainId_quiet F.plain_tuple_new _, codeAny_builtin F.entry_tuple_new ?_⟩))
  rw [Around.under_plainId F.plain_tuple_new _]
  have hsub := sub_tuple_self
  have hinit := init_tuple_lookup
  have hmh := madeHere_tuple
  wp_walk using wpAny_typeOf hTI, hcol
  intro us s' hp
  obtain ⟨hz, hq⟩ := h us s' hp
  show wpAny _ _ (Builtin.Tuple.tupleExact us.toArray >>= fun v => ret v) _ _ _
  unfold Builtin.Tuple.tupleExact
  refine wpAny_bind (wpAny_newObj_type ?_ (by show us.toArray.size ≤ sizeLine; simpa using hz))
  exact wpAny_pure hq
theorem call_tupG {Q : Value → Shared → Prop} {a : Addr} {PP : List Value → Shared → Prop} (hTI : s.TypeIs (.ref a) "generator") (hcol : ∀ {Q : List Value → Shared → Prop} {E : Value → Shared → Prop}, (∀ us s', PP us s' → Q us s') → wpAny (model prog w) A.in1.in1 (collect (.ref a)) Q E s)
    (h : ∀ us s', PP us s' → us.length ≤ sizeLine ∧ Q (.ref s'.heap.objs.size) { s' with heap := s'.heap.push { cls := .type "tuple", data := .seq us.toArray } }) : wpAny (model prog w) A (call (.type "tuple") [.ref a]) Q E s := by
  refine callType_codes (Q₁ := fun obj s₁ => s₁.TypeIs obj "tuple" ∧ Q obj s₁) F.called_tuple (F.typeCall_tuple_1 _) F.entry_object_init
    (code_tupG hTI hcol fun us s' hp => ⟨(h us s' hp).1, ⟨_, Heap.get?_push_size _ rfl, rfl⟩, (h us s' hp).2⟩) fun obj s₁ h₁ => ?_
  exact ⟨h₁.1, F.args_object_init_2 obj _, object_init_meets F.called_tuple.init.lookup F.called_tuple.made (by decide) prog w A.in1 _ s₁ ⟨h₁.1, rfl, h₁.2⟩⟩
end
section
variable {T : List NdefX.NTab} {X : Cx} {c P : Addr} {nm : Nat → Nat → Str} {gpos p pos : Pos} {own : List (Str × Nat)} {tg elt iter : Expr} {ifs : List Expr} {scope : Scope} {mi : It'} {g : G} {t : RS.T} {m : E} {k0 : Nat}
theorem rs_tupG (hr : Room (k0 + 2) X.A) (hc : X.calm = true) (go : GxOk T X scope own c P nm gpos) (hi : RI T X tg iter mi) (gp : GParts T X scope k0 tg elt ifs g t m) (hg : Gl X "tuple" := by rfl) (hmg : X.mg "tuple" = none) (hs : ∀ v, genFold iter X.env v = pure v := by intro _; rfl)
    (he : starEach [.GeneratorExp elt [⟨tg, iter, ifs, 0⟩] scope gpos] X.env = (false, eval (.GeneratorExp elt [⟨tg, iter, ifs, 0⟩] scope gpos) X.env) :: starEach [] X.env := by rfl) :
    RE T X (.Call (.Name "tuple" p) [.GeneratorExp elt [⟨tg, iter, ifs, 0⟩] scope gpos] [] pos) (eTupG mi (own.map (·.2)) g t m) := fun Wx tk => ⟨fun pins s σ H Q I h => by
  obtain ⟨r, ρ, S, mm, q⟩ := h
  unfold eTupG at q
  refine wpAny_Call_Name_kw (ld_blt I hg hmg (show bootBuiltins ("tuple" : Str) = some (.type "tuple") by rfl) ?_)
  refine PyProof.Rows.callWith_type1 ?_ he (by rfl)
  rw [he]
  show wpAny _ _ (spliced ((false, eval (.GeneratorExp elt [⟨tg, iter, ifs, 0⟩] scope gpos) X.env) :: backTo pos (starEach [] X.env))) _ _ s
  refine Calls.spliced_cons (gx_new tk (hr.mono (Nat.le_add_right _ _)) go hi hs I mm (fun cl s' e r' H' st => ?_) (fun z => ?_) fun pi S1 em r1 H1 s4 code it fp tn J a k s5 st gn => ?_)
  · rw [e] at q; exact q r' H' st
  · rw [z] at q; exact q
  rw [em] at q
  simp only [Out.bind] at q
  refine Calls.spliced_nil ?_
  cases eg : gCol pi g t m (pi.n + 1) [] (pi.n + 1, 0, wipeE ρ (own.map (·.2)), S1) with
  | bad => rw [eg] at q; exact q.elim
  | ex _ _ => exact absurd eg gCol_ex
  | ok ws S2 =>
    rw [eg] at q
    simp only at q
    split at q
    · rename_i hz
      rw [szL_eq] at hz
      refine call_tupG (PP := fun us s' => ∃ r2 H2 xs, Inv X pins σ H2 s' ∧ Stp T X.K X.mg r1 S1 H1 r2 S2 H2 ∧ Vals xs us ∧ RelWs X.K r2 S2.nx H2 ws xs) (gn.gen.typeIs) (fun {Q E} hq => gx_collect gn hc go.co (mm.step st) I.ok.frames hr.hd (by have := hr.dp; show X.A.depth < _; omega) gp (roomGen hr _) eg hz fun r2 H2 s' xs us I2 st2 hv hrl => hq us s' ⟨r2, H2, xs, I2, st2, hv, hrl⟩) fun us s' hp => ?_
      obtain ⟨r2, H2, xs, I2, st2, hv, hrl⟩ := hp
      have hz2 : us.length ≤ sizeLine := by rw [← hv.length, ← hrl.len]; exact hz
      refine ⟨hz2, ?_⟩
      have hf : H2 s'.heap.objs.size = none := I2.hok.fresh (Nat.le_refl _)
      refine ⟨.ref s'.heap.objs.size, upd H2 s'.heap.objs.size (.tup xs), I2.laid (t' := s'.toks) (fun b u e => Heap.get?_push_of_some _ e) (Nat.le_refl _) ⟨by rw [hv.length]; exact hz2, us, hv, ⟨_, Heap.get?_push_size _ rfl, rfl, _, rfl⟩⟩, rfl, ?_⟩
      have j := st2.mt.junk (ho := .tup xs) hf
      exact q r2 _ _ (st.trans (st2.trans j)) (mTup (.inl upd_same) (RelWs.kp j.kp hrl))
    · exact q.elim⟩
end
end RS
set_option Elab.async false
set_option linter.all false
set_option maxRecDepth 100000
set_option maxHeartbeats 1000000
set_option autoImplicit false
/-! RS.C19: data; == and !=, in and not in. -/
namespace RS
open PySem PySem.Spec PyProof.Rows L2

/-- the data that a plain value is (no dict, no instance within) -/
def toD (s : S) : Nat → W → Option PyData
  | 0, _ => none
  | n + 1, w => match w with
    | .non => some .none
    | .bl b => some (.bool b)
    | .int i => some (.int i)
    | .str x => some (.str x)
    | .tup l => (l.mapM (toD s n)).map .tuple
    | .lst l => (l.mapM (toD s n)).map .list
    | .dct _ _ => none
    | .ref a => match s.at_ a with
      | some (.lst l) => (l.mapM (toD s n)).map .list
      | _ => none
def toDs (s : S) (n : Nat) (l : List W) : Option (List PyData) := l.mapM (toD s n)
theorem toDs_nil {s : S} {n : Nat} : toDs s n [] = some [] := rfl
theorem toDs_cons {s : S} {n : Nat} {w : W} {l : List W} {ds : List PyData} (h : toDs s n (w :: l) = some ds) : ∃ d t, toD s n w = some d ∧ toDs s n l = some t ∧ ds = d :: t := by
  unfold toDs at h
  rw [List.mapM_cons] at h
  cases e : toD s n w with
  | none => rw [e] at h; cases h
  | some d =>
    rw [e] at h
    cases e2 : l.mapM (toD s n) with
    | none => rw [e2] at h; cases h
    | some t => rw [e2] at h; cases h; exact ⟨d, t, rfl, e2, rfl⟩
theorem toDs_cons' {s : S} {n : Nat} {w : W} {l : List W} {d : PyData} {t : List PyData} (h : toD s n w = some d) (h2 : toDs s n l = some t) : toDs s n (w :: l) = some (d :: t) := by
  unfold toDs at h2 ⊢
  rw [List.mapM_cons, h, h2]; rfl
theorem toD_plain {s : S} : ∀ (n : Nat) {w : W} {d : PyData}, toD s n w = some d → d.plain = true ∧ d.depth ≤ n
  | 0, _, _, h => by cases h
  | n + 1, w, d, h => by
    have all : ∀ (l : List W) (ds : List PyData), toDs s n l = some ds → PyData.plainAll ds = true ∧ PyData.depthAll ds ≤ n := by
      intro l
      induction l with
      | nil => intro ds h; cases h; exact ⟨rfl, Nat.zero_le _⟩
      | cons w l ih =>
        intro ds h
        obtain ⟨d, t, h1, h2, rfl⟩ := toDs_cons h
        obtain ⟨a1, a2⟩ := toD_plain n h1
        obtain ⟨b1, b2⟩ := ih t h2
        refine ⟨?_, ?_⟩
        · simp only [PyData.plainAll, a1, b1, Bool.and_self]
        · simp only [PyData.depthAll]; omega
    cases w with
    | non => cases h; exact ⟨rfl, Nat.zero_le _⟩
    | bl b => cases h; exact ⟨rfl, Nat.zero_le _⟩
    | int b => cases h; exact ⟨rfl, Nat.zero_le _⟩
    | str b => cases h; exact ⟨rfl, Nat.zero_le _⟩
    | tup l =>
      simp only [toD] at h
      cases e : l.mapM (toD s n) with
      | none => rw [e] at h; cases h
      | some ds =>
        rw [e] at h; cases h
        obtain ⟨a1, a2⟩ := all l ds e
        exact ⟨a1, Nat.succ_le_succ a2⟩
    | lst l =>
      simp only [toD] at h
      cases e : l.mapM (toD s n) with
      | none => rw [e] at h; cases h
      | some ds =>
        rw [e] at h; cases h
        obtain ⟨a1, a2⟩ := all l ds e
        exact ⟨a1, Nat.succ_le_succ a2⟩
    | dct ks l => cases h
    | ref a =>
      simp only [toD] at h
      split at h
      · rename_i l _
        cases e : l.mapM (toD s n) with
        | none => rw [e] at h; cases h
        | some ds =>
          rw [e] at h; cases h
          obtain ⟨a1, a2⟩ := all l ds e
          exact ⟨a1, Nat.succ_le_succ a2⟩
      · cases h
theorem toDs_plain {s : S} {n : Nat} : ∀ {l : List W} {ds : List PyData}, toDs s n l = some ds → PyData.plainAll ds = true ∧ PyData.depthAll ds ≤ n
  | [], ds, h => by cases h; exact ⟨rfl, Nat.zero_le _⟩
  | w :: l, ds, h => by
    obtain ⟨d, t, h1, h2, rfl⟩ := toDs_cons h
    obtain ⟨a1, a2⟩ := toD_plain n h1
    obtain ⟨b1, b2⟩ := toDs_plain h2
    refine ⟨?_, ?_⟩
    · simp only [PyData.plainAll, a1, b1, Bool.and_self]
    · simp only [PyData.depthAll]; omega
section
variable {T : List NdefX.NTab} {X : Cx} {pins : List (Addr × Obj)} {σ : L2.St} {H : Hp} {sh : Shared} {r : Rm} {s : S}
theorem reads_of (I : Inv X pins σ H sh) (m : Mt T X.K X.mg r s H) : ∀ (n : Nat) {w : W} {d : PyData} {v : V} {u : Value}, toD s n w = some d → RelW X.K r s.nx H w v → L2.RelV v u → ∃ as, Reads sh.heap u d as
  | 0, _, _, _, _, h, _, _ => by cases h
  | n + 1, w, d, v, u, h, rl, rv => by
    have all : ∀ (l : List W) (ds : List PyData) (xs : List V) (us : List Value), toDs s n l = some ds → RelWs X.K r s.nx H l xs → Vals xs us → ∃ as, ReadsAll sh.heap us ds as := by
      intro l
      induction l with
      | nil =>
        intro ds xs us h rl rv
        cases h
        unfold RelWs at rl
        subst rl
        cases rv
        exact ⟨[], .nil⟩
      | cons w l ih =>
        intro ds xs us h rl rv
        obtain ⟨d, t, h1, h2, rfl⟩ := toDs_cons h
        obtain ⟨x, xt, rfl, r1, r2⟩ := rl.uncons
        cases rv with
        | cons a b =>
          obtain ⟨as, q1⟩ := reads_of I m n h1 r1 a
          obtain ⟨bs, q2⟩ := ih t xt _ h2 r2 b
          exact ⟨as ++ bs, .cons q1 q2⟩
    cases w with
    | non => cases h; obtain rfl := rNon rl; obtain rfl : u = Value.none := rv; exact ⟨_, .none⟩
    | bl b => cases h; obtain rfl := rBl rl; obtain rfl : u = Value.bool b := rv; exact ⟨_, .bool _⟩
    | int b => cases h; obtain rfl := rInt rl; obtain ⟨t, rfl⟩ := rv; exact ⟨_, .int _ _⟩
    | str b => cases h; obtain rfl := rStr rl; obtain ⟨t, rfl⟩ := rv; exact ⟨_, .str _ _⟩
    | tup l =>
      simp only [toD] at h
      cases e : l.mapM (toD s n) with
      | none => rw [e] at h; cases h
      | some ds =>
        rw [e] at h; cases h
        obtain ⟨p, xs, rfl, t1, l1⟩ := rTup rl
        obtain rfl : u = Value.ref p := rv
        obtain ⟨its, rv2, ⟨o, ho, hc, k, hd⟩, _⟩ := I.tuple t1.sq
        obtain ⟨as, q⟩ := all l ds xs its e l1 rv2
        exact ⟨as, .tuple ho hc hd (by simpa using q)⟩
    | lst l =>
      simp only [toD] at h
      cases e : l.mapM (toD s n) with
      | none => rw [e] at h; cases h
      | some ds =>
        rw [e] at h; cases h
        obtain ⟨p, xs, rfl, _, h1, l1⟩ := rLst rl
        obtain rfl : u = Value.ref p := rv
        obtain ⟨its, rv2, pl, _⟩ := I.list (.inl (.inl h1) : SqL X.K H _ xs)
        obtain ⟨o, ho, hc, k, hd⟩ := pl.isList
        obtain ⟨as, q⟩ := all l ds xs its e l1 rv2
        exact ⟨_, .list ho hc hd (by simpa using q)⟩
    | dct ks l => cases h
    | ref a =>
      simp only [toD] at h
      split at h
      · rename_i l el
        cases e : l.mapM (toD s n) with
        | none => rw [e] at h; cases h
        | some ds =>
          rw [e] at h; cases h
          obtain ⟨_, rfl⟩ := rRef rl
          obtain rfl : u = Value.ref (r a) := rv
          obtain ⟨_, xs, h1, l1⟩ := m.lst el
          obtain ⟨its, rv2, pl, _⟩ := I.list (.inl (.inl h1) : SqL X.K H _ xs)
          obtain ⟨o, ho, hc, k, hd⟩ := pl.isList
          obtain ⟨as, q⟩ := all l ds xs its e l1 rv2
          exact ⟨_, .list ho hc hd (by simpa using q)⟩
      · cases h
theorem readsAll_of (I : Inv X pins σ H sh) (m : Mt T X.K X.mg r s H) {n : Nat} : ∀ {l : List W} {ds : List PyData} {xs : List V} {us : List Value}, toDs s n l = some ds → RelWs X.K r s.nx H l xs → Vals xs us → ∃ as, ReadsAll sh.heap us ds as
  | [], ds, xs, us, h, rl, rv => by
    cases h
    unfold RelWs at rl
    subst rl
    cases rv
    exact ⟨[], .nil⟩
  | w :: l, ds, xs, us, h, rl, rv => by
    obtain ⟨d, t, h1, h2, rfl⟩ := toDs_cons h
    obtain ⟨x, xt, rfl, r1, r2⟩ := rl.uncons
    cases rv with
    | cons a b =>
      obtain ⟨as, q1⟩ := reads_of I m n h1 r1 a
      obtain ⟨bs, q2⟩ := readsAll_of I m h2 r2 b
      exact ⟨as ++ bs, .cons q1 q2⟩
end

/-! ### equality: yes, no, or not told -/
def allO : List (Option Bool) → Option Bool
  | [] => some true
  | none :: _ => none
  | some b :: l => (allO l).map fun c => b && c
def sameR : W → W → Bool
  | .ref p, .ref q => decide (p = q)
  | _, _ => false
def eqW (s : S) : Nat → W → W → Option Bool
  | 0, _, _ => none
  | n + 1, a, b => match toD s 12 a, toD s 12 b with
    | some x, some y => some (PyData.eqv x y)
    | _, _ => match a, b with
      | .tup xs, .tup ys => if xs.length = ys.length then allO (List.zipWith (eqW s n) xs ys) else none
      | a, b => match lsW s a, lsW s b with
        | some xs, some ys => if sameR a b = true then some true else if xs.length = ys.length then allO (List.zipWith (eqW s n) xs ys) else some false
        | _, _ => match dcW s a, dcW s b with
          | some ks, some ls => if sameR a b = true then some true else (allO (ks.map fun kv => match dget ks kv.1, dget ls kv.1 with
            | some w, some u => eqW s n w u
            | _, _ => some false)).map fun c => decide (ks.length = ls.length) && c
          | _, _ => none
theorem allO_get {l : List (Option Bool)} {b : Bool} (h : allO l = some b) : ∃ e : Nat → Bool, (∀ j (hj : j < l.length), l[j] = some (e j)) ∧ b = (List.range l.length).all e := by
  induction l generalizing b with
  | nil => cases h; exact ⟨fun _ => true, fun j hj => absurd hj (Nat.not_lt_zero _), rfl⟩
  | cons o l ih =>
    cases o with
    | none => cases h
    | some c =>
      simp only [allO] at h
      cases e : allO l with
      | none => rw [e] at h; cases h
      | some d =>
        rw [e] at h
        cases h
        obtain ⟨f, h1, h2⟩ := ih e
        refine ⟨fun j => match j with | 0 => c | j + 1 => f j, fun j hj => ?_, ?_⟩
        · cases j with
          | zero => rfl
          | succ j => exact h1 j (Nat.lt_of_succ_lt_succ hj)
        · rw [h2, List.length_cons, List.range_succ_eq_map, List.all_cons, List.all_map]
          rfl
section
variable {T : List NdefX.NTab} {X : Cx} {pins : List (Addr × Obj)} {σ : L2.St} {H : Hp} {sh : Shared} {r : Rm} {s : S}
/-- a value is one plain value only -/
theorem Mt.notTup (m : Mt T X.K X.mg r s H) {a : Nat} {o : O} (h : s.at_ a = some o) (xs : List V) : H (r a) ≠ some (.tup xs) := fun z => by
  obtain ⟨_, ho, h2, h3⟩ := m.ob a o h
  rw [z] at h2
  cases h2
  exact h3.notup.1 _ rfl
theorem eqt_items (I : Inv X pins σ H sh) {n : Nat} {F : W → W → Option Bool} (ih : ∀ {a b : W} {x y : V} {v u : Value} {b0 : Bool}, F a b = some b0 → RelW X.K r s.nx H a x → RelW X.K r s.nx H b y → L2.RelV x v → L2.RelV y u → PySem.W.EqTree X.prog X.w sh n v u b0) : ∀ {xs ys : List W} {as bs : List V} {us ws : List Value}, RelWs X.K r s.nx H xs as → RelWs X.K r s.nx H ys bs → Vals as us → Vals bs ws → xs.length = ys.length →
    ∀ (e : Nat → Bool), (∀ j (hj : j < (List.zipWith F xs ys).length), (List.zipWith F xs ys)[j] = some (e j)) → ∀ j (h1 : j < us.length) (h2 : j < ws.length), PySem.W.EqTree X.prog X.w sh n us[j] ws[j] (e j)
  | [], ys, as, bs, us, ws, r1, _, v1, _, _, e, _, j, h1, _ => by
    unfold RelWs at r1
    subst r1
    cases v1
    exact absurd h1 (Nat.not_lt_zero _)
  | _ :: _, [], as, bs, us, ws, _, r2, _, v2, _, e, _, j, _, h2 => by
    unfold RelWs at r2
    subst r2
    cases v2
    exact absurd h2 (Nat.not_lt_zero _)
  | a :: xs, b :: ys, as, bs, us, ws, r1, r2, v1, v2, hl, e, he, j, h1, h2 => by
    obtain ⟨x, xt, rfl, p1, p2⟩ := r1.uncons
    obtain ⟨y, yt, rfl, q1, q2⟩ := r2.uncons
    cases v1 with
    | cons a1 a2 =>
      cases v2 with
      | cons b1 b2 =>
        cases j with
        | zero => exact ih (he 0 (by simp)) p1 q1 a1 b1
        | succ j =>
          exact eqt_items I ih p2 q2 a2 b2 (by simpa using hl) (fun j => e (j + 1)) (fun j hj => by
            have := he (j + 1) (by simpa using hj)
            simpa using this) j (Nat.lt_of_succ_lt_succ h1) (Nat.lt_of_succ_lt_succ h2)
end
end RS
set_option Elab.async false
set_option linter.all false
set_option maxRecDepth 100000
set_option maxHeartbeats 1000000
set_option autoImplicit false
/-! RS.C20: == and != and in, of any values. -/
namespace RS
open PySem PySem.Spec PyProof.Rows L2

theorem allO_map {α : Type} {f : α → Option Bool} : ∀ {l : List α} {c : Bool}, allO (l.map f) = some c → (∀ x ∈ l, ∃ b, f x = some b) ∧ c = l.all fun x => (f x).getD false
  | [], c, h => by cases h; exact ⟨fun x z => (nomatch z), rfl⟩
  | x :: l, c, h => by
    rw [List.map_cons] at h
    cases e : f x with
    | none => rw [e] at h; cases h
    | some b =>
      rw [e] at h
      simp only [allO] at h
      cases e2 : allO (l.map f) with
      | none => rw [e2] at h; cases h
      | some d =>
        rw [e2] at h
        cases h
        obtain ⟨h1, h2⟩ := allO_map e2
        refine ⟨fun y hy => ?_, ?_⟩
        · rcases List.mem_cons.mp hy with rfl | hy
          · exact ⟨_, e⟩
          · exact h1 y hy
        · rw [List.all_cons, e, h2]; rfl
theorem dget_mem : ∀ {l : List (W × W)} {x w : W}, dget l x = some w → ∃ p ∈ l, p.1 = x
  | [], _, _, h => by cases h
  | (k, v) :: l, x, w, h => by
    unfold dget at h
    split at h
    · rename_i e; exact ⟨_, List.mem_cons_self, e⟩
    · obtain ⟨p, h1, h2⟩ := dget_mem h
      exact ⟨p, List.mem_cons_of_mem _ h1, h2⟩
theorem isList_at {h : Heap} {l : Addr} {a b : Array Value} (x : h.IsList l a) (y : h.IsList l b) : a = b := by
  obtain ⟨o, h1, _, k, h2⟩ := x
  obtain ⟨o', h1', _, k', h2'⟩ := y
  rw [h1] at h1'; cases h1'
  rw [h2] at h2'; cases h2'; rfl
theorem isTuple_at {h : Heap} {l : Addr} {a b : Array Value} (x : h.IsTuple l a) (y : h.IsTuple l b) : a = b := by
  obtain ⟨o, h1, _, k, h2⟩ := x
  obtain ⟨o', h1', _, k', h2'⟩ := y
  rw [h1] at h1'; cases h1'
  rw [h2] at h2'; cases h2'; rfl
section
variable {T : List NdefX.NTab} {X : Cx} {pins : List (Addr × Obj)} {σ : L2.St} {H : Hp} {sh : Shared} {r : Rm} {s : S}
theorem items_same {F : W → W → Option Bool} (ih : ∀ {a b : W} {x y : V} {u : Value} {c : Bool}, F a b = some c → RelW X.K r s.nx H a x → RelW X.K r s.nx H b y → L2.RelV x u → L2.RelV y u → c = true) :
    ∀ {xs ys : List W} {as bs : List V} {us : List Value} {c : Bool}, RelWs X.K r s.nx H xs as → RelWs X.K r s.nx H ys bs → Vals as us → Vals bs us → allO (List.zipWith F xs ys) = some c → c = true
  | [], ys, as, bs, us, c, _, _, _, _, h => by cases h; rfl
  | _ :: _, [], as, bs, us, c, _, _, _, _, h => by cases h; rfl
  | a :: xs, b :: ys, as, bs, us, c, r1, r2, v1, v2, h => by
    obtain ⟨x, xt, rfl, p1, p2⟩ := r1.uncons
    obtain ⟨y, yt, rfl, q1, q2⟩ := r2.uncons
    cases v1 with
    | cons a1 a2 =>
      cases v2 with
      | cons b1 b2 =>
        rw [List.zipWith_cons_cons] at h
        cases e : F a b with
        | none => rw [e] at h; cases h
        | some d =>
          rw [e] at h
          simp only [allO] at h
          cases e2 : allO (List.zipWith F xs ys) with
          | none => rw [e2] at h; cases h
          | some d2 =>
            rw [e2] at h
            cases h
            rw [ih e p1 q1 a1 b1, items_same ih p2 q2 a2 b2 e2]; rfl
theorem rd_inj {p : Addr} {kvs kvs' : List (Key × V)} (a : Rd H p (.dK kvs)) (b : Rd H p (.dK kvs')) : kvs = kvs' := by
  rcases a with a | ⟨o, a⟩ <;> rcases b with b | ⟨o', b⟩ <;> rw [a] at b <;> cases b <;> rfl
theorem rkv_key {K : PySem.W.Frag} {n : Nat} {ks : List (W × W)} {kvs : List (Key × V)} (h : RKV K r n H ks kvs) : ∀ {q : W × W}, q ∈ ks → ∃ k, q.1 = kW k := by
  induction h with
  | nil => exact fun z => nomatch z
  | cons a _ ih =>
    intro q hq
    rcases List.mem_cons.mp hq with rfl | hq
    · exact ⟨_, a.1⟩
    · exact ih hq
theorem dget_some : ∀ {l : List (W × W)} {q : W × W}, q ∈ l → ¬ dget l q.1 = none
  | (k, v) :: l, q, h, z => by
    unfold dget at z
    split at z
    · cases z
    · rename_i e
      rcases List.mem_cons.mp h with rfl | h
      · exact e rfl
      · exact dget_some h z
theorem kv_val {kvs : List (Key × V)} {vs : List (Key × Value)} {k : Key} {x : V} (h : KV kvs vs) (e : valV kvs k = some x) : ∃ u, L2.RelV x u := by
  have q := h.val k
  rw [e] at q
  cases e2 : valueAt vs k with
  | none => rw [e2] at q; exact False.elim (by cases q)
  | some u => rw [e2] at q; exact ⟨u, q⟩
/-- the same value is equal to itself -/
theorem eqW_same (I : Inv X pins σ H sh) (m : Mt T X.K X.mg r s H) : ∀ (n : Nat) {a b : W} {x y : V} {u : Value} {c : Bool}, eqW s n a b = some c → RelW X.K r s.nx H a x → RelW X.K r s.nx H b y → L2.RelV x u → L2.RelV y u → c = true
  | 0, _, _, _, _, _, _, h, _, _, _, _ => by cases h
  | n + 1, a, b, x, y, u, c, h, ra, rb, rx, ry => by
    unfold eqW at h
    split at h
    · rename_i d e h1 h2
      cases h
      obtain ⟨as, q1⟩ := reads_of I m 12 h1 ra rx
      obtain ⟨bs, q2⟩ := reads_of I m 12 h2 rb ry
      obtain rfl := SeqAt.plain_unique d e u as bs (toD_plain 12 h1).1 q1 q2
      exact SeqAt.eqv_refl_plain d (toD_plain 12 h1).1
    · split at h
      · rename_i l l'
        split at h
        · obtain ⟨p, xs, rfl, t1, l1⟩ := rTup ra
          obtain ⟨p', ys, rfl, t2, l2⟩ := rTup rb
          obtain rfl : u = Value.ref p := rx
          cases (show Value.ref p = Value.ref p' from ry)
          obtain ⟨i1, v1, q1, _⟩ := I.tuple t1.sq
          obtain ⟨i2, v2, q2, _⟩ := I.tuple t2.sq
          have e := isTuple_at q1 q2
          obtain rfl : i1 = i2 := by simpa using congrArg Array.toList e
          exact items_same (fun g => eqW_same I m n g) l1 l2 v1 v2 h
        · cases h
      · split at h
        · rename_i xs ys e1 e2
          obtain ⟨p, as, rfl, k1, l1⟩ := m.ls ra e1
          obtain ⟨p', bs, rfl, k2, l2⟩ := m.ls rb e2
          obtain rfl : u = Value.ref p := rx
          cases (show Value.ref p = Value.ref p' from ry)
          rw [k1] at k2
          cases k2
          split at h
          · cases h; rfl
          · split at h
            · obtain ⟨i1, v1, q1, _⟩ := I.list (.inl (.inl k1) : SqL X.K H _ as)
              exact items_same (fun g => eqW_same I m n g) l1 l2 v1 v1 h
            · rename_i hl
              exact absurd (l1.len.trans l2.len.symm) hl
        · split at h
          · rename_i ks ls e1 e2
            obtain ⟨p, kvs, rfl, k1, l1⟩ := m.dc ra e1
            obtain ⟨p', kvs', rfl, k2, l2⟩ := m.dc rb e2
            obtain rfl : u = Value.ref p := rx
            cases (show Value.ref p = Value.ref p' from ry)
            obtain rfl := rd_inj k1 k2
            split at h
            · cases h; rfl
            · obtain ⟨c', h', rfl⟩ := Option.map_eq_some_iff.mp h
              obtain ⟨h3, h4⟩ := allO_map h'
              have hc : c' = true := by
                rw [h4, List.all_eq_true]
                intro q hq
                obtain ⟨b, hb⟩ := h3 q hq
                rw [hb]
                show b = true
                obtain ⟨k, hk⟩ := rkv_key l1 hq
                rw [hk] at hb
                rcases l1.get k with ⟨z1, z2⟩ | ⟨w, x, z1, z2, z3⟩
                · rcases l2.get k with ⟨y1, _⟩ | ⟨_, _, _, y2, _⟩
                  · exact absurd (dget_some hq) (by rw [hk, z1]; simp)
                  · rw [z2] at y2; cases y2
                · rcases l2.get k with ⟨_, y2⟩ | ⟨w', x', y1, y2, y3⟩
                  · rw [z2] at y2; cases y2
                  · rw [z2] at y2; cases y2
                    rw [z1, y1] at hb
                    obtain ⟨_, _, vs, kv, _⟩ := dk_rd I.hok k1
                    obtain ⟨u', hu⟩ := kv_val kv z2
                    exact eqW_same I m n hb z3 y3 hu hu
              have hl : ks.length = ls.length := by rw [l1.len, l2.len]
              simp [hc, hl]
          · cases h
theorem all_keys {F : W → Bool} {ks : List (W × W)} {kvs : List (Key × V)} {va : List (Key × Value)} (h1 : RKV X.K r s.nx H ks kvs) (h2 : KV kvs va) : (ks.all fun p => F p.1) = va.all fun p => F (kW p.1) := by
  induction h1 generalizing va with
  | nil => cases h2; rfl
  | cons p _ ih =>
    cases h2 with
    | cons q t =>
      rw [List.all_cons, List.all_cons, p.1, show _ = _ from q.1]
      exact congrArg _ (ih t)
theorem eqW_items (I : Inv X pins σ H sh) {n : Nat} {F : W → W → Option Bool} (ih : ∀ {a b : W} {x y : V} {v u : Value} {b0 : Bool}, F a b = some b0 → RelW X.K r s.nx H a x → RelW X.K r s.nx H b y → L2.RelV x v → L2.RelV y u → PySem.W.EqTree X.prog X.w sh n v u b0)
    {xs ys : List W} {as bs : List V} {us ws : List Value} {c : Bool} (r1 : RelWs X.K r s.nx H xs as) (r2 : RelWs X.K r s.nx H ys bs) (v1 : Vals as us) (v2 : Vals bs ws) (hl : xs.length = ys.length) (h : allO (List.zipWith F xs ys) = some c) :
    us.length = ws.length ∧ ∃ e : Nat → Bool, (∀ j (h1 : j < us.toArray.size) (h2 : j < ws.toArray.size), PySem.W.EqTree X.prog X.w sh n us.toArray[j] ws.toArray[j] (e j)) ∧ c = (List.range us.toArray.size).all e := by
  obtain ⟨e, h1, h2⟩ := allO_get h
  have k1 : us.length = xs.length := by rw [← v1.length, r1.len]
  have k2 : ws.length = ys.length := by rw [← v2.length, r2.len]
  refine ⟨by omega, e, fun j j1 j2 => ?_, ?_⟩
  · have := eqt_items I ih r1 r2 v1 v2 hl e h1 j (by simpa using j1) (by simpa using j2)
    simpa using this
  · rw [h2, List.length_zipWith, ← hl, Nat.min_self, List.size_toArray, k1]
/-- two dicts -/
theorem eqW_dicts {P : Value → Value → Bool → Prop} {F : W → W → Option Bool} (ih : ∀ {a b : W} {x y : V} {v u : Value} {b0 : Bool}, F a b = some b0 → RelW X.K r s.nx H a x → RelW X.K r s.nx H b y → L2.RelV x v → L2.RelV y u → P v u b0)
    {ks ls : List (W × W)} {kvs lvs : List (Key × V)} {va vb : List (Key × Value)} {c : Bool} (r1 : RKV X.K r s.nx H ks kvs) (r2 : RKV X.K r s.nx H ls lvs) (v1 : KV kvs va) (v2 : KV lvs vb) (nd : (va.map (·.1)).Nodup)
    (h : allO (ks.map fun kv => match dget ks kv.1, dget ls kv.1 with
      | some w, some u => F w u
      | _, _ => some false) = some c) :
    ∃ e : Key → Bool, (∀ k v y, (k, v) ∈ va → valueAt vb k = some y → P v y (e k)) ∧ (decide (ks.length = ls.length) && c) = (va.length == vb.length && va.all fun p => (valueAt vb p.1).isSome && e p.1) := by
  obtain ⟨h1, h2⟩ := allO_map h
  have hl1 : va.length = ks.length := by rw [← v1.length, ← r1.len]
  have hl2 : vb.length = ls.length := by rw [← v2.length, ← r2.len]
  let G : W → Option Bool := fun k => match dget ks k, dget ls k with
      | some w, some u => F w u
      | _, _ => some false
  have hk : ∀ k, (valueAt va k).isSome = true → ∃ b, G (kW k) = some b := by
    intro k hk
    have : ∃ p ∈ ks, p.1 = kW k := by
      rcases r1.get k with ⟨_, z⟩ | ⟨w, v, z, _⟩
      · have q := v1.val k
        rw [z] at q
        cases e : valueAt va k with
        | none => rw [e] at hk; cases hk
        | some y => rw [e] at q; exact False.elim (by cases q)
      · exact dget_mem z
    obtain ⟨p, hp, e⟩ := this
    obtain ⟨b, hb⟩ := h1 p hp
    exact ⟨b, by rw [← e]; exact hb⟩
  refine ⟨fun k => (G (kW k)).getD false, fun k v y hm hy => ?_, ?_⟩
  · have hv : valueAt va k = some v := valueAt_of_mem nd hm
    obtain ⟨b, hb⟩ := hk k (by rw [hv]; rfl)
    show P v y ((G (kW k)).getD false)
    rw [hb]
    show P v y b
    have q1 := v1.val k
    have q2 := v2.val k
    rw [hv] at q1
    rw [hy] at q2
    rcases r1.get k with ⟨z1, z2⟩ | ⟨w, x, z1, z2, z3⟩
    · rw [z2] at q1; exact False.elim (by cases q1)
    · rw [z2] at q1
      rcases r2.get k with ⟨y1, y2⟩ | ⟨w', x', y1, y2, y3⟩
      · rw [y2] at q2; exact False.elim (by cases q2)
      · rw [y2] at q2
        simp only [G, z1, y1] at hb
        exact ih hb z3 y3 q1 q2
  · rw [hl1, hl2, h2]
    have e0 : (decide (ks.length = ls.length)) = (ks.length == ls.length) := by simp [BEq.beq]
    rw [e0]
    refine congrArg _ ?_
    show (ks.all fun p => (fun k => (G k).getD false) p.1) = _
    rw [all_keys (F := fun k => (G k).getD false) r1 v1]
    have : ∀ p ∈ va, (G (kW p.1)).getD false = ((valueAt vb p.1).isSome && (G (kW p.1)).getD false) := by
      intro p hp
      cases e : valueAt vb p.1 with
      | some y => rfl
      | none =>
        have q2 := v2.val p.1
        rw [e] at q2
        rcases r2.get p.1 with ⟨y1, y2⟩ | ⟨w', x', y1, y2, y3⟩
        · have : G (kW p.1) = some false := by
            simp only [G, y1]
            cases dget ks (kW p.1) <;> rfl
          rw [this]; rfl
        · rw [y2] at q2; exact False.elim (by cases q2)
    rw [Bool.eq_iff_iff, List.all_eq_true, List.all_eq_true]
    exact ⟨fun z p hp => by rw [← this p hp]; exact z p hp, fun z p hp => by rw [this p hp]; exact z p hp⟩
theorem dc_of (I : Inv X pins σ H sh) (m : Mt T X.K X.mg r s H) {w : W} {v : V} {l : List (W × W)} (h0 : RelW X.K r s.nx H w v) (h : dcW s w = some l) :
    ∃ p kvs vs, v = .ref p ∧ RKV X.K r s.nx H l kvs ∧ KV kvs vs ∧ (p == sysModules) = false ∧ sh.heap.DictOf (mixKind X.prog X.w) p vs ∧ (vs.map (·.1)).Nodup := by
  obtain ⟨p, kvs, rfl, h2, h3⟩ := m.dc h0 h
  obtain ⟨_, z, vs, kv, dd⟩ := dk_rd I.hok h2
  refine ⟨p, kvs, vs, rfl, h3, kv, z, dd, ?_⟩
  obtain ⟨_, _, _, _, _, _, _, _, nd⟩ := dd
  exact nd
theorem eqW_tree (I : Inv X pins σ H sh) (m : Mt T X.K X.mg r s H) : ∀ (n : Nat) {a b : W} {x y : V} {v u : Value} {c : Bool}, eqW s n a b = some c → RelW X.K r s.nx H a x → RelW X.K r s.nx H b y → L2.RelV x v → L2.RelV y u → PySem.W.EqTree X.prog X.w sh (n + 12) v u c
  | 0, _, _, _, _, _, _, _, h, _, _, _, _ => by cases h
  | n + 1, a, b, x, y, v, u, c, h, ra, rb, rx, ry => by
    have h0 := h
    unfold eqW at h
    split at h
    · rename_i d e h1 h2
      cases h
      obtain ⟨as, q1⟩ := reads_of I m 12 h1 ra rx
      obtain ⟨bs, q2⟩ := reads_of I m 12 h2 rb ry
      obtain ⟨p1, p2⟩ := toD_plain 12 h1
      obtain ⟨p3, p4⟩ := toD_plain 12 h2
      exact .leaf fun A hu => SeqAt.eqAt_plain d e A sh v u as bs q1 q2 p1 p3 (by omega)
    · split at h
      · rename_i l l'
        split at h
        · rename_i hl
          obtain ⟨p, xs, rfl, t1, l1⟩ := rTup ra
          obtain ⟨p', ys, rfl, t2, l2⟩ := rTup rb
          by_cases hp : p = p'
          · subst hp
            cases (show v = Value.ref p from rx)
            cases (show u = Value.ref p from ry)
            rw [eqW_same I m (n + 1) h0 ra rb rx ry]
            exact .same
          · cases (show v = Value.ref p from rx)
            cases (show u = Value.ref p' from ry)
            obtain ⟨i1, v1, q1, _⟩ := I.tuple t1.sq
            obtain ⟨i2, v2, q2, _⟩ := I.tuple t2.sq
            obtain ⟨z, e, z1, z2⟩ := eqW_items I (fun g => eqW_tree I m n g) l1 l2 v1 v2 hl h
            have := PySem.W.EqTree.tuples (e := e) hp q1 q2 z1
            have e2 : ((List.range (min i1.toArray.size i2.toArray.size)).all e && i1.toArray.size == i2.toArray.size) = c := by
              rw [z2]
              simp [z]
            rw [e2] at this
            rw [Nat.add_right_comm]
            exact this
        · cases h
      · rw [Nat.add_right_comm]
        split at h
        · rename_i xs ys e1 e2
          obtain ⟨p, as, rfl, k1, l1⟩ := m.ls ra e1
          obtain ⟨p', bs, rfl, k2, l2⟩ := m.ls rb e2
          by_cases hp : p = p'
          · subst hp
            cases (show v = Value.ref p from rx)
            cases (show u = Value.ref p from ry)
            rw [eqW_same I m (n + 1) h0 ra rb rx ry]
            exact .same
          · cases (show v = Value.ref _ from rx)
            cases (show u = Value.ref _ from ry)
            obtain ⟨i1, v1, q1, _⟩ := I.list (.inl (.inl k1) : SqL X.K H _ as)
            obtain ⟨i2, v2, q2, _⟩ := I.list (.inl (.inl k2) : SqL X.K H _ bs)
            split at h
            · rename_i e
              exfalso
              revert e
              cases a <;> cases b <;> intro e <;> first | (cases e; done) | skip
              obtain ⟨h1, z1⟩ := rRef ra
              obtain ⟨h2, z2⟩ := rRef rb
              have e := of_decide_eq_true e
              injection z1 with z1
              injection z2 with z2
              rw [z1, z2, e] at hp
              exact hp rfl
            · split at h
              · rename_i hl
                obtain ⟨z, e', z1, z2⟩ := eqW_items I (fun g => eqW_tree I m n g) l1 l2 v1 v2 hl h
                rw [z2]
                exact .lists hp q1.isList q2.isList (by simpa using z) z1
              · rename_i hl
                cases h
                refine .listsLen hp q1.isList q2.isList ?_
                have k1 : i1.length = xs.length := by rw [← v1.length, l1.len]
                have k2 : i2.length = ys.length := by rw [← v2.length, l2.len]
                simp only [List.size_toArray, bne_iff_ne, ne_eq]
                omega
        · split at h
          · rename_i ks ls e1 e2
            obtain ⟨p, kvs, va, rfl, k1, k2, k3, k4, k5⟩ := dc_of I m ra e1
            obtain ⟨p', lvs, vb, rfl, j1, j2, j3, j4, j5⟩ := dc_of I m rb e2
            by_cases hp : p = p'
            · subst hp
              cases (show v = Value.ref p from rx)
              cases (show u = Value.ref p from ry)
              rw [eqW_same I m (n + 1) h0 ra rb rx ry]
              exact .same
            · cases (show v = Value.ref _ from rx)
              cases (show u = Value.ref _ from ry)
              split at h
              · rename_i e
                exfalso
                revert e
                cases a <;> cases b <;> intro e <;> first | (cases e; done) | skip
                obtain ⟨h1, z1⟩ := rRef ra
                obtain ⟨h2, z2⟩ := rRef rb
                have e := of_decide_eq_true e
                injection z1 with z1
                injection z2 with z2
                rw [z1, z2, e] at hp
                exact hp rfl
              · obtain ⟨c', h', rfl⟩ := Option.map_eq_some_iff.mp h
                obtain ⟨e', z1, z2⟩ := eqW_dicts (fun g => eqW_tree I m n g) k1 j1 k2 j2 k5 h'
                rw [z2]
                exact .dicts hp k3 j3 k4 j4 z1
          · cases h
end
def eqV (a b : W) : M W := fun s => match eqW s 40 a b with
  | some c => .ok (.bl c) s
  | none => .bad
section
variable {T : List NdefX.NTab} {X : Cx} {pos : Pos}
theorem ow_eq (hu : X.A.units + 60 < cLine) : OpW T X (compareOp .Eq) eqV := fun Wx tk pins sh σ H x y v u Q I rx ry hh => by
  obtain ⟨r, s, a, b, m, ra, rb, q⟩ := hh
  unfold eqV at q
  cases h0 : eqW s 40 a b with
  | none => rw [h0] at q; exact False.elim q
  | some c =>
    rw [h0] at q
    have fin : EP X pins σ Q (.bool c) sh := ⟨.bl c, H, I, rfl, q.at m mBl⟩
    have h := h0
    unfold eqW at h
    split at h
    · rename_i d e h1 h2
      cases h
      obtain ⟨as, q1⟩ := reads_of I m 12 h1 ra rx
      obtain ⟨bs, q2⟩ := reads_of I m 12 h2 rb ry
      obtain ⟨p1, p2⟩ := toD_plain 12 h1
      obtain ⟨p3, p4⟩ := toD_plain 12 h2
      exact SeqAt.eq_plain q1 q2 p1 p3 (by omega) fin
    · split at h
      · rename_i l l'
        split at h
        · rename_i hl
          obtain ⟨p, xs, rfl, t1, l1⟩ := rTup ra
          obtain ⟨p', ys, rfl, t2, l2⟩ := rTup rb
          cases (show v = Value.ref p from rx)
          cases (show u = Value.ref p' from ry)
          obtain ⟨i1, v1, q1, _⟩ := I.tuple t1.sq
          obtain ⟨i2, v2, q2, _⟩ := I.tuple t2.sq
          obtain ⟨z, e, z1, z2⟩ := eqW_items I (fun g => eqW_tree I m 39 g) l1 l2 v1 v2 hl h
          refine PySem.W.eq_tuplesT q1 q2 z1 (by omega) ?_
          have e2 : ((List.range (min i1.toArray.size i2.toArray.size)).all e && i1.toArray.size == i2.toArray.size) = c := by
            rw [z2]
            simp [z]
          rw [e2]
          exact fin
        · cases h
      · split at h
        · rename_i xs ys e1 e2
          obtain ⟨p, as, rfl, k1, l1⟩ := m.ls ra e1
          obtain ⟨p', bs, rfl, k2, l2⟩ := m.ls rb e2
          obtain ⟨i1, v1, q1, _⟩ := I.list (.inl (.inl k1) : SqL X.K H _ as)
          obtain ⟨i2, v2, q2, _⟩ := I.list (.inl (.inl k2) : SqL X.K H _ bs)
          split at h
          · rename_i e
            revert e
            cases a <;> cases b <;> intro e <;> first | (cases e; done) | skip
            obtain ⟨h1, z1⟩ := rRef ra
            obtain ⟨h2, z2⟩ := rRef rb
            have e := of_decide_eq_true e
            subst e
            injection z1 with z1
            injection z2 with z2
            subst z1 z2
            cases (show v = Value.ref _ from rx)
            cases (show u = Value.ref _ from ry)
            cases h
            refine PySem.W.eq_listsT (n := 10) (e := fun _ => true) q1.isList q1.isList rfl (fun j j1 j2 => .same) (by omega) ?_
            rw [show ((List.range i1.toArray.size).all fun _ => true) = true from List.all_eq_true.mpr fun _ _ => rfl]
            exact fin
          · cases (show v = Value.ref _ from rx)
            cases (show u = Value.ref _ from ry)
            split at h
            · rename_i hl
              obtain ⟨z, e', z1, z2⟩ := eqW_items I (fun g => eqW_tree I m 39 g) l1 l2 v1 v2 hl h
              refine PySem.W.eq_listsT q1.isList q2.isList (by simpa using z) z1 (by omega) ?_
              rw [← z2]
              exact fin
            · rename_i hl
              cases h
              have k1 : i1.length = xs.length := by rw [← v1.length, l1.len]
              have k2 : i2.length = ys.length := by rw [← v2.length, l2.len]
              exact SeqAt.RcAt.lists_lengths q1.isList q2.isList (by simp only [List.size_toArray, bne_iff_ne, ne_eq]; omega) (by omega) _ _ _ _ fin
        · split at h
          · rename_i ks ls e1 e2
            obtain ⟨p, kvs, va, rfl, k1, k2, k3, k4, k5⟩ := dc_of I m ra e1
            obtain ⟨p', lvs, vb, rfl, j1, j2, j3, j4, j5⟩ := dc_of I m rb e2
            split at h
            · rename_i e
              revert e
              cases a <;> cases b <;> intro e <;> first | (cases e; done) | skip
              obtain ⟨h1, z1⟩ := rRef ra
              obtain ⟨h2, z2⟩ := rRef rb
              have e := of_decide_eq_true e
              subst e
              injection z1 with z1
              injection z2 with z2
              subst z1 z2
              cases (show v = Value.ref _ from rx)
              cases (show u = Value.ref _ from ry)
              cases h
              refine PySem.W.eq_dictsT (n := 10) (e := fun _ => true) k3 k3 k4 k4 (fun k v y g1 g2 => ?_) (by omega) ?_
              · rw [valueAt_of_mem k5 g1] at g2
                cases g2
                exact .same
              · have : (va.length == va.length && va.all fun p => (valueAt va p.1).isSome && true) = true := by
                  simp only [beq_self_eq_true, Bool.true_and, Bool.and_true]
                  refine List.all_eq_true.mpr fun p hp => ?_
                  rw [valueAt_of_mem k5 (k := p.1) (v := p.2) hp]; rfl
                rw [this]
                exact fin
            · cases (show v = Value.ref _ from rx)
              cases (show u = Value.ref _ from ry)
              obtain ⟨c', h', rfl⟩ := Option.map_eq_some_iff.mp h
              obtain ⟨e', z1, z2⟩ := eqW_dicts (fun g => eqW_tree I m 39 g) k1 j1 k2 j2 k5 h'
              refine PySem.W.eq_dictsT k3 j3 k4 j4 z1 (by omega) ?_
              rw [← z2]
              exact fin
          · cases h
end
end RS
set_option Elab.async false
set_option linter.all false
set_option maxRecDepth 100000
set_option maxHeartbeats 1000000
set_option autoImplicit false
/-! RS.C21: != and in, of any values. -/
namespace RS
open PySem PySem.Spec PyProof.Rows L2

theorem toD_tup {s : S} {n : Nat} {l : List W} {ds : List PyData} (h : toDs s n l = some ds) : toD s (n + 1) (.tup l) = some (.tuple ds) := by
  show (toDs s n l).map PyData.tuple = _
  rw [h]; rfl
theorem toD_lst {s : S} {n : Nat} {l : List W} {ds : List PyData} (h : toDs s n l = some ds) : toD s (n + 1) (.lst l) = some (.list ds) := by
  show (toDs s n l).map PyData.list = _
  rw [h]; rfl
theorem toD_ref {s : S} {n p : Nat} {l : List W} {ds : List PyData} (e : s.at_ p = some (.lst l)) (h : toDs s n l = some ds) : toD s (n + 1) (.ref p) = some (.list ds) := by
  have : toD s (n + 1) (.ref p) = (toDs s n l).map PyData.list := by
    rw [toD, e]; rfl
  rw [this, h]; rfl
def eqD (s : S) (a b : W) : Option Bool := match toD s 12 a, toD s 12 b with
  | some x, some y => some (PyData.eqv x y)
  | _, _ => none
def eqDs (s : S) (ks ls : List (W × W)) : Option Bool := allO (ks.map fun kv => match dget ks kv.1, dget ls kv.1 with
  | some w, some u => eqD s w u
  | _, _ => some false)
def neV (a b : W) : M W := fun s => match eqD s a b with
  | some c => .ok (.bl (!c)) s
  | none => match dcW s a, dcW s b with
    | some ks, some ls => match eqDs s ks ls with
      | some c => .ok (.bl (!(decide (ks.length = ls.length) && c))) s
      | none => .bad
    | _, _ => .bad
def inW (neg : Bool) (k d : W) : M W := fun s => match d with
  | .ref a => match s.at_ a with
    | some (.dct l) => if isKey k = true then .ok (.bl (if neg then !(dhas l k) else dhas l k)) s else .bad
    | some (.lst l) => match toDs s 12 l, toD s 12 k with
      | some ds, some d => .ok (.bl (if neg then !(ds.any fun y => PyData.eqv y d) else ds.any fun y => PyData.eqv y d)) s
      | _, _ => .bad
    | _ => .bad
  | .tup l => match toDs s 12 l, toD s 12 k with
    | some ds, some d => .ok (.bl (if neg then !(ds.any fun y => PyData.eqv y d) else ds.any fun y => PyData.eqv y d)) s
    | _, _ => .bad
  | .lst l => match toDs s 12 l, toD s 12 k with
    | some ds, some d => .ok (.bl (if neg then !(ds.any fun y => PyData.eqv y d) else ds.any fun y => PyData.eqv y d)) s
    | _, _ => .bad
  | .dct ks vs => if isKey k = true then .ok (.bl (if neg then !(dhas (List.zip (ks.map kW) vs) k) else dhas (List.zip (ks.map kW) vs) k)) s else .bad
  | _ => .bad
theorem hits_of {A : Around} {sh : Shared} {vb : List (Key × Value)} {e : Key → Bool} : ∀ {l : List (Key × Value)}, (∀ k v y, (k, v) ∈ l → valueAt vb k = some y → SeqAt.EqAt A sh v y (e k)) → PySem.W.KeqHits A sh vb l (l.all fun p => (valueAt vb p.1).isSome && e p.1)
  | [], _ => .nil
  | (k, v) :: l, h => by
    rw [List.all_cons]
    cases g : valueAt vb k with
    | none =>
      simp only [g, Option.isSome, Bool.false_and]
      exact .miss g
    | some y =>
      simp only [g, Option.isSome, Bool.true_and]
      exact .hit g (h k v y List.mem_cons_self g) (hits_of fun k v y g1 g2 => h k v y (List.mem_cons_of_mem _ g1) g2)
section
variable {T : List NdefX.NTab} {X : Cx} {pos : Pos}
theorem eqD_at {pins : List (Addr × Obj)} {σ : L2.St} {H : Hp} {sh : Shared} {r : Rm} {s : S} (I : Inv X pins σ H sh) (m : Mt T X.K X.mg r s H) {a b : W} {x y : V} {v u : Value} {c : Bool} (h : eqD s a b = some c) (ra : RelW X.K r s.nx H a x) (rb : RelW X.K r s.nx H b y) (rx : L2.RelV x v) (ry : L2.RelV y u)
    (A : Around) (hu : A.units + 12 < cLine) : SeqAt.EqAt A sh v u c := by
  unfold eqD at h
  split at h
  · rename_i d e h1 h2
    cases h
    obtain ⟨as, q1⟩ := reads_of I m 12 h1 ra rx
    obtain ⟨bs, q2⟩ := reads_of I m 12 h2 rb ry
    obtain ⟨p1, p2⟩ := toD_plain 12 h1
    obtain ⟨p3, p4⟩ := toD_plain 12 h2
    exact SeqAt.eqAt_plain d e A sh v u as bs q1 q2 p1 p3 (by omega)
  · cases h
theorem ow_ne (hu : X.A.units + 60 < cLine) : OpW T X (compareOp .NotEq) neV := fun Wx tk pins sh σ H x y v u Q I rx ry hh => by
  obtain ⟨r, s, a, b, m, ra, rb, q⟩ := hh
  unfold neV at q
  split at q
  · rename_i c h
    unfold eqD at h
    split at h
    · rename_i d e h1 h2
      cases h
      obtain ⟨as, q1⟩ := reads_of I m 12 h1 ra rx
      obtain ⟨bs, q2⟩ := reads_of I m 12 h2 rb ry
      obtain ⟨p1, p2⟩ := toD_plain 12 h1
      obtain ⟨p3, p4⟩ := toD_plain 12 h2
      exact SeqAt.ne_plain q1 q2 p1 p3 (by omega) ⟨.bl _, H, I, rfl, q.at m mBl⟩
    · cases h
  · split at q
    · rename_i ks ls e1 e2
      split at q
      · rename_i c hc
        obtain ⟨p, kvs, va, rfl, k1, k2, k3, k4, k5⟩ := dc_of I m ra e1
        obtain ⟨p', lvs, vb, rfl, j1, j2, j3, j4, j5⟩ := dc_of I m rb e2
        cases (show v = Value.ref _ from rx)
        cases (show u = Value.ref _ from ry)
        obtain ⟨e', z1, z2⟩ := eqW_dicts (P := fun v y c => SeqAt.EqAt X.A.in1 sh v y c) (F := eqD s) (fun g r1 r2 v1 v2 => eqD_at I m g r1 r2 v1 v2 _ (by show X.A.units + 1 + 12 < cLine; omega)) k1 j1 k2 j2 k5 hc
        refine PySem.W.keq_ne (knd := mixKind X.prog X.w) k3 j3 k4 j4 (by omega) (fun _ => hits_of z1) ?_
        rw [← z2]
        exact ⟨.bl _, H, I, rfl, q.at m mBl⟩
      · exact False.elim q
    · exact False.elim q
theorem in_list {neg : Bool} {op : CmpOp} (ho : op = (if neg then .NotIn else .In)) (hu : X.A.units + 60 < cLine) {pins : List (Addr × Obj)} {σ : L2.St} {H : Hp} {sh : Shared} {r : Rm} {s : S} {Wx : Wish} {Q : VK} (I : Inv X pins σ H sh) (m : Mt T X.K X.mg r s H) {a b : W} {x y : V} {v u : Value} (ra : RelW X.K r s.nx H a x)
    (rb : RelW X.K r s.nx H b y) (rx : L2.RelV x v) (ry : L2.RelV y u) (q : PostE T X.K X.mg r s H (inW neg a b s) Q Wx) (hn : dcW s b = none) {E : Value → Shared → Prop} : wpAny (model X.prog X.w) X.A (compareOp op v u) (EP X pins σ Q) E sh := by
  unfold inW at q
  split at q
  · rename_i p
    split at q
    · rename_i l e
      simp only [dcW, e] at hn
      cases hn
    · rename_i l e
      split at q
      · rename_i ds d h1 h2
        obtain ⟨as, q2⟩ := reads_of I m 12 h2 ra rx
        have h3 : toD s 13 (.ref p) = some (.list ds) := toD_ref e h1
        obtain ⟨bs, q1⟩ := reads_of I m 13 h3 rb ry
        obtain ⟨p1, p2⟩ := toD_plain 12 h2
        obtain ⟨p3, p4⟩ := toDs_plain h1
        cases neg
        · subst ho
          exact SeqAt.in_list_data q1 q2 p3 p1 (by omega) ⟨.bl _, H, I, rfl, q.at m mBl⟩
        · subst ho
          exact SeqAt.notIn_list_data q1 q2 p3 p1 (by omega) ⟨.bl _, H, I, rfl, q.at m mBl⟩
      · exact False.elim q
    · exact False.elim q
  · rename_i l
    split at q
    · rename_i ds d h1 h2
      obtain ⟨as, q2⟩ := reads_of I m 12 h2 ra rx
      have h3 : toD s 13 (.tup l) = some (.tuple ds) := toD_tup h1
      obtain ⟨bs, q1⟩ := reads_of I m 13 h3 rb ry
      obtain ⟨p1, p2⟩ := toD_plain 12 h2
      obtain ⟨p3, p4⟩ := toDs_plain h1
      cases neg
      · subst ho
        exact SeqAt.in_tuple_data q1 q2 p3 p1 (by omega) ⟨.bl _, H, I, rfl, q.at m mBl⟩
      · subst ho
        exact SeqAt.notIn_tuple_data q1 q2 p3 p1 (by omega) ⟨.bl _, H, I, rfl, q.at m mBl⟩
    · exact False.elim q
  · rename_i l
    split at q
    · rename_i ds d h1 h2
      obtain ⟨as, q2⟩ := reads_of I m 12 h2 ra rx
      have h3 : toD s 13 (.lst l) = some (.list ds) := toD_lst h1
      obtain ⟨bs, q1⟩ := reads_of I m 13 h3 rb ry
      obtain ⟨p1, p2⟩ := toD_plain 12 h2
      obtain ⟨p3, p4⟩ := toDs_plain h1
      cases neg
      · subst ho
        exact SeqAt.in_list_data q1 q2 p3 p1 (by omega) ⟨.bl _, H, I, rfl, q.at m mBl⟩
      · subst ho
        exact SeqAt.notIn_list_data q1 q2 p3 p1 (by omega) ⟨.bl _, H, I, rfl, q.at m mBl⟩
    · exact False.elim q
  · cases hn
  · exact False.elim q
theorem ow_in (hu : X.A.units + 60 < cLine) : OpW T X (compareOp .In) (inW false) := fun Wx tk pins sh σ H x y v u Q I rx ry hh => by
  obtain ⟨r, s, a, b, m, ra, rb, q⟩ := hh
  cases hd : dcW s b with
  | some l =>
    refine ow_inD (by omega) Wx tk pins sh σ H x y v u Q I rx ry ⟨r, s, a, _, m, ra, rb, ?_⟩
    cases b <;> first | (cases hd; done) | skip
    · simp only [dcW] at hd
      split at hd
      · rename_i l2 e2
        simpa [inW, inDV, dcW, e2] using q
      · cases hd
    · exact q
  | none => exact in_list rfl hu I m ra rb rx ry q hd
theorem ow_notIn (hu : X.A.units + 60 < cLine) : OpW T X (compareOp .NotIn) (inW true) := fun Wx tk pins sh σ H x y v u Q I rx ry hh => by
  obtain ⟨r, s, a, b, m, ra, rb, q⟩ := hh
  cases hd : dcW s b with
  | some l =>
    refine ow_notInD (by omega) Wx tk pins sh σ H x y v u Q I rx ry ⟨r, s, a, _, m, ra, rb, ?_⟩
    cases b <;> first | (cases hd; done) | skip
    · simp only [dcW] at hd
      split at hd
      · rename_i l2 e2
        simpa [inW, inDV, dcW, e2] using q
      · cases hd
    · exact q
  | none => exact in_list rfl hu I m ra rb rx ry q hd
end
end RS
set_option Elab.async false
set_option linter.all false
set_option maxRecDepth 100000
set_option maxHeartbeats 1000000
set_option autoImplicit false
/-! RS.C22: calls of built-in functions and types. -/
namespace RS
open PySem PySem.Spec PyProof.Rows L2

def eBt (g : List W → M W) (ms : Es) : E := fun ρ s => (ms ρ s).bind g
def CallW (T : List NdefX.NTab) (X : Cx) (f : Value) (g : List W → M W) : Prop := ∀ Wx, Tk X Wx → CallR X f fun xs H Q => ∃ r s ws, Mt T X.K X.mg r s H ∧ RelWs X.K r s.nx H ws xs ∧ PostE T X.K X.mg r s H (g ws s) Q Wx
section
variable {T : List NdefX.NTab} {X : Cx} {pos : Pos} {x : Str} {p : Pos} {e : Expr} {es : List Expr} {ms : Es} {id ty : String} {g : List W → M W}
theorem rd_bt {Wx : Wish} {f : Value} {σ : L2.St} {H : Hp} {Q : VK} (h : rdE T X (eBt g ms) Wx σ H Q) : rdA T X ms Wx σ H fun vs H1 => ∃ r s ws, Mt T X.K X.mg r s H1 ∧ RelWs X.K r s.nx H1 ws vs ∧ PostE T X.K X.mg r s H1 (g ws s) Q Wx := by
  obtain ⟨r, ρ, s, mm, q⟩ := h
  unfold eBt at q
  refine rdA.go mm (fun ws s1 e1 r1 H1 vs p1 l1 m1 => ?_) (fun c s1 e1 r1 H1 p1 => ?_) (fun e1 => ?_)
  · rw [e1] at q
    exact ⟨r1, s1, ws, m1.mt, l1, PostE.shift q p1⟩
  · rw [e1] at q; exact q r1 H1 p1
  · rw [e1] at q; exact q
theorem rs_bt (hc : CallW T X (.builtin id) g) (hm : X.mg x = none) (hv : bootBuiltins x = some (.builtin id)) (ha : RA T X (e :: es) ms) (hg : Gl X x := by rfl) (hn : x ≠ "__name__" := by decide) (hdb : (x == ("__debug__" : Str)) = false := by decide)
    (he : starEach (e :: es) X.env = (false, eval e X.env) :: starEach es X.env := by rfl) (hpl : (backTo pos (starEach es X.env)).any (·.1) = false := by rfl) : RE T X (.Call (.Name x p) (e :: es) [] pos) (eBt g ms) := fun Wx tk =>
  (pe_callB (hc Wx tk) hg hm hv (ha Wx tk) hn hdb he hpl).imp fun σ H Q h => rd_bt (f := .builtin id) h
theorem rs_ty (hc : CallW T X (.type ty) g) (hm : X.mg x = none) (hv : bootBuiltins x = some (.type ty)) (ha : RA T X (e :: es) ms) (hg : Gl X x := by rfl) (hn : x ≠ "__name__" := by decide) (hdb : (x == ("__debug__" : Str)) = false := by decide)
    (he : starEach (e :: es) X.env = (false, eval e X.env) :: starEach es X.env := by rfl) (hpl : (backTo pos (starEach es X.env)).any (·.1) = false := by rfl) : RE T X (.Call (.Name x p) (e :: es) [] pos) (eBt g ms) := fun Wx tk =>
  (pe_callTy (hc Wx tk) hg hm hv (ha Wx tk) hn hdb he hpl).imp fun σ H Q h => rd_bt (f := .type ty) h
end

/-! ### the functions -/
def fLen : List W → M W := fun ws s => match ws with
  | [.str x] => if x.length ≤ sizeLine then .ok (.int x.length) s else .bad
  | [.tup l] => .ok (.int l.length) s
  | [.lst l] => .ok (.int l.length) s
  | [.dct ks l] => .ok (.int (List.zip (ks.map kW) l).length) s
  | [.ref a] => match s.at_ a with
    | some (.lst l) => .ok (.int l.length) s
    | some (.dct l) => .ok (.int l.length) s
    | _ => .bad
  | _ => .bad
def fAbs : List W → M W := fun ws s => match ws with
  | [.int i] => .ok (.int (if i < 0 then -i else i)) s
  | _ => .bad
def fInt : List W → M W := fun ws s => match ws with
  | [.int i] => .ok (.int i) s
  | [.bl b] => .ok (.int (if b then 1 else 0)) s
  | [.str a] => match PySem.intText? a with
    | some n => if a.length ≤ 640 then .ok (.int n) s else .bad
    | none => .bad
  | _ => .bad
def fStr : List W → M W := fun ws s => match ws with
  | [.int i] => if i.natAbs.log2 < 1920 then .ok (.str (toString i)) s else .bad
  | [.str a] => .ok (.str a) s
  | _ => .bad
def fList (v : Bool) : List W → M W := fun ws s => match ws with
  | [.tup l] => mkL v l s
  | [.lst l] => mkL v l s
  | [.dct ks l] => mkL v ((List.zip (ks.map kW) l).map (·.1)) s
  | [.ref a] => match s.at_ a with
    | some (.lst l) => mkL v l s
    | some (.dct l) => mkL v (l.map (·.1)) s
    | _ => .bad
  | _ => .bad
def fTuple : List W → M W := fun ws s => match ws with
  | [.tup l] => .ok (.tup l) s
  | [.lst l] => .ok (.tup l) s
  | [.ref a] => match s.at_ a with
    | some (.lst l) => .ok (.tup l) s
    | _ => .bad
  | _ => .bad
section
variable {T : List NdefX.NTab} {X : Cx}
theorem cw_len : CallW T X (.builtin "len") fLen := fun Wx tk pins sh σ H xs us Q I rv h => by
  obtain ⟨r, s, ws, m, l, q⟩ := h
  unfold fLen at q
  split at q
  · rename_i x
    obtain ⟨v, rfl, hv⟩ := l.one
    obtain rfl := rStr hv
    split at q
    · rename_i hz
      exact call_len_str pins sh σ H _ us Q I rv ⟨_, rfl, hz, q.at m mInt⟩
    · exact False.elim q
  · rename_i l'
    obtain ⟨v, rfl, hv⟩ := l.one
    obtain ⟨p, ys, rfl, t1, l1⟩ := rTup hv
    refine call_len_seq pins sh σ H _ us Q I rv ⟨_, _, rfl, .inr t1.sq, ?_⟩
    rw [← l1.len]
    exact q.at m mInt
  · rename_i l'
    obtain ⟨v, rfl, hv⟩ := l.one
    obtain ⟨p, ys, rfl, _, h1, l1⟩ := rLst hv
    refine call_len_seq pins sh σ H _ us Q I rv ⟨_, _, rfl, .inl (.inl (.inl h1)), ?_⟩
    rw [← l1.len]
    exact q.at m mInt
  · obtain ⟨v, rfl, hv⟩ := l.one
    obtain ⟨p, kvs, rfl, h1, l1⟩ := m.dc hv (by rfl)
    obtain rfl := Vals.ref1 rv
    refine d_len I h1 fun t s' I' => ⟨.int kvs.length, H, I', ⟨t, rfl⟩, ?_⟩
    rw [← l1.len]
    exact q.at m mInt
  · rename_i a
    obtain ⟨v, rfl, hv⟩ := l.one
    obtain ⟨ha, rfl⟩ := rRef hv
    split at q
    · rename_i l' e
      obtain ⟨_, ys, h1, l1⟩ := m.lst e
      refine call_len_seq pins sh σ H _ us Q I rv ⟨_, _, rfl, .inl (.inl (.inl h1)), ?_⟩
      rw [← l1.len]
      exact q.at m mInt
    · rename_i l' e
      obtain ⟨_, kvs, h1, _, _, l1⟩ := m.dct e
      obtain rfl := Vals.ref1 rv
      refine d_len I h1 fun t s' I' => ⟨.int kvs.length, H, I', ⟨t, rfl⟩, ?_⟩
      rw [← l1.len]
      exact q.at m mInt
    · exact False.elim q
  · exact False.elim q
theorem cw_abs : CallW T X (.builtin "abs") fAbs := fun Wx tk pins sh σ H xs us Q I rv h => by
  obtain ⟨r, s, ws, m, l, q⟩ := h
  unfold fAbs at q
  split at q
  · obtain ⟨v, rfl, hv⟩ := l.one
    obtain rfl := rInt hv
    exact call_abs pins sh σ H _ us Q I rv ⟨_, rfl, q.at m mInt⟩
  · exact False.elim q
theorem cw_int : CallW T X (.type "int") fInt := fun Wx tk pins sh σ H xs us Q I rv h => by
  obtain ⟨r, s, ws, m, l, q⟩ := h
  unfold fInt at q
  split at q
  · obtain ⟨v, rfl, hv⟩ := l.one
    obtain rfl := rInt hv
    exact call_int1 pins sh σ H _ us Q I rv (.inl ⟨_, rfl, q.at m mInt⟩)
  · obtain ⟨v, rfl, hv⟩ := l.one
    obtain rfl := rBl hv
    exact call_int1 pins sh σ H _ us Q I rv (.inr ⟨_, rfl, q.at m mInt⟩)
  · obtain ⟨v, rfl, hv⟩ := l.one
    obtain rfl := rStr hv
    split at q
    · rename_i n e
      split at q
      · rename_i hz
        exact call_int_str pins sh σ H _ us Q I rv ⟨_, _, rfl, e, hz, q.at m mInt⟩
      · exact False.elim q
    · exact False.elim q
  · exact False.elim q
theorem cw_str : CallW T X (.type "str") fStr := fun Wx tk pins sh σ H xs us Q I rv h => by
  obtain ⟨r, s, ws, m, l, q⟩ := h
  unfold fStr at q
  split at q
  · obtain ⟨v, rfl, hv⟩ := l.one
    obtain rfl := rInt hv
    split at q
    · rename_i hz
      exact call_str_int pins sh σ H _ us Q I rv ⟨_, rfl, hz, q.at m mStr⟩
    · exact False.elim q
  · obtain ⟨v, rfl, hv⟩ := l.one
    obtain rfl := rStr hv
    exact SkE.call_str_str pins sh σ H _ us Q I rv ⟨_, rfl, q.at m mStr⟩
  · exact False.elim q
theorem RelWs.keys {K : PySem.W.Frag} {r : Rm} {n : Nat} {H : Hp} {l : List (W × W)} {kvs : List (Key × V)} (h : RKV K r n H l kvs) : RelWs K r n H (l.map (·.1)) (kvs.map fun kv => kV kv.1) := by
  induction h with
  | nil => unfold RelWs; rfl
  | cons a _ ih =>
    rw [List.map_cons, List.map_cons]
    unfold RelWs
    refine ⟨_, _, rfl, ?_, ih⟩
    rw [a.1]
    rename_i p q _ _ _
    cases q.1 <;> (unfold kW RelW; rfl)
theorem cw_list {vr : Bool} (hc : X.calm = true) : CallW T X (.type "list") (fList vr) := fun Wx tk pins sh σ H xs us Q I rv h => by
  obtain ⟨r, s, ws, m, l, q⟩ := h
  unfold fList at q
  split at q
  · obtain ⟨v, rfl, hv⟩ := l.one
    obtain ⟨p, ys, rfl, t1, l1⟩ := rTup hv
    exact call_list_of pins sh σ H _ us Q I rv ⟨_, _, rfl, .inr t1.sq, PostE.lst m q l1⟩
  · obtain ⟨v, rfl, hv⟩ := l.one
    obtain ⟨p, ys, rfl, _, h1, l1⟩ := rLst hv
    exact call_list_of pins sh σ H _ us Q I rv ⟨_, _, rfl, .inl (.inl (.inl h1)), PostE.lst m q l1⟩
  · obtain ⟨v, rfl, hv⟩ := l.one
    obtain ⟨p, kvs, rfl, h1, l1⟩ := m.dc hv (by rfl)
    exact call_listD hc pins sh σ H _ us Q I rv ⟨_, _, rfl, h1, PostE.lst m q (RelWs.keys l1)⟩
  · obtain ⟨v, rfl, hv⟩ := l.one
    obtain ⟨ha, rfl⟩ := rRef hv
    split at q
    · rename_i l' e
      obtain ⟨_, ys, h1, l1⟩ := m.lst e
      exact call_list_of pins sh σ H _ us Q I rv ⟨_, _, rfl, .inl (.inl (.inl h1)), PostE.lst m q l1⟩
    · rename_i l' e
      obtain ⟨_, kvs, h1, _, _, l1⟩ := m.dct e
      exact call_listD hc pins sh σ H _ us Q I rv ⟨_, _, rfl, h1, PostE.lst m q (RelWs.keys l1)⟩
    · exact False.elim q
  · exact False.elim q
theorem cw_tuple : CallW T X (.type "tuple") fTuple := fun Wx tk pins sh σ H xs us Q I rv h => by
  obtain ⟨r, s, ws, m, l, q⟩ := h
  unfold fTuple at q
  split at q
  · obtain ⟨v, rfl, hv⟩ := l.one
    obtain ⟨p, ys, rfl, t1, l1⟩ := rTup hv
    exact call_tuple_of pins sh σ H _ us Q I rv ⟨_, _, rfl, .inr ⟨t1.sq, q.at m hv⟩⟩
  · obtain ⟨v, rfl, hv⟩ := l.one
    obtain ⟨p, ys, rfl, _, h1, l1⟩ := rLst hv
    exact call_tuple_of pins sh σ H _ us Q I rv ⟨_, _, rfl, .inl ⟨.inl (.inl h1), PostE.tup m q l1⟩⟩
  · obtain ⟨v, rfl, hv⟩ := l.one
    obtain ⟨ha, rfl⟩ := rRef hv
    split at q
    · rename_i l' e
      obtain ⟨_, ys, h1, l1⟩ := m.lst e
      exact call_tuple_of pins sh σ H _ us Q I rv ⟨_, _, rfl, .inl ⟨.inl (.inl h1), PostE.tup m q l1⟩⟩
    · exact False.elim q
  · exact False.elim q
end
end RS
set_option Elab.async false
set_option linter.all false
set_option maxRecDepth 100000
set_option maxHeartbeats 1000000
set_option autoImplicit false
/-! RS.C22b: min of four. -/
namespace RS
open PySem PySem.Spec PyProof.Rows L2

def min4 (a b c d : Int) : Int := if d < (if c < (if b < a then b else a) then c else (if b < a then b else a)) then d else (if c < (if b < a then b else a) then c else (if b < a then b else a))
section
variable {prog : Program} {w : World} {A : Around} {E : Value → Shared → Prop} {s : Shared}
theorem args_min4 (a b c d : Value) : argsOk "min" ⟨[a, b, c, d], []⟩ := by unfold argsOk; kernel_rfl
theorem call_min_four {a b c d : Value} {Q : Value → Shared → Prop}
    (h : wpAny (model prog w) A.in1 (pyIter (.ref s.heap.objs.size)) (fun it s₂ => ∃ I fp wr n P St bt, it = .ref I ∧ Walks prog w A.in1 I fp wr n P St ∧ St 0 s₂.heap ∧ (∀ b ∈ fp, b < s₂.heap.objs.size) ∧ 0 < n ∧ CmpOf prog w A.in1 .Lt P bt ∧
      ∀ v h' tk, P (argBest bt (n - 1)) v → (∀ b o, b ∉ wr → s₂.heap.get? b = some o → h'.get? b = some o) → Q v { s₂ with heap := h', toks := tk }) E
      { s with heap := s.heap.push { cls := .type "tuple", data := .seq #[a, b, c, d] } }) :
    wpAny (model prog w) A (call (.builtin "min") [a, b, c, d]) Q E s := by
  have hname : (toString "min" ++ toString ".loop" : String) = "min.loop" := by decide
  refine PySem.call_function_tree PySem.F.kind_min PySem.F.plain_min PySem.F.entry_min (args_min4 _ _ _ _) ?_
  show wpAny _ A.in1 (Builtin.Builtins.bindParams "min" ["key", "default"] 0 ⟨[], []⟩ >>= _) _ _ s
  refine wpAny_bind (wpAny_of_eq (show Builtin.Builtins.bindParams "min" ["key", "default"] 0 ⟨[], []⟩ = pure [none, none] from rfl) ?_)
  show wpAny _ A.in1 (newTuple [a, b, c, d] >>= _) _ _ s
  refine wpAny_bind (wpAny_newObj_type ?_)
  refine wpAny_bind (wpAny_mono h (fun it s₂ h₂ => ?_) fun _ _ e => e)
  obtain ⟨I, fp, wr, n, P, St, bt, rfl, W, hst, hfp, hn, hcmp, hQ⟩ := h₂
  refine wpAny_bind (wpAny_newObj_type ?_)
  have hSf : s₂.heap.objs.size ∉ fp := fun hm => Nat.lt_irrefl _ (hfp _ hm)
  rw [hname]
  refine wpAny_pure ⟨PySem.plainId_quiet PySem.F.plain_min_loop _, codeAny_min_loop_first W bt hcmp s₂.heap.objs.size hSf hn (W.frame _ _ _ hst fun b _ o e => Heap.get?_push_of_some _ e) (Heap.get?_push_size _ rfl) fun v h' tk hP hk => ?_⟩
  exact hQ v h' tk hP fun b o hbw e => hk b o hbw (Nat.ne_of_lt (Heap.lt_size e)) (Heap.get?_push_of_some _ e)
theorem min_four_ints {a b c d : Int} {t u x y : Tok} {Q : Value → Shared → Prop} (hh : A.handled = none)
    (h : ∀ h' tk z, (∀ d o, s.heap.get? d = some o → h'.get? d = some o) → Q (.int (min4 a b c d) z) { s with heap := h', toks := tk }) :
    wpAny (model prog w) A (call (.builtin "min") [.int a t, .int b u, .int c x, .int d y]) Q E s := by
  have hT : (s.heap.push { cls := .type "tuple", data := .seq #[.int a t, .int b u, .int c x, .int d y] }).IsTuple s.heap.objs.size (intItems #[(a, t), (b, u), (c, x), (d, y)]) := ⟨_, Heap.get?_push_size _ rfl, rfl, 0, by simp [intItems]⟩
  refine call_min_four (wpAny_pyIter_tuple hT ?_)
  have hsz : (s.heap.push { cls := .type "tuple", data := .seq #[.int a t, .int b u, .int c x, .int d y] }).objs.size = s.heap.objs.size + 1 := Heap.size_push ..
  refine ⟨_, [_, s.heap.objs.size], [_], _, _, _, _, rfl, Walks.tuple (A := A.in1) hh _ s.heap.objs.size (by rw [hsz]; exact Nat.ne_of_lt (Nat.lt_succ_self _)) (intItems #[(a, t), (b, u), (c, x), (d, y)]),
    ⟨⟨_, Heap.get?_push_size _ rfl, rfl, rfl⟩, hT.push _⟩, fun d hd => ?_, by simp [intItems], CmpOf.ints_lt (numAt #[(a, t), (b, u), (c, x), (d, y)]) (fun _ _ => intItems_at), fun v h' tk hP hk => ?_⟩
  · show d < ((s.heap.push _).push _).objs.size
    rw [Heap.size_push, hsz]
    rcases List.mem_cons.mp hd with rfl | hd
    · rw [hsz]; exact Nat.lt_succ_self _
    · rcases List.mem_cons.mp hd with rfl | hd
      · exact Nat.lt_succ_of_lt (Nat.lt_succ_self _)
      · cases hd
  · have hold : ∀ d o, s.heap.get? d = some o → h'.get? d = some o := fun d o e => by
      refine hk d o (fun hm => ?_) (Heap.get?_push_of_some _ (Heap.get?_push_of_some _ e))
      rcases List.mem_cons.mp hm with e1 | hm
      · have := Heap.lt_size e; rw [e1, hsz] at this; exact Nat.lt_irrefl _ (Nat.lt_of_succ_lt this)
      · cases hm
    have hv : ∃ z, v = Value.int (min4 a b c d) z := by
      obtain ⟨z, rfl⟩ := intItems_at hP
      refine ⟨z, congrArg (fun n => Value.int n z) ?_⟩
      have hsz2 : (intItems #[(a, t), (b, u), (c, x), (d, y)]).size - 1 = 3 := by simp [intItems]
      rw [hsz2]
      have e1 : argBest (fun i j => decide (numAt #[(a, t), (b, u), (c, x), (d, y)] i < numAt #[(a, t), (b, u), (c, x), (d, y)] j)) 1 = if b < a then 1 else 0 := by
        simp [argBest, numAt]
      have n1 : numAt #[(a, t), (b, u), (c, x), (d, y)] (if b < a then 1 else 0) = if b < a then b else a := by split <;> simp [numAt]
      have e2 : argBest (fun i j => decide (numAt #[(a, t), (b, u), (c, x), (d, y)] i < numAt #[(a, t), (b, u), (c, x), (d, y)] j)) 2 = if c < (if b < a then b else a) then 2 else (if b < a then 1 else 0) := by
        rw [argBest, e1, n1]
        simp [numAt]
      have n2 : numAt #[(a, t), (b, u), (c, x), (d, y)] (if c < (if b < a then b else a) then 2 else (if b < a then 1 else 0)) = if c < (if b < a then b else a) then c else (if b < a then b else a) := by
        by_cases h2 : c < (if b < a then b else a)
        · rw [if_pos h2, if_pos h2]; simp [numAt]
        · rw [if_neg h2, if_neg h2]; exact n1
      rw [argBest, e2, n2]
      unfold min4
      by_cases hd : d < (if c < (if b < a then b else a) then c else (if b < a then b else a))
      · have e3 : decide (numAt #[(a, t), (b, u), (c, x), (d, y)] (2 + 1) < (if c < (if b < a then b else a) then c else (if b < a then b else a))) = true := decide_eq_true (by show numAt #[(a, t), (b, u), (c, x), (d, y)] 3 < _; simpa [numAt] using hd)
        rw [if_pos e3, if_pos hd]; simp [numAt]
      · have e3 : ¬ decide (numAt #[(a, t), (b, u), (c, x), (d, y)] (2 + 1) < (if c < (if b < a then b else a) then c else (if b < a then b else a))) = true := fun z => hd (by have := of_decide_eq_true z; simpa [numAt] using this)
        rw [if_neg e3, if_neg hd]; exact n2
    obtain ⟨z, rfl⟩ := hv
    exact h h' tk z hold
end
end RS
set_option Elab.async false
set_option linter.all false
set_option maxRecDepth 100000
set_option maxHeartbeats 1000000
set_option autoImplicit false
/-! RS.C23: dict(..), sum, min, max, sorted. -/
namespace RS
open PySem PySem.Spec PyProof.Rows L2

def pairsW : List W → Option (List (W × W))
  | [] => some []
  | .tup [k, v] :: l => if isKey k = true then (pairsW l).map ((k, v) :: ·) else none
  | _ => none
def mergeW (l : List (W × W)) (ps : List (W × W)) : List (W × W) := ps.foldl (fun acc kv => dput acc kv.1 kv.2) l
def dictOf (s : S) (w : W) : Option (List (W × W)) := match lsW s w with
  | some l => (pairsW l).map (mergeW [])
  | none => dcW s w
def fDict (v : Bool) : List W → M W := fun ws s => match ws with
  | [w] => match dictOf s w with
    | some l => mkD v l s
    | none => .bad
  | _ => .bad
def intsW : List W → Option (List Int)
  | [] => some []
  | .int i :: l => (intsW l).map (i :: ·)
  | _ => none
def fSum : List W → M W := fun ws s => match ws with
  | [.tup l] => match intsW l with
    | some ns => .ok (.int ns.sum) s
    | none => .bad
  | [w] => match lsW s w with
    | some l => match intsW l with
      | some ns => .ok (.int ns.sum) s
      | none => .bad
    | none => .bad
  | _ => .bad
/-- data of one kind -/
def alikeD (ds : List PyData) : Bool := ds.all fun d => ds.all fun e => PySem.W.alike d e
def notNone : PyData → Bool
  | .none => false
  | _ => true
def isRow : PyData → Bool
  | .tuple (_ :: _) => true
  | _ => false
def isAtom : PyData → Bool
  | .none => false
  | .tuple _ => false
  | _ => true
def bestW (mx : Bool) (s : S) (l : List W) : Option W := match toDs s 12 l with
  | some ds => if alikeD ds && ds.all notNone then l[argBest (fun i j => if mx then PySem.W.dataLt (ds.getD j .none) (ds.getD i .none) else PySem.W.dataLt (ds.getD i .none) (ds.getD j .none)) (ds.length - 1)]? else none
  | none => none
def fBest (mx : Bool) : List W → M W := fun ws s => match ws with
  | [.tup l] => match bestW mx s l with
    | some w => .ok w s
    | none => .bad
  | [.lst l] => match bestW mx s l with
    | some w => .ok w s
    | none => .bad
  | [.ref a] => match s.at_ a with
    | some (.lst l) => match bestW mx s l with
      | some w => .ok w s
      | none => .bad
    | _ => .bad
  | [.int i, .int j] => .ok (.int (if mx then (if j > i then j else i) else (if j < i then j else i))) s
  | [.int i, .int j, .int k] => .ok (.int (if mx then (if j > i then (if k > j then k else j) else (if k > i then k else i)) else (if j < i then (if k < j then k else j) else (if k < i then k else i)))) s
  | [.int i, .int j, .int k, .int l] => if mx then .bad else .ok (.int (min4 i j k l)) s
  | _ => .bad
/-- merging, sorting by structural recursion (the kernel reduces these) -/
def mrg {α : Type} (le : α → α → Bool) : Nat → List α → List α → List α
  | 0, xs, _ => xs
  | _ + 1, [], ys => ys
  | _ + 1, x :: xs, [] => x :: xs
  | n + 1, x :: xs, y :: ys => if le x y = true then x :: mrg le n xs (y :: ys) else y :: mrg le n (x :: xs) ys
def msr {α : Type} (le : α → α → Bool) : Nat → List α → List α
  | 0, l => l
  | _ + 1, [] => []
  | _ + 1, [a] => [a]
  | n + 1, a :: b :: xs => mrg le (xs.length + 2) (msr le n ((a :: b :: xs).splitAt ((xs.length + 2 + 1) / 2)).1) (msr le n ((a :: b :: xs).splitAt ((xs.length + 2 + 1) / 2)).2)
theorem mrg_eq {α : Type} {le : α → α → Bool} : ∀ (n : Nat) (xs ys : List α), xs.length + ys.length ≤ n → mrg le n xs ys = xs.merge ys le
  | 0, xs, ys, h => by
    cases xs with
    | nil => cases ys with
      | nil => rw [List.merge]; rfl
      | cons _ _ => exact absurd h (by simp)
    | cons _ _ => exact absurd h (by simp)
  | n + 1, [], ys, _ => by rw [List.merge]; rfl
  | n + 1, x :: xs, [], _ => by rw [List.merge_right]; rfl
  | n + 1, x :: xs, y :: ys, h => by
    rw [List.cons_merge_cons]
    show (if le x y = true then x :: mrg le n xs (y :: ys) else y :: mrg le n (x :: xs) ys) = _
    simp only [List.length_cons] at h
    rw [mrg_eq n xs (y :: ys) (by simp only [List.length_cons]; omega), mrg_eq n (x :: xs) ys (by simp only [List.length_cons]; omega)]
theorem msr_eq {α : Type} {le : α → α → Bool} : ∀ (n : Nat) (l : List α), l.length ≤ n → msr le n l = l.mergeSort le
  | 0, l, h => by
    cases l with
    | nil => rw [List.mergeSort]; rfl
    | cons _ _ => exact absurd h (by simp)
  | n + 1, [], _ => by rw [List.mergeSort]; rfl
  | n + 1, [a], _ => by rw [List.mergeSort]; rfl
  | n + 1, a :: b :: xs, h => by
    have h1 : ((a :: b :: xs).splitAt ((xs.length + 2 + 1) / 2)).1.length = (xs.length + 2 + 1) / 2 := by simp; omega
    have h2 : ((a :: b :: xs).splitAt ((xs.length + 2 + 1) / 2)).2.length = (xs.length + 2) / 2 := by simp; omega
    simp only [List.length_cons] at h
    rw [List.mergeSort]
    show mrg le (xs.length + 2) (msr le n ((a :: b :: xs).splitAt ((xs.length + 2 + 1) / 2)).1) (msr le n ((a :: b :: xs).splitAt ((xs.length + 2 + 1) / 2)).2) = _
    rw [msr_eq n _ (by rw [h1]; omega), msr_eq n _ (by rw [h2]; omega), mrg_eq _ _ _ (by rw [List.length_mergeSort, List.length_mergeSort, h1, h2]; omega)]
    rfl
def sortW (s : S) (l : List W) : Option (List W) := match toDs s 12 l with
  | some ds => if alikeD ds && (ds.all isRow || ds.all isAtom) then some ((msr (PySem.W.dataLe false (·.2)) (l.zip ds).length (l.zip ds)).map (·.1)) else none
  | none => none
def fSorted (v : Bool) : List W → M W := fun ws s => match ws with
  | [w] => match lsW s w with
    | some l => match sortW s l with
      | some l' => mkL v l' s
      | none => .bad
    | none => match dcW s w with
      | some l => match sortW s (l.map (·.1)) with
        | some l' => mkL v l' s
        | none => .bad
      | none => .bad
  | _ => .bad

section
variable {T : List NdefX.NTab} {X : Cx}
theorem rInts {K : PySem.W.Frag} {r : Rm} {n : Nat} {H : Hp} : ∀ {l : List W} {ns : List Int} {xs : List V}, intsW l = some ns → RelWs K r n H l xs → xs = ns.map V.int
  | [], ns, xs, h, rl => by cases h; unfold RelWs at rl; subst rl; rfl
  | w :: l, ns, xs, h, rl => by
    cases w <;> first | cases h | skip
    rename_i i
    simp only [intsW] at h
    obtain ⟨ms, h', rfl⟩ := Option.map_eq_some_iff.mp h
    obtain ⟨x, t, rfl, r1, r2⟩ := rl.uncons
    obtain rfl := rInt r1
    rw [rInts h' r2]; rfl
theorem rPairs {K : PySem.W.Frag} {r : Rm} {n : Nat} {H : Hp} : ∀ {l : List W} {ps : List (W × W)} {xs : List V}, pairsW l = some ps → RelWs K r n H l xs → ∃ (as : List Addr) (kvs : List (Key × V)), xs = as.map V.ref ∧ Paired (fun p kv => SqT K H p [kV kv.1, kv.2]) as kvs ∧ RKV K r n H ps kvs
  | [], ps, xs, h, rl => by cases h; unfold RelWs at rl; subst rl; exact ⟨[], [], rfl, .nil, .nil⟩
  | w :: l, ps, xs, h, rl => by
    unfold pairsW at h
    split at h
    · rename_i e; cases e
    · rename_i k v l' e
      cases e
      split at h
      · rename_i hk
        obtain ⟨qs, h', rfl⟩ := Option.map_eq_some_iff.mp h
        obtain ⟨x, t, rfl, r1, r2⟩ := rl.uncons
        obtain ⟨p, ys, rfl, t1, l1⟩ := rTup r1
        obtain ⟨a, b, rfl, k1, k2⟩ := l1.two
        obtain ⟨kk, rfl⟩ := isKey_ex hk
        obtain rfl := relW_key k1
        obtain ⟨as, kvs, rfl, h1, h2⟩ := rPairs h' r2
        exact ⟨p :: as, (kk, b) :: kvs, rfl, .cons t1.sq h1, .cons ⟨rfl, k2⟩ h2⟩
      · cases h
    · cases h
theorem rMerge {K : PySem.W.Frag} {r : Rm} {n : Nat} {H : Hp} {ps : List (W × W)} {kvs : List (Key × V)} (h : RKV K r n H ps kvs) : ∀ {l : List (W × W)} {ls : List (Key × V)}, RKV K r n H l ls → RKV K r n H (mergeW l ps) (mergeK ls kvs) := by
  induction h with
  | nil => exact fun h => h
  | cons a _ ih =>
    intro l ls h
    unfold mergeW mergeK at ih ⊢
    rw [List.foldl_cons, List.foldl_cons, a.1]
    exact ih (h.put _ a.2)
theorem cw_dict {vr : Bool} (hc : X.calm = true) : CallW T X (.type "dict") (fDict vr) := fun Wx tk => by
  refine fun pins sh σ H xs us Q I rv h => (CallR.fz (v := vr) (f := .type "dict") (r := fun xs H Q => ∃ p, xs = [.ref p] ∧ ((∃ (as : List Addr) (kvs : List (Key × V)), SqL X.K H p (as.map V.ref) ∧ Paired (fun p kv => SqT X.K H p [kV kv.1, kv.2]) as kvs ∧ ∀ p, H p = none → Q (.ref p) (upd H p (.dK (mergeK [] kvs)))) ∨ ∃ kvs, Rd H p (.dK kvs) ∧ ∀ p, H p = none → Q (.ref p) (upd H p (.dK kvs)))) ?_) pins sh σ H xs us Q I rv ?_
  · intro pins sh σ H xs us Q I rv h
    obtain ⟨p, rfl, ⟨as, kvs, h1, h2, h3⟩ | ⟨kvs, h1, h2⟩⟩ := h
    · exact call_dictP hc pins sh σ H _ us Q I rv ⟨_, as, kvs, rfl, h1, h2, h3⟩
    · exact call_dictD pins sh σ H _ us Q I rv ⟨_, _, rfl, h1, h2⟩
  · obtain ⟨r, s, ws, m, l, q⟩ := h
    unfold fDict at q
    split at q
    · obtain ⟨v, rfl, hv⟩ := l.one
      split at q
      · rename_i l' e
        unfold dictOf at e
        split at e
        · rename_i l2 e2
          obtain ⟨p, ys, rfl, h1, l1⟩ := m.ls hv e2
          obtain ⟨ps, hp, rfl⟩ := Option.map_eq_some_iff.mp e
          obtain ⟨as, kvs, rfl, g1, g2⟩ := rPairs hp l1
          exact ⟨_, rfl, .inl ⟨as, kvs, .inl (.inl h1), g1, PostE.dct m q (rMerge g2 .nil)⟩⟩
        · obtain ⟨p, kvs, rfl, h1, l1⟩ := m.dc hv e
          exact ⟨_, rfl, .inr ⟨kvs, h1, PostE.dct m q l1⟩⟩
      · exact False.elim q
    · exact False.elim q
theorem cw_sum (hc : X.calm = true) : CallW T X (.builtin "sum") fSum := fun Wx tk pins sh σ H xs us Q I rv h => by
  obtain ⟨r, s, ws, m, l, q⟩ := h
  unfold fSum at q
  split at q
  · obtain ⟨v, rfl, hv⟩ := l.one
    obtain ⟨p, ys, rfl, t1, l1⟩ := rTup hv
    split at q
    · rename_i ns hn
      obtain rfl := rInts hn l1
      obtain rfl := Vals.ref1 rv
      obtain ⟨its, rv', pl, _⟩ := I.tuple t1.sq
      have hi := rv'.ints
      have hl : sh.heap.IsTuple p its.toArray := pl
      obtain ⟨xs, hx⟩ := hi.allInts.items
      have hn2 : numsOf its.toArray.toList = ns := by rw [show its.toArray.toList = its from rfl, hi.numsOf]
      rw [hx] at hl hn2
      rw [nums_intItems] at hn2
      refine PySem.W.ktm_sumG (I.ok.hd hc) hl fun h' tk t' hk => ⟨.int _, H, I.kept hk, ⟨t', ?_⟩, q.at m mInt⟩
      rw [preSum_eq, List.take_of_length_le (by simp), hn2]
    · exact False.elim q
  · obtain ⟨v, rfl, hv⟩ := l.one
    split at q
    · rename_i l' e
      obtain ⟨_, ys, rfl, h1, l1⟩ := m.ls hv e
      split at q
      · rename_i ns hn
        obtain rfl := rInts hn l1
        exact cr_sum hc pins sh σ H _ us Q I rv ⟨_, _, rfl, .inl (.inl h1), q.at m mInt⟩
      · exact False.elim q
    · exact False.elim q
  · exact False.elim q
theorem depth_mem : ∀ {ds : List PyData} {d : PyData}, d ∈ ds → d.depth ≤ PyData.depthAll ds
  | _ :: ds, d, h => by
    simp only [PyData.depthAll]
    rcases List.mem_cons.mp h with rfl | h
    · exact Nat.le_max_left _ _
    · exact Nat.le_trans (depth_mem h) (Nat.le_max_right _ _)
theorem alikeD_all {ds : List PyData} (h : (alikeD ds && ds.all notNone) = true) : PySem.W.AlikeAll ds := by
  rw [Bool.and_eq_true] at h
  obtain ⟨h1, h2⟩ := h
  refine ⟨fun x hx y hy => ?_, fun x hx e => ?_⟩
  · exact List.all_eq_true.mp (List.all_eq_true.mp h1 x hx) y hy
  · subst e
    exact Bool.false_ne_true (List.all_eq_true.mp h2 _ hx)
/-- the best of a walked row -/
theorem best_run {mx : Bool} (hc : X.calm = true) (hu : X.A.units + 60 < cLine) {pins : List (Addr × Obj)} {σ : L2.St} {H : Hp} {sh : Shared} {r : Rm} {s : S} {Wx : Wish} {Q : VK} (I : Inv X pins σ H sh) (m : Mt T X.K X.mg r s H) {l : List W} {w : W} {xs : List V} {its : List Value} {a : Addr} (hb : bestW mx s l = some w)
    (rl : RelWs X.K r s.nx H l xs) (rv : Vals xs its) (hs : sh.heap.IsList a its.toArray ∨ sh.heap.IsTuple a its.toArray) (q : PostE T X.K X.mg r s H (.ok w s) Q Wx) {E : Value → Shared → Prop} :
    wpAny (model X.prog X.w) X.A (call (.builtin (if mx then "max" else "min")) [.ref a]) (EP X pins σ Q) E sh := by
  unfold bestW at hb
  split at hb
  · rename_i ds hd
    split at hb
    · rename_i hal
      have ha := alikeD_all hal
      obtain ⟨as, hr⟩ := readsAll_of I m hd rl rv
      have hr' : ReadsAll sh.heap its.toArray.toList ds as := by simpa using hr
      obtain ⟨_, hdep⟩ := toDs_plain hd
      have hn : its.toArray.size = ds.length := PySem.W.readsAll_len hr'
      have hln : l.length = ds.length := by
        have e1 := rv.length
        rw [← rl.len] at e1
        rw [e1, ← hn, List.size_toArray]
      obtain ⟨hlt, rfl⟩ := List.getElem?_eq_some_iff.mp hb
      have hpos : 0 < its.toArray.size := by omega
      have fin : ∀ (bt : Nat → Nat → Bool), (∀ i j, bt i j = if mx then PySem.W.dataLt (ds.getD j .none) (ds.getD i .none) else PySem.W.dataLt (ds.getD i .none) (ds.getD j .none)) → ∀ (o : Obj) (v : Value) (s2 s' : Shared), s2 = { sh with heap := sh.heap.push o } → its.toArray[argBest bt (its.toArray.size - 1)]? = some v → Moved [sh.heap.objs.size] (fun a b => b = a) s2 s' → EP X pins σ Q v s' := by
        intro bt hbt o v s2 s' e2 hv mv
        obtain ⟨h', tk, rfl, hk⟩ := PySem.W.moved_old e2 rfl mv
        obtain rfl : bt = fun i j => if mx then PySem.W.dataLt (ds.getD j .none) (ds.getD i .none) else PySem.W.dataLt (ds.getD i .none) (ds.getD j .none) := funext fun i => funext fun j => hbt i j
        rw [hn] at hv
        obtain ⟨x, hx, rx⟩ := rl.get (List.getElem?_eq_getElem hlt)
        obtain ⟨v', hv', rv'⟩ := Vals.get rv hx
        rw [List.getElem?_toArray] at hv
        rw [hv] at hv'
        cases hv'
        exact ⟨x, H, I.kept hk, rv', q.at m rx⟩
      cases mx with
      | false =>
        refine PySem.call_min_walkH ?_
        rcases hs with hs | hs
        · refine PySem.W.iter_listW (A := X.A.in1) (I.ok.hd hc) hs fun s₂ e W st hfp hw hk => ?_
          exact ⟨_, _, _, _, _, _, _, sh.heap, _, rfl, W, st, hfp, hpos, hw, hk, PySem.W.cmpIn_lt (A := X.A.in1) hr' ha (by show X.A.units + 1 + _ < _; omega), fun v s' hP mv => fin _ (fun i j => rfl) _ v _ s' e hP mv⟩
        · refine PySem.W.iter_tupleW (A := X.A.in1) (I.ok.hd hc) hs fun s₂ e W st hfp hw hk => ?_
          exact ⟨_, _, _, _, _, _, _, sh.heap, _, rfl, W, st, hfp, hpos, hw, hk, PySem.W.cmpIn_lt (A := X.A.in1) hr' ha (by show X.A.units + 1 + _ < _; omega), fun v s' hP mv => fin _ (fun i j => rfl) _ v _ s' e hP mv⟩
      | true =>
        refine PySem.call_max_walkH ?_
        rcases hs with hs | hs
        · refine PySem.W.iter_listW (A := X.A.in1) (I.ok.hd hc) hs fun s₂ e W st hfp hw hk => ?_
          exact ⟨_, _, _, _, _, _, _, sh.heap, _, rfl, W, st, hfp, hpos, hw, hk, PySem.W.cmpIn_gt (A := X.A.in1) hr' ha (by show X.A.units + 1 + _ < _; omega), fun v s' hP mv => fin _ (fun i j => rfl) _ v _ s' e hP mv⟩
        · refine PySem.W.iter_tupleW (A := X.A.in1) (I.ok.hd hc) hs fun s₂ e W st hfp hw hk => ?_
          exact ⟨_, _, _, _, _, _, _, sh.heap, _, rfl, W, st, hfp, hpos, hw, hk, PySem.W.cmpIn_gt (A := X.A.in1) hr' ha (by show X.A.units + 1 + _ < _; omega), fun v s' hP mv => fin _ (fun i j => rfl) _ v _ s' e hP mv⟩
    · cases hb
  · cases hb
theorem relI (i : Int) (t : Tok) : L2.RelV (.int i) (.int i t) := ⟨t, rfl⟩
theorem rite {c : Prop} [Decidable c] {i j : Int} {u v : Value} (h : L2.RelV (.int i) u) (h2 : L2.RelV (.int j) v) : L2.RelV (.int (if c then i else j)) (if c then u else v) := by
  by_cases e : c
  · rw [if_pos e, if_pos e]; exact h
  · rw [if_neg e, if_neg e]; exact h2
theorem cw_best {mx : Bool} (hc : X.calm = true) (hu : X.A.units + 60 < cLine) : CallW T X (.builtin (if mx then "max" else "min")) (fBest mx) := fun Wx tk pins sh σ H xs us Q I rv h => by
  obtain ⟨r, s, ws, m, l, q⟩ := h
  unfold fBest at q
  split at q
  · obtain ⟨v, rfl, hv⟩ := l.one
    obtain ⟨p, ys, rfl, t1, l1⟩ := rTup hv
    split at q
    · rename_i w hw
      obtain rfl := Vals.ref1 rv
      obtain ⟨its, rv', pl, _⟩ := I.tuple t1.sq
      exact best_run hc hu I m hw l1 rv' (.inr pl) q
    · exact False.elim q
  · obtain ⟨v, rfl, hv⟩ := l.one
    obtain ⟨p, ys, rfl, _, h1, l1⟩ := rLst hv
    split at q
    · rename_i w hw
      obtain rfl := Vals.ref1 rv
      obtain ⟨its, rv', pl, _⟩ := I.list (.inl (.inl h1) : SqL X.K H _ ys)
      exact best_run hc hu I m hw l1 rv' (.inl pl.isList) q
    · exact False.elim q
  · obtain ⟨v, rfl, hv⟩ := l.one
    obtain ⟨ha, rfl⟩ := rRef hv
    split at q
    · rename_i l' e
      obtain ⟨_, ys, h1, l1⟩ := m.lst e
      split at q
      · rename_i w hw
        obtain rfl := Vals.ref1 rv
        obtain ⟨its, rv', pl, _⟩ := I.list (.inl (.inl h1) : SqL X.K H _ ys)
        exact best_run hc hu I m hw l1 rv' (.inl pl.isList) q
      · exact False.elim q
    · exact False.elim q
  · obtain ⟨v, u, rfl, hv, hu⟩ := l.two
    obtain rfl := rInt hv
    obtain rfl := rInt hu
    cases mx
    · exact call_min2 hc pins sh σ H _ us Q I rv ⟨_, _, rfl, q.at m mInt⟩
    · exact call_max2 hc pins sh σ H _ us Q I rv ⟨_, _, rfl, q.at m mInt⟩
  · obtain ⟨v, u, t, rfl, hv, hu, ht⟩ := l.three
    obtain rfl := rInt hv
    obtain rfl := rInt hu
    obtain rfl := rInt ht
    cases rv with
    | cons r1 rv =>
    cases rv with
    | cons r2 rv =>
    cases rv with
    | cons r3 rv =>
    cases rv
    obtain ⟨t1, rfl⟩ := r1
    obtain ⟨t2, rfl⟩ := r2
    obtain ⟨t3, rfl⟩ := r3
    cases mx <;> simp only [Bool.false_eq_true, if_false, if_true] at q ⊢
    · refine min_three_ints (I.ok.hd hc) fun h' tk k => ⟨_, H, I.kept k, ?_, q.at m mInt⟩
      exact rite (rite (relI _ _) (relI _ _)) (rite (relI _ _) (relI _ _))
    · refine max_three_ints (I.ok.hd hc) fun h' tk k => ⟨_, H, I.kept k, ?_, q.at m mInt⟩
      exact rite (rite (relI _ _) (relI _ _)) (rite (relI _ _) (relI _ _))
  · cases mx
    · obtain ⟨x1, t0, rfl, h1, l⟩ := l.uncons
      obtain ⟨v2, v3, v4, rfl, h2, h3, h4⟩ := l.three
      obtain rfl := rInt h1
      obtain rfl := rInt h2
      obtain rfl := rInt h3
      obtain rfl := rInt h4
      cases rv with
      | cons r1 rv =>
      cases rv with
      | cons r2 rv =>
      cases rv with
      | cons r3 rv =>
      cases rv with
      | cons r4 rv =>
      cases rv
      obtain ⟨t1, rfl⟩ := r1
      obtain ⟨t2, rfl⟩ := r2
      obtain ⟨t3, rfl⟩ := r3
      obtain ⟨t4, rfl⟩ := r4
      exact min_four_ints (I.ok.hd hc) fun h' tk z k => ⟨.int _, H, I.kept k, ⟨_, rfl⟩, q.at m mInt⟩
    · exact False.elim q
  · exact False.elim q
theorem each_of {K : PySem.W.Frag} {r : Rm} {n : Nat} {H : Hp} {h : Heap} : ∀ {l : List W} {ds : List PyData} {xs : List V} {us : List Value} {as : List Addr}, RelWs K r n H l xs → Vals xs us → ReadsAll h us ds as →
    PySem.W.EachIs (fun v (b : W × PyData) => ∃ x, RelW K r n H b.1 x ∧ L2.RelV x v) us (l.zip ds) ∧ PySem.W.EachIs (fun v (b : W × PyData) => ∃ as, Reads h v b.2 as) us (l.zip ds)
  | [], ds, xs, us, as, r1, r2, r3 => by
    unfold RelWs at r1
    subst r1
    cases r2
    cases r3
    exact ⟨.nil, .nil⟩
  | w :: l, ds, xs, us, as, r1, r2, r3 => by
    obtain ⟨x, t, rfl, p1, p2⟩ := r1.uncons
    cases r2 with
    | cons a b =>
      cases r3 with
      | cons c d =>
        obtain ⟨q1, q2⟩ := each_of p2 b d
        exact ⟨.cons ⟨x, p1, a⟩ q1, .cons ⟨_, c⟩ q2⟩
theorem of_each {K : PySem.W.Frag} {r : Rm} {n : Nat} {H : Hp} : ∀ {us : List Value} {bs : List (W × PyData)}, PySem.W.EachIs (fun v (b : W × PyData) => ∃ x, RelW K r n H b.1 x ∧ L2.RelV x v) us bs → ∃ xs, RelWs K r n H (bs.map (·.1)) xs ∧ Vals xs us
  | _, _, .nil => ⟨[], by unfold RelWs; rfl, .nil⟩
  | _, _, .cons h t => by
    obtain ⟨x, h1, h2⟩ := h
    obtain ⟨xs, t1, t2⟩ := of_each t
    refine ⟨x :: xs, ?_, .cons h2 t2⟩
    rw [List.map_cons]
    unfold RelWs
    exact ⟨x, xs, rfl, h1, t1⟩
theorem key_vals : ∀ {kvs : List (Key × V)} {us : List Value}, us.length = kvs.length → (∀ (j : Nat) (v : Value), us[j]? = some v → ∃ k, (kvs.map (·.1))[j]? = some k ∧ keyIs k v = true) → Vals (kvs.map fun kv => kV kv.1) us
  | [], [], _, _ => .nil
  | kv :: kvs, u :: us, hl, h => by
    obtain ⟨k, e1, e2⟩ := h 0 u rfl
    cases (show some kv.1 = some k from e1)
    refine .cons ?_ (key_vals (by simpa using hl) fun j v e => ?_)
    · rcases keyIs_shape e2 with ⟨i, t, ek, ev⟩ | ⟨x, t, ek, ev⟩
      · show RelV (kV kv.1) u
        rw [ek, ev]; exact ⟨t, rfl⟩
      · show RelV (kV kv.1) u
        rw [ek, ev]; exact ⟨t, rfl⟩
    · obtain ⟨k, a, b⟩ := h (j + 1) v (by simpa using e)
      exact ⟨k, by simpa using a, b⟩
  | [], _ :: _, hl, _ => by simp at hl
  | _ :: _, [], hl, _ => by simp at hl
theorem each_key {h : Heap} {a : Addr} : ∀ {kvs : List (Key × V)} {us : List Value} {l : List W} {ds : List PyData} {as : List Addr}, Vals (kvs.map fun kv => kV kv.1) us → ReadsAll h us ds as → l.length = us.length →
    PySem.W.EachIs (fun v (b : W × PyData) => ∃ as, Reads h v b.2 as ∧ a ∉ as) us (l.zip ds)
  | [], us, l, ds, as, hv, hr, hl => by
    cases hv
    cases l with
    | nil => exact .nil
    | cons _ _ => cases hl
  | kv :: kvs, us, l, ds, as, hv, hr, hl => by
    cases hv with
    | cons p q =>
      cases hr with
      | cons c d =>
        cases l with
        | nil => cases hl
        | cons w l =>
          refine .cons ⟨[], ?_, by simp⟩ (each_key q d (by simpa using hl))
          have p : RelV (kV kv.1) _ := p
          rcases hk : kv.1 with i | x
          · rw [hk] at p
            obtain ⟨t, rfl⟩ := p
            cases c <;> constructor
          · rw [hk] at p
            obtain ⟨t, rfl⟩ := p
            cases c <;> constructor
theorem cw_sorted {vr : Bool} (hc : X.calm = true) (hu : X.A.units + 60 < cLine) : CallW T X (.builtin "sorted") (fSorted vr) := fun Wx tk pins sh σ H xs us Q I rv h => by
  obtain ⟨r, s, ws, m, l, q⟩ := h
  unfold fSorted at q
  split at q
  · obtain ⟨v, rfl, hv⟩ := l.one
    split at q
    · rename_i l' e
      obtain ⟨_, ys, rfl, h1, l1⟩ := m.ls hv e
      obtain rfl := Vals.ref1 rv
      obtain ⟨its, rv', pl, hz⟩ := I.list (.inl (.inl h1) : SqL X.K H _ ys)
      unfold sortW at q
      split at q
      · rename_i l2 hq
        split at hq
        · rename_i ds hd
          split at hq
          · rename_i hcnd
            rw [msr_eq _ _ (Nat.le_refl _)] at hq
            cases hq
            rw [Bool.and_eq_true] at hcnd
            obtain ⟨c1, c2⟩ := hcnd
            obtain ⟨as, hr⟩ := readsAll_of I m hd l1 rv'
            obtain ⟨e1, e2⟩ := each_of l1 rv' hr
            obtain ⟨_, hdep⟩ := toDs_plain hd
            have hln : its.length = ds.length := SeqAt.ReadsAll.length _ _ _ hr
            have hl2 : l'.length = ds.length := by rw [← hln, ← rv'.length, l1.len]
            have hmap : (l'.zip ds).map (·.2) = ds := by rw [List.map_snd_zip]; omega
            refine PySem.W.sorted_data (enc := fun b : W × PyData => b.2) pl.isList e1 e2 ?_ ?_ ?_ ?_ fun out h3 h4 => ?_
            · rw [hmap]
              exact fun d hd d' hd' => List.all_eq_true.mp (List.all_eq_true.mp c1 d hd) d' hd'
            · rw [hmap]
              rw [Bool.or_eq_true] at c2
              rcases c2 with c2 | c2
              · refine .inl fun d hd => ?_
                have := List.all_eq_true.mp c2 d hd
                unfold isRow at this
                split at this
                · exact ⟨_, _, rfl⟩
                · cases this
              · refine .inr fun d hd => ?_
                have := List.all_eq_true.mp c2 d hd
                unfold isAtom at this
                split at this
                · cases this
                · cases this
                · rename_i n1 n2
                  exact ⟨n1, n2⟩
            · rw [List.length_zip, hl2, Nat.min_self, ← hln, ← rv'.length]; exact hz
            · intro b hb
              have : b.2 ∈ ds := (List.of_mem_zip (show (b.1, b.2) ∈ l'.zip ds from hb)).2
              have : b.2.depth ≤ 12 := Nat.le_trans (depth_mem this) hdep
              omega
            · obtain ⟨zs, z1, z2⟩ := of_each h4
              obtain ⟨ep, he'⟩ := PyProof.Rows.sortedAll_at sh.heap its out.toArray
              have hlen : zs.length ≤ sizeLine := by
                rw [z2.length, h3, List.length_zip, hl2, Nat.min_self, ← hln, ← rv'.length]; exact hz
              exact ⟨.ref _, upd H (sh.heap.objs.size + 1) (.lst zs), I.laid (t' := sh.toks) (fun _ _ => PyProof.Rows.sortedAll_old) (Nat.le_succ _) ⟨hlen, out, ep, z2, he'⟩, rfl, PostE.lst m q z1 _ (I.hok.fresh (Nat.le_succ _))⟩
          · cases hq
        · cases hq
      · exact False.elim q
    · split at q
      · rename_i l0 e0
        obtain ⟨pd, kvs, rfl, h1, lk⟩ := m.dc hv e0
        obtain rfl := Vals.ref1 rv
        obtain ⟨z, lo, vs, rel, dd⟩ := dk_rd I.hok h1
        obtain ⟨ep, hat⟩ := dd.dictAt
        split at q
        · rename_i l2 hq
          unfold sortW at hq
          split at hq
          · rename_i ds hd
            split at hq
            · rename_i hcnd
              rw [msr_eq _ _ (Nat.le_refl _)] at hq
              cases hq
              rw [Bool.and_eq_true] at hcnd
              obtain ⟨c1, c2⟩ := hcnd
              have hvl : vs.length = kvs.length := rel.length.symm
              refine Calls.call_function_entry PyProof.Rows.kind_sorted PyProof.Rows.plain_sorted PyProof.Rows.entry_sorted (PyProof.Rows.args_sorted1 _) ?_
              unfold Builtin.«sorted»
              refine wpAny_bind (m := checkCount "sorted" 1 1 _) (wpAny_pure ?_)
              refine wpAny_bind (PySem.W.kdu_collect (A := X.A.in1) (PySem.W.kdl_dict (knd := mixKind X.prog X.w) (kvs := vs) (ep := ep) lo) (I.ok.hd hc) hat (by omega) fun h' tk2 acc hk hacc => ?_)
              have I1 : Inv X pins σ H { sh with heap := h', toks := tk2 } := I.kept hk
              have hal : acc.toList.length = kvs.length := by rw [Array.length_toList, hacc.1, hvl]
              have hkv : Vals (kvs.map fun kv => kV kv.1) acc.toList := key_vals hal fun j v e => by
                obtain ⟨k, x, e1, e2⟩ := hacc.2 j v (by rw [← Array.getElem?_toList]; exact e)
                refine ⟨k, ?_, e2⟩
                rw [show kvs.map (·.1) = vs.map (·.1) from rel.keys, List.getElem?_map, e1]
                rfl
              obtain ⟨as, hr⟩ := readsAll_of I1 m hd (RelWs.keys lk) hkv
              have hl0 : (l0.map (·.1)).length = acc.toList.length := by rw [List.length_map, lk.len, hal]
              obtain ⟨e1, _⟩ := each_of (RelWs.keys lk) hkv hr
              have hdl : acc.toList.length = ds.length := SeqAt.ReadsAll.length _ _ _ hr
              obtain ⟨_, hdep⟩ := toDs_plain hd
              have hmap : ((l0.map (·.1)).zip ds).map (·.2) = ds := by rw [List.map_snd_zip]; omega
              have hsz : acc.toList.length ≤ sizeLine := by omega
              refine wpAny_bind (wpAny_newList ?_ hsz)
              have hoL : (h'.push (seqObj "list" acc.toList.toArray 0)).get? h'.objs.size = some (seqObj "list" acc.toList.toArray 0) := Heap.get?_push_size _ rfl
              show wpAny _ _ _ _ _ { sh with heap := h'.push (seqObj "list" acc.toList.toArray 0), toks := tk2 }
              refine wpAny_bind (wpAny_holding (PySem.W.list_sort_data (s := { sh with heap := h'.push (seqObj "list" acc.toList.toArray 0), toks := tk2 }) (enc := fun b : W × PyData => b.2) hoL e1 (each_key (a := h'.objs.size) hkv (PyProof.Rows.ReadsAll.keeps (fun _ _ q => Heap.get?_push_of_some _ q) hr) hl0) ?_ ?_ ?_ ?_ fun out h3 h4 => ?_))
              · rw [hmap]
                exact fun d hd d' hd' => List.all_eq_true.mp (List.all_eq_true.mp c1 d hd) d' hd'
              · rw [hmap]
                rw [Bool.or_eq_true] at c2
                rcases c2 with c2 | c2
                · refine .inl fun d hd => ?_
                  have := List.all_eq_true.mp c2 d hd
                  unfold isRow at this
                  split at this
                  · exact ⟨_, _, rfl⟩
                  · cases this
                · refine .inr fun d hd => ?_
                  have := List.all_eq_true.mp c2 d hd
                  unfold isAtom at this
                  split at this
                  · cases this
                  · cases this
                  · rename_i n1 n2
                    exact ⟨n1, n2⟩
              · rw [List.length_zip]; omega
              · intro b hb
                have : b.2 ∈ ds := (List.of_mem_zip (show (b.1, b.2) ∈ (l0.map (·.1)).zip ds from hb)).2
                have : b.2.depth ≤ 12 := Nat.le_trans (depth_mem this) hdep
                show X.A.units + 1 + 1 + b.2.depth < cLine
                omega
              · obtain ⟨zs, z1, z2⟩ := of_each h4
                obtain ⟨e', he'⟩ := PyProof.Rows.sortedHeap_at (vs := acc.toList) (out := out.toArray) hoL
                have hlen : zs.length ≤ sizeLine := by
                  rw [z2.length, h3, List.length_zip]; omega
                refine wpAny_pure ⟨_, rfl, .ref h'.objs.size, upd H h'.objs.size (.lst zs), I1.laid (t' := tk2) (fun b u e => ?_) (Nat.le_refl _) ⟨hlen, out, e', z2, he'⟩, rfl, PostE.lst m q z1 _ (I1.hok.fresh (Nat.le_refl _))⟩
                have hb : b < h'.objs.size := Heap.lt_size e
                rw [PyProof.Rows.sortedHeap_old (Nat.ne_of_lt hb) (by rw [size_push']; exact Nat.lt_succ_of_lt hb)]
                exact Heap.get?_push_of_some _ e
            · cases hq
          · cases hq
        · exact False.elim q
      · exact False.elim q
  · exact False.elim q
end
end RS
set_option Elab.async false
set_option linter.all false
set_option maxRecDepth 100000
set_option maxHeartbeats 1000000
set_option autoImplicit false
/-! RS.C24: list comprehensions. -/
namespace RS
open PySem PySem.Spec PyProof.Rows L2

/-! ### targets that touch their own slots only -/
section
variable (T : List NdefX.NTab) (X : Cx) (vs : List Nat)
def RGv (tg : Expr) (g : G) : Prop := ∀ Wx, Tk X Wx → PG X tg fun v σ H Q => ∃ r ρ s w, MtE T X r ρ s σ H ∧ RelW X.K r s.nx H w v ∧ PostG T X r s H (g w ρ s) (fun σ' H' => wipe σ' vs = wipe σ vs → Q σ' H') Wx
def RGsv (tg : List Expr) (g : Gs) : Prop := ∀ Wx, Tk X Wx → PGs X tg fun xs σ H Q => ∃ r ρ s ws, MtE T X r ρ s σ H ∧ RelWs X.K r s.nx H ws xs ∧ PostG T X r s H (g ws ρ s) (fun σ' H' => wipe σ' vs = wipe σ vs → Q σ' H') Wx
end
theorem set_comm2 {α : Type} : ∀ {l : List α} {i j : Nat} {a b : α}, i ≠ j → (l.set i a).set j b = (l.set j b).set i a
  | [], _, _, _, _, _ => rfl
  | x :: l, 0, 0, _, _, h => absurd rfl h
  | x :: l, 0, j + 1, _, _, _ => rfl
  | x :: l, i + 1, 0, _, _, _ => rfl
  | x :: l, i + 1, j + 1, _, _, h => by
    show x :: (l.set i _).set j _ = x :: (l.set j _).set i _
    rw [set_comm2 fun e => h (by rw [e])]
theorem set_set2 {α : Type} : ∀ {l : List α} {i : Nat} {a b : α}, (l.set i a).set i b = l.set i b
  | [], _, _, _ => rfl
  | x :: l, 0, _, _ => rfl
  | x :: l, i + 1, _, _ => by
    show x :: (l.set i _).set i _ = x :: l.set i _
    rw [set_set2]
theorem wipe_set2 {σ : L2.St} {i : Nat} {x : Option V} : ∀ {vs : List Nat}, i ∉ vs → wipe (σ.set i x) vs = (wipe σ vs).set i x
  | [], _ => rfl
  | v :: vs, h => by
    unfold wipe
    rw [wipe_set2 fun z => h (List.mem_cons_of_mem _ z), set_comm2 fun e => h (by rw [e]; exact List.mem_cons_self)]
theorem wipe_wipe2 (σ : L2.St) (v : Nat) : ∀ vs : List Nat, wipe (σ.set v none) vs = (wipe σ vs).set v none
  | [] => rfl
  | u :: vs => by
    unfold wipe
    rw [wipe_wipe2 σ v vs]
    by_cases e : v = u
    · subst e; rfl
    · rw [set_comm2 e]
theorem wipe_wipe (σ : L2.St) : ∀ vs : List Nat, wipe (wipe σ vs) vs = wipe σ vs
  | [] => rfl
  | v :: vs => by
    show (wipe ((wipe σ vs).set v none) vs).set v none = (wipe σ vs).set v none
    rw [wipe_wipe2, wipe_wipe σ vs, set_set2]
theorem wipe_set {σ : L2.St} {i : Nat} {x : Option V} : ∀ {vs : List Nat}, i ∈ vs → wipe (σ.set i x) vs = wipe σ vs
  | v :: vs, h => by
    unfold wipe
    by_cases e : i ∈ vs
    · rw [wipe_set e]
    · rcases List.mem_cons.mp h with rfl | h
      · rw [wipe_set2 e, set_set2]
      · exact absurd h e
section
variable {T : List NdefX.NTab} {X : Cx} {pos : Pos} {vs : List Nat}
theorem PostG.mono {r : Rm} {s : S} {H : Hp} {o : OutS} {D D' : L2.St → Hp → Prop} {Wx : Wish} (h : PostG T X r s H o D Wx) (k : ∀ σ H, D σ H → D' σ H) : PostG T X r s H o D' Wx := by
  cases o with
  | nx _ _ => exact fun r' σ' H' y m => k _ _ (h r' σ' H' y m)
  | ex _ _ => exact h
  | _ => exact h
theorem rgv_name {i : Nat} {x : Str} (hN : X.N.Nodup) (hv : i ∈ vs := by decide) (hi : X.N[i]? = some x := by rfl) (hx : Loc X.env.scope x := by first | exact Or.inl rfl | exact Or.inr rfl) (hf : X.fn x = true ∨ X.env.scope.names.lookup x = some .local := by first | exact .inl rfl | exact .inr rfl) : RGv T X vs (.Name x pos) (gN i) := fun Wx _ => ⟨fun pins s σ H v u Q I rv h => by
  refine (pg_name hN hi hx hf).run pins s σ H v u Q I rv ?_
  obtain ⟨r, ρ, S, w, m, rw', q⟩ := h
  exact q r _ H (.refl m.mt) (m.set rw' i) (wipe_set hv)⟩
theorem rgsv_nil : RGsv T X vs [] gsNil := fun Wx _ => ⟨fun pins s σ H xs us Q I rv h => by
  refine pgs_nil.run pins s σ H xs us Q I rv ?_
  obtain ⟨r, ρ, S, ws, m, rw', q⟩ := h
  cases ws with
  | nil =>
    unfold RelWs at rw'
    exact ⟨rw', q r _ H (.refl m.mt) m rfl⟩
  | cons _ _ => exact False.elim q⟩
theorem rgsv_cons {e : Expr} {es : List Expr} {g : G} {gs : Gs} (h1 : RGv T X vs e g) (h2 : RGsv T X vs es gs) (hs : (assignEach (e :: es) X.env).map (·.2) = assign e X.env :: (assignEach es X.env).map (·.2) := by rfl) : RGsv T X vs (e :: es) (gsCons g gs) := fun Wx tk => ⟨fun pins s σ H xs us Q I rv h => by
  refine (pgs_cons (h1 Wx tk) (h2 Wx tk) hs).run pins s σ H xs us Q I rv ?_
  obtain ⟨r, ρ, S, ws, m, rw', q⟩ := h
  cases ws with
  | nil => exact False.elim q
  | cons w ws =>
    obtain ⟨x, t, e, l1, l2⟩ := rw'.uncons
    subst e
    refine ⟨x, t, rfl, r, ρ, S, w, m, l1, ?_⟩
    unfold gsCons at q
    simp only at q
    cases e : g w ρ S with
    | nx ρ' s' =>
      rw [e] at q
      exact fun r' σ' H' y m' hw => ⟨r', ρ', s', ws, m', RelWs.kp y.kp l2, (PostG.shift q y).mono fun σ2 H2 z hw2 => z (hw2.trans hw)⟩
    | _ => rw [e] at q; exact q⟩
theorem rgv_tup {es : List Expr} {k n : Nat} {gs : Gs} (hc : X.calm = true) (h : RGsv T X vs es gs) (hn : (assignEach es X.env).length = n := by rfl) (hst : (assignEach es X.env).findIdx? (·.1) = none := by rfl) : RGv T X vs (.Tuple es k pos) (gSeq n gs) := fun Wx tk => ⟨fun pins s σ H v u Q I rv hh => by
  obtain ⟨r, ρ, S, w, m, rw', q⟩ := hh
  unfold gSeq at q
  cases w with
  | tup l =>
    obtain ⟨p, xs, rfl, t1, l1⟩ := rTup rw'
    simp only at q
    split at q
    · rename_i hl
      exact (pg_tup hc (h Wx tk) hn hst).run pins s σ H _ u Q I rv ⟨p, xs, rfl, t1.sq, by rw [← l1.len]; exact hl, r, ρ, S, l, m, l1, q⟩
    · exact False.elim q
  | ref a =>
    obtain ⟨ha, rfl⟩ := rRef rw'
    simp only at q
    split at q
    · rename_i l el
      obtain ⟨_, xs, h1, l1⟩ := m.mt.lst el
      split at q
      · rename_i hl
        exact (pg_lst hc (h Wx tk) hn hst).run pins s σ H _ u Q I rv ⟨_, xs, rfl, .inl (.inl h1), by rw [← l1.len]; exact hl, r, ρ, S, l, m, l1, q⟩
      · exact False.elim q
    · exact False.elim q
  | lst l =>
    obtain ⟨p, xs, rfl, _, h1, l1⟩ := rLst rw'
    simp only at q
    split at q
    · rename_i hl
      exact (pg_lst hc (h Wx tk) hn hst).run pins s σ H _ u Q I rv ⟨_, xs, rfl, .inl (.inl h1), by rw [← l1.len]; exact hl, r, ρ, S, l, m, l1, q⟩
    · exact False.elim q
  | _ => exact False.elim q⟩
end

/-! ### an object that no plain number names yet -/
section
variable {T : List NdefX.NTab} {K : PySem.W.Frag} {mg : Str → Option Value} {r0 r : Rm} {s0 s : S} {H0 H : Hp}
/-- it is written -/
theorem Stp.over (x : Stp T K mg r0 s0 H0 r s H) {D : Addr} {xs ys : List V} (h0 : H0 D = Option.none) (hi : Off r s.nx D) (hD : H D = some (.lst xs)) : Stp T K mg r0 s0 H0 r s (upd H D (.lst ys)) := by
  have kk : Kp r s.nx H r s.nx (upd H D (.lst ys)) := ⟨Nat.le_refl _, fun _ _ => rfl, fun q zs h => by
    rw [upd_ne fun e => ?_]; exact h
    rw [e, hD] at h; (cases h), fun _ f => f, fun q zs f h => by
    rw [upd_ne fun e => hi.2 (by rw [← e]; exact f)]; exact h⟩
  refine ⟨x.kp.trans kk, ⟨x.mt.inj, fun b o h => ?_, fun b hb => ?_, fun p hp => ?_, x.mt.lkb, fun q f => ⟨(x.mt.fr q f).1, (x.mt.fr q f).2.elim fun o e => ⟨o, kk.lst q o f e.1, e.2⟩⟩⟩, x.lk, x.lkd, fun b hb => ?_, fun q o h n t => ?_, fun q ps h => ?_, x.fre, x.fn⟩
  · obtain ⟨g1, u, g2, g3⟩ := x.mt.ob b o h
    exact ⟨g1, u, by rw [upd_ne (hi.1 b g1)]; exact g2, g3.kp kk⟩
  · obtain ⟨u, h2, h3⟩ := x.mt.dom b hb
    exact ⟨u, by rw [upd_ne (hi.1 b hb)]; exact h2, h3⟩
  · obtain ⟨ps, e1, e2, e3⟩ := x.mt.tab p hp
    refine ⟨ps, by rw [upd_ne (fun e => by rw [e, hD] at e1; cases e1)]; exact e1, e2, fun pos cv hc => ?_⟩
    obtain ⟨c, z1, z2⟩ := e3 pos cv hc
    refine ⟨c, z1, ?_⟩
    rw [upd_ne fun e => ?_]; exact z2
    rw [e, hD] at z2
    cases z2
  · obtain ⟨h1, h2⟩ := x.lkh b hb
    refine ⟨h1, ?_⟩
    rw [upd_ne fun e => hi.1 b (Nat.lt_of_lt_of_le h1 x.kp.le) ((x.kp.eq b h1).trans e)]
    exact h2
  · rw [upd_ne fun e => by rw [e, h0] at h; cases h]
    exact x.frm q o h n t
  · obtain ⟨more, e⟩ := x.tbl q ps h
    refine ⟨more, ?_⟩
    rw [upd_ne fun e => by rw [e, h0] at h; cases h]
    exact e
/-- it is named -/
theorem Stp.adopt (x : Stp T K mg r0 s0 H0 r s H) {D : Addr} {xs : List V} {l : List W} (h0 : H0 D = Option.none) (hi : Off r s.nx D) (hD : H D = some (.lst xs)) (rl : RelWs K r s.nx H l xs) : Stp T K mg r0 s0 H0 (rN r s.nx D) (s.new (.lst l)) H := by
  have kk : Kp r s.nx H (rN r s.nx D) (s.nx + 1) H := ⟨Nat.le_succ _, fun a h => rN_lt h, fun q xs h => h, fun _ f => f, fun _ _ _ h => h⟩
  refine ⟨x.kp.trans kk, ⟨fun a b ha hb e => ?_, fun a o' h => ?_, fun a ha => ?_, x.mt.tab, fun a ha => Nat.lt_succ_of_lt (x.mt.lkb a ha), fun q f => ⟨fun a ha e => ?_, (x.mt.fr q f).2⟩⟩, x.lk, fun a ha => ?_, x.lkh, x.frm, x.tbl, fun a h1 h2 => ?_, x.fn⟩
  · have ha : a < s.nx + 1 := ha
    have hb : b < s.nx + 1 := hb
    by_cases h1 : a = s.nx
    · by_cases h2 : b = s.nx
      · rw [h1, h2]
      · have hb' : b < s.nx := by omega
        rw [h1, rN_at, rN_lt hb'] at e
        exact absurd e.symm (hi.1 b hb')
    · have ha' : a < s.nx := by omega
      by_cases h2 : b = s.nx
      · rw [h2, rN_at, rN_lt ha'] at e
        exact absurd e (hi.1 a ha')
      · have hb' : b < s.nx := by omega
        rw [rN_lt ha', rN_lt hb'] at e
        exact x.mt.inj a b ha' hb' e
  · have h : (if a = s.nx then some (O.lst l) else s.at_ a) = some o' := h
    by_cases h1 : a = s.nx
    · rw [if_pos h1] at h
      cases h
      subst h1
      exact ⟨Nat.lt_succ_self _, _, by rw [rN_at]; exact hD, xs, rfl, RelWs.kp kk rl⟩
    · rw [if_neg h1] at h
      obtain ⟨g1, u, g2, g3⟩ := x.mt.ob a o' h
      exact ⟨Nat.lt_succ_of_lt g1, u, by rw [rN_lt g1]; exact g2, g3.kp kk⟩
  · have ha : a < s.nx + 1 := ha
    by_cases h1 : a = s.nx
    · subst h1
      exact ⟨_, by rw [rN_at]; exact hD, fun ps z => by cases z⟩
    · have ha' : a < s.nx := by omega
      obtain ⟨u, h2, h3⟩ := x.mt.dom a ha'
      exact ⟨u, by rw [rN_lt ha']; exact h2, h3⟩
  · have ha : a < s.nx + 1 := ha
    by_cases h1 : a = s.nx
    · subst h1
      rw [rN_at] at e
      rw [← e] at f
      exact hi.2 f
    · have ha' : a < s.nx := by omega
      rw [rN_lt ha'] at e
      exact (x.mt.fr q f).1 a ha' e
  · show (if a = s.nx then some (O.lst l) else s.at_ a) = s0.at_ a
    have : a < s.nx := x.mt.lkb a (by rw [x.lk]; exact ha)
    rw [if_neg (Nat.ne_of_lt this)]
    exact x.lkd a ha
  · have h2 : a < s.nx + 1 := h2
    by_cases e : a = s.nx
    · subst e
      rw [rN_at]; exact h0
    · rw [rN_lt (by omega)]
      exact x.fre a h1 (by omega)
/-- nobody writes it any more -/
theorem Stp.adoptF (x : Stp T K mg r0 s0 H0 r s H) {D : Addr} {xs : List V} (h0 : H0 D = Option.none) (hi : Off r s.nx D) (hD : H D = some (.lst xs)) : Stp T K mg r0 s0 H0 (rF r D) s H ∧ Kp r s.nx H (rF r D) s.nx H := by
  have kk : Kp r s.nx H (rF r D) s.nx H := ⟨Nat.le_refl _, fun _ _ => rfl, fun q xs h => h, fun _ f => .inr f, fun _ _ _ h => h⟩
  refine ⟨⟨x.kp.trans kk, ⟨x.mt.inj, fun a o' h => ?_, x.mt.dom, x.mt.tab, x.mt.lkb, fun q f => ?_⟩, x.lk, x.lkd, x.lkh, x.frm, x.tbl, x.fre, fun q f => ?_⟩, kk⟩
  · obtain ⟨g1, u, g2, g3⟩ := x.mt.ob a o' h
    exact ⟨g1, u, g2, g3.kp kk⟩
  · rcases f with e | f
    · rw [e]; exact ⟨hi.1, _, hD, fun _ z => nomatch z⟩
    · exact x.mt.fr q f
  · rcases f with e | f
    · rw [e]; exact .inr h0
    · exact x.fn q f
theorem PostE.adopt {X : Wish} {v : Bool} {l : List W} {Q : VK} (q : PostE T K mg r0 s0 H0 (mkL v l s) Q X) (x : Stp T K mg r0 s0 H0 r s H) {D : Addr} {xs : List V} (h0 : H0 D = Option.none) (hi : Off r s.nx D) (hD : H D = some (.lst xs)) (rl : RelWs K r s.nx H l xs) : Q (.ref D) H := by
  cases v with
  | true =>
    obtain ⟨y, kk⟩ := x.adoptF h0 hi hD
    exact q _ _ _ y (mLst (r := rF r D) (.inl rfl) hD (RelWs.kp kk rl))
  | false =>
    refine q _ _ _ (x.adopt h0 hi hD rl) ?_
    unfold RelW
    exact ⟨Nat.lt_succ_self _, by rw [rN_at]⟩
/-- nothing new names it -/
theorem Stp.off (x : Stp T K mg r s H r0 s0 H0) {D : Addr} {o : HO} (hD : H D = some o) (hi : Off r s.nx D) (nt : ∀ ps, o ≠ .tbl ps) : Off r0 s0.nx D ∧ H0 D = some o := by
  refine ⟨⟨fun a ha e => ?_, fun f => (x.fn D f).elim hi.2 fun z => by rw [hD] at z; cases z⟩, x.frm D o hD hi.1 nt⟩
  by_cases h : a < s.nx
  · rw [x.kp.eq a h] at e
    exact hi.1 a h e
  · have := x.fre a (by omega) ha
    rw [e, hD] at this
    cases this
end

/-! ### [elt for target in iter if ..] -/
def lcLoop (p : PIt) (g : G) (t : RS.T) (m : E) (ρ0 : Env) : Nat → Nat → List W → M (List W)
  | 0, _, _ => fun _ => .bad
  | f + 1, i, acc => fun s => match p.at' i s with
    | some none => .ok acc s
    | some (some w) => match g w ρ0 s with
      | .nx ρ1 s1 => match t ρ1 s1 with
        | .ok true s2 => match m ρ1 s2 with
          | .ok y s3 => if acc.length < sizeLine then lcLoop p g t m ρ0 f (i + 1) (acc ++ [y]) s3 else .bad
          | _ => .bad
        | .ok false s2 => lcLoop p g t m ρ0 f (i + 1) acc s2
        | _ => .bad
      | _ => .bad
    | none => .bad
def eLc (v : Bool) (mi : It') (own : List Nat) (g : G) (t : RS.T) (m : E) : E := fun ρ s => (mi ρ s).bind fun p s1 => (lcLoop p g t m (wipeE ρ own) (p.n + 1) 0 [] s1).bind fun ws s2 => mkL v ws s2
theorem lcLoop_no {p : PIt} {g : G} {t : RS.T} {m : E} {ρ0 : Env} : ∀ {f i : Nat} {acc : List W} {s : S} {c : Str} {s' : S}, lcLoop p g t m ρ0 f i acc s ≠ .ex c s'
  | 0, _, _, _, _, _ => fun z => by cases z
  | f + 1, i, acc, s, c, s' => fun z => by
    unfold lcLoop at z
    split at z
    · cases z
    · split at z
      · split at z
        · split at z
          · split at z
            · exact lcLoop_no z
            · cases z
          · cases z
        · exact lcLoop_no z
        · cases z
      · cases z
    · cases z
section
variable {T : List NdefX.NTab} {X : Cx} {pos : Pos} {tg elt iter : Expr} {ifs : List Expr} {scope : Scope} {own : List (Str × Nat)} {mi : It'} {g : G} {t : RS.T} {m : E}
/-- what is asked of a comprehension's parts -/
structure LParts (T : List NdefX.NTab) (X : Cx) (scope : Scope) (vs : List Nat) (tg elt : Expr) (ifs : List Expr) (g : G) (t : RS.T) (m : E) : Prop where
  tgt : ∀ (s : Shared) (H : Hp) (C : Addr) (cl : List (Str × Addr)) (fp : List Addr), RGv T (X.blk s H scope (compEnvC scope cl C X.env) fp) vs tg g
  tst : ∀ (s : Shared) (H : Hp) (C : Addr) (cl : List (Str × Addr)) (fp : List Addr), RTs T (X.blk s H scope (compEnvC scope cl C X.env) fp) ifs t
  elt : ∀ (s : Shared) (H : Hp) (C : Addr) (cl : List (Str × Addr)) (fp : List Addr), RE T (X.blk s H scope (compEnvC scope cl C X.env) fp) elt m
abbrev gLc (T : List NdefX.NTab) (X : Cx) (vs : List Nat) (g : G) : TG := fun v σ H Q => ∃ r ρ s w, MtE T X r ρ s σ H ∧ RelW X.K r s.nx H w v ∧ PostG T X r s H (g w ρ s) (fun σ' H' => wipe σ' vs = wipe σ vs → Q σ' H') fun _ _ => False
theorem lc_run {vr : Bool} {Wx : Wish} {σ : L2.St} {H : Hp} {Q : VK} {vs : List Nat} (h : rdE T X (eLc vr mi vs g t m) Wx σ H Q) : tLc (rdI T X mi Wx) (gLc T X vs g) (rdT T X t fun _ _ => False) (rdE T X m fun _ _ => False) vs σ H Q := by
  obtain ⟨r, ρ, s, mm, q⟩ := h
  unfold eLc at q
  refine ⟨r, ρ, s, mm, ?_⟩
  cases e : mi ρ s with
  | ex c s1 => rw [e] at q; exact fun r' H' x => q r' H' x
  | bad => rw [e] at q; exact q
  | ok p s1 =>
    rw [e] at q
    simp only [Out.bind] at q
    intro r1 H1 J st rel D hD
    have mm1 := mm.step st
    have j0 : Stp T X.K X.mg r1 s1 H1 r1 s1 (upd H1 D (.lst [])) := st.mt.junk hD
    refine ⟨fun i n H => ∃ r s acc xs, Stp T X.K X.mg r1 s1 H1 r s H ∧ Off r s.nx D ∧ H D = some (.lst xs) ∧ RelWs X.K r s.nx H acc xs ∧
      PostE T X.K X.mg r1 s1 H1 (match lcLoop p g t m (wipeE ρ vs) n i acc s with
        | .ok ws s2 => mkL vr ws s2
        | .ex c s2 => .ex c s2
        | .bad => .bad) Q Wx,
      ⟨p.n + 1, r1, s1, [], [], j0, ⟨fun a ha => st.mt.ne hD ha, fun f => (st.mt.fr D f).2.elim fun _ e => by rw [hD] at e; cases e.1⟩, upd_same, by unfold RelWs; rfl, (PostE.shift (X := Wx) (by
        revert q
        cases lcLoop p g t m (wipeE ρ vs) (p.n + 1) 0 [] s1 <;> exact id) st)⟩, ?_⟩
    clear q
    rintro i n H ⟨r, s, acc, xs, x, hi, hDx, rl, q⟩
    cases n with
    | zero => exact False.elim q
    | succ n =>
      unfold lcLoop at q
      obtain ⟨ry, rs⟩ := rel i r s H x
      cases e : p.at' i s with
      | none => rw [e] at q; exact False.elim q
      | some o =>
        rw [e] at q
        cases o with
        | none =>
          refine .inl ⟨rs e, ?_⟩
          exact PostE.adopt q x hD hi hDx rl
        | some w =>
          obtain ⟨go, yl⟩ := ry w e
          refine .inr ⟨go, fun H' => ∃ r s acc xs, Stp T X.K X.mg r1 s1 H1 r s H' ∧ Off r s.nx D ∧ H' D = some (.lst xs) ∧ RelWs X.K r s.nx H' acc xs ∧
            PostE T X.K X.mg r1 s1 H1 (match lcLoop p g t m (wipeE ρ vs) n (i + 1) acc s with
              | .ok ws s2 => mkL vr ws s2
              | .ex c s2 => .ex c s2
              | .bad => .bad) Q Wx, fun H' z => ⟨n, Nat.lt_succ_self n, z⟩, fun v H' y => ?_⟩
          obtain ⟨r', sy, rlv⟩ := yl v H' y
          obtain ⟨hi', hD'⟩ := sy.off hDx hi fun ps z => by cases z
          refine ⟨r', wipeE ρ vs, s, w, ((mm1.step x).step sy).wipe vs rfl rfl, rlv, ?_⟩
          simp only at q
          cases e2 : g w (wipeE ρ vs) s with
          | nx ρ2 s2 =>
            rw [e2] at q
            intro r2 σ2 H2 p2 m2 hw
            refine ⟨hw.trans (wipe_wipe σ vs), r2, ρ2, s2, m2, ?_⟩
            obtain ⟨hi2, hD2⟩ := p2.off hD' hi' fun ps z => by cases z
            simp only at q
            cases e3 : t ρ2 s2 with
            | ex c s3 => rw [e3] at q; exact False.elim q
            | bad => rw [e3] at q; exact False.elim q
            | ok b s3 =>
              rw [e3] at q
              intro r3 H3 p3
              obtain ⟨hi3, hD3⟩ := p3.off hD2 hi2 fun ps z => by cases z
              cases b with
              | false =>
                simp only [Bool.false_eq_true, if_false] at q ⊢
                exact ⟨r3, s3, acc, xs, x.trans (sy.trans (p2.trans p3)), hi3, hD3, RelWs.kp (sy.trans (p2.trans p3)).kp rl, q⟩
              | true =>
                simp only [if_true] at q ⊢
                refine ⟨r3, ρ2, s3, m2.step p3, ?_⟩
                cases e4 : m ρ2 s3 with
                | ex c s4 => rw [e4] at q; exact False.elim q
                | bad => rw [e4] at q; exact False.elim q
                | ok yv s4 =>
                  rw [e4] at q
                  intro r4 H4 yw p4 rly
                  obtain ⟨hi4, hD4⟩ := p4.off hD3 hi3 fun ps z => by cases z
                  simp only at q
                  by_cases hz : acc.length < sizeLine
                  · rw [if_pos hz] at q
                    have rl4 := RelWs.kp (sy.trans (p2.trans (p3.trans p4))).kp rl
                    refine ⟨xs, hD4, by rw [← rl4.len]; exact hz, r4, s4, acc ++ [yv], xs ++ [yw], (x.trans (sy.trans (p2.trans (p3.trans p4)))).over hD hi4 hD4, hi4, upd_same, ?_, q⟩
                    have kk : Kp r4 s4.nx H4 r4 s4.nx (upd H4 D (.lst (xs ++ [yw]))) := ⟨Nat.le_refl _, fun _ _ => rfl, fun q zs h => by
                      rw [upd_ne fun e => ?_]; exact h
                      rw [e, hD4] at h; (cases h), fun _ f => f, fun q zs f h => by
                      rw [upd_ne fun e => hi4.2 (by rw [← e]; exact f)]; exact h⟩
                    exact RelWs.kp kk (RelWs.app rl4 (RelWs.cons rly RelWs.nil))
                  · rw [if_neg hz] at q; exact False.elim q
          | _ => rw [e2] at q; exact False.elim q
theorem MtE.blk {Y : Cx} {r : Rm} {ρ : Env} {s : S} {σ : L2.St} {H : Hp} (m : MtE T X r ρ s σ H) (hK : Y.K = X.K) (hm : Y.mg = X.mg) : MtE T Y r ρ s σ H := ⟨by rw [hK, hm]; exact m.mt, m.len, fun i w e => by rw [hK]; exact m.env i w e⟩
theorem rs_lc {vr : Bool} (hc : X.calm = true) (hN : X.N.Nodup) (hi : RI T X tg iter mi) (ok : BlkOk X.N X.env.scope scope own) (lp : LParts T X scope (own.map (·.2)) tg elt ifs g t m) (hs : ∀ x, foldedSetIterable iter X.env x = pure x := by intro _; rfl) :
    RE T X (.ListComp elt [⟨tg, iter, ifs, 0⟩] scope pos) (eLc vr mi (own.map (·.2)) g t m) := fun Wx tk =>
  (pe_lc hc hN (hi Wx tk) ok
    (fun s H C cl fp => ⟨fun pins s' σ H' v u Q I rv ⟨r, ρ, S, w, mm, rl, q⟩ => (lp.tgt s H C cl fp _ tk0).run pins s' σ H' v u Q I rv ⟨r, ρ, S, w, mm.blk rfl rfl, rl, by
      cases e : g w ρ S with
      | nx ρ' s' => rw [e] at q; exact fun r' σ' H' x m' hw => q r' σ' H' x (MtE.blk (X := X.blk s H scope (compEnvC scope cl C X.env) fp) m' rfl rfl) hw
      | _ => rw [e] at q; exact q⟩⟩)
    (fun s H C cl fp => ⟨fun pins s' σ H' Q I ⟨r, ρ, S, mm, q⟩ => (lp.tst s H C cl fp _ tk0).run pins s' σ H' Q I ⟨r, ρ, S, mm.blk rfl rfl, q⟩⟩)
    (fun s H C cl fp => (lp.elt s H C cl fp _ tk0).imp fun σ H' Q ⟨r, ρ, S, mm, q⟩ => ⟨r, ρ, S, mm.blk rfl rfl, q⟩) hs).imp fun σ H Q h => lc_run h
end
end RS
set_option Elab.async false
set_option linter.all false
set_option maxRecDepth 100000
set_option maxHeartbeats 1000000
set_option autoImplicit false
/-! RS.C25: dict comprehensions; comprehensions stored at once. -/
namespace RS
open PySem PySem.Spec PyProof.Rows L2
section
variable {T : List NdefX.NTab} {K : PySem.W.Frag} {mg : Str → Option Value} {r0 r : Rm} {s0 s : S} {H0 H : Hp}
/-- it is written -/
theorem Stp.over2 (x : Stp T K mg r0 s0 H0 r s H) {D : Addr} {u o2 : HO} (nu : ∀ xs, u ≠ .tup xs) (nt : ∀ ps, u ≠ .tbl ps) (nx : ∀ φ, u ≠ .ext φ) (nt2 : ∀ ps, o2 ≠ .tbl ps) (h0 : H0 D = Option.none) (hi : Off r s.nx D) (hD : H D = some u) : Stp T K mg r0 s0 H0 r s (upd H D o2) := by
  have kk : Kp r s.nx H r s.nx (upd H D o2) := ⟨Nat.le_refl _, fun _ _ => rfl, fun q zs h => by
    rw [upd_ne fun e => ?_]; exact h
    rw [e, hD] at h; exact nu _ (Option.some.inj h), fun _ f => f, fun q zs f h => by
    rw [upd_ne fun e => hi.2 (by rw [← e]; exact f)]; exact h⟩
  refine ⟨x.kp.trans kk, ⟨x.mt.inj, fun b o h => ?_, fun b hb => ?_, fun p hp => ?_, x.mt.lkb, fun q f => ⟨(x.mt.fr q f).1, (x.mt.fr q f).2.elim fun o e => ⟨o, kk.lst q o f e.1, e.2⟩⟩⟩, x.lk, x.lkd, fun b hb => ?_, fun q o h n t => ?_, fun q ps h => ?_, x.fre, x.fn⟩
  · obtain ⟨g1, u, g2, g3⟩ := x.mt.ob b o h
    exact ⟨g1, u, by rw [upd_ne (hi.1 b g1)]; exact g2, g3.kp kk⟩
  · obtain ⟨u, h2, h3⟩ := x.mt.dom b hb
    exact ⟨u, by rw [upd_ne (hi.1 b hb)]; exact h2, h3⟩
  · obtain ⟨ps, e1, e2, e3⟩ := x.mt.tab p hp
    refine ⟨ps, by rw [upd_ne (fun e => by rw [e, hD] at e1; exact nt _ (Option.some.inj e1))]; exact e1, e2, fun pos cv hc => ?_⟩
    obtain ⟨c, z1, z2⟩ := e3 pos cv hc
    refine ⟨c, z1, ?_⟩
    rw [upd_ne fun e => ?_]; exact z2
    rw [e, hD] at z2
    exact nx _ (Option.some.inj z2)
  · obtain ⟨h1, h2⟩ := x.lkh b hb
    refine ⟨h1, ?_⟩
    rw [upd_ne fun e => hi.1 b (Nat.lt_of_lt_of_le h1 x.kp.le) ((x.kp.eq b h1).trans e)]
    exact h2
  · rw [upd_ne fun e => by rw [e, h0] at h; cases h]
    exact x.frm q o h n t
  · obtain ⟨more, e⟩ := x.tbl q ps h
    refine ⟨more, ?_⟩
    rw [upd_ne fun e => by rw [e, h0] at h; cases h]
    exact e
/-- it is named -/
theorem Stp.adopt2 (x : Stp T K mg r0 s0 H0 r s H) {D : Addr} {ho : HO} {o : O} (h0 : H0 D = Option.none) (hi : Off r s.nx D) (hD : H D = some ho) (rl : RelO K mg (rN r s.nx D) (s.nx + 1) s.lk H s.nx o ho) : Stp T K mg r0 s0 H0 (rN r s.nx D) (s.new o) H := by
  have kk : Kp r s.nx H (rN r s.nx D) (s.nx + 1) H := ⟨Nat.le_succ _, fun a h => rN_lt h, fun q xs h => h, fun _ f => f, fun _ _ _ h => h⟩
  refine ⟨x.kp.trans kk, ⟨fun a b ha hb e => ?_, fun a o' h => ?_, fun a ha => ?_, x.mt.tab, fun a ha => Nat.lt_succ_of_lt (x.mt.lkb a ha), fun q f => ⟨fun a ha e => ?_, (x.mt.fr q f).2⟩⟩, x.lk, fun a ha => ?_, x.lkh, x.frm, x.tbl, fun a h1 h2 => ?_, x.fn⟩
  · have ha : a < s.nx + 1 := ha
    have hb : b < s.nx + 1 := hb
    by_cases h1 : a = s.nx
    · by_cases h2 : b = s.nx
      · rw [h1, h2]
      · have hb' : b < s.nx := by omega
        rw [h1, rN_at, rN_lt hb'] at e
        exact absurd e.symm (hi.1 b hb')
    · have ha' : a < s.nx := by omega
      by_cases h2 : b = s.nx
      · rw [h2, rN_at, rN_lt ha'] at e
        exact absurd e (hi.1 a ha')
      · have hb' : b < s.nx := by omega
        rw [rN_lt ha', rN_lt hb'] at e
        exact x.mt.inj a b ha' hb' e
  · have h : (if a = s.nx then some o else s.at_ a) = some o' := h
    by_cases h1 : a = s.nx
    · rw [if_pos h1] at h
      cases h
      subst h1
      exact ⟨Nat.lt_succ_self _, _, by rw [rN_at]; exact hD, rl⟩
    · rw [if_neg h1] at h
      obtain ⟨g1, u, g2, g3⟩ := x.mt.ob a o' h
      exact ⟨Nat.lt_succ_of_lt g1, u, by rw [rN_lt g1]; exact g2, g3.kp kk⟩
  · have ha : a < s.nx + 1 := ha
    by_cases h1 : a = s.nx
    · subst h1
      exact ⟨_, by rw [rN_at]; exact hD, rl.notup.2.1⟩
    · have ha' : a < s.nx := by omega
      obtain ⟨u, h2, h3⟩ := x.mt.dom a ha'
      exact ⟨u, by rw [rN_lt ha']; exact h2, h3⟩
  · have ha : a < s.nx + 1 := ha
    by_cases h1 : a = s.nx
    · subst h1
      rw [rN_at] at e
      rw [← e] at f
      exact hi.2 f
    · have ha' : a < s.nx := by omega
      rw [rN_lt ha'] at e
      exact (x.mt.fr q f).1 a ha' e
  · show (if a = s.nx then some o else s.at_ a) = s0.at_ a
    have : a < s.nx := x.mt.lkb a (by rw [x.lk]; exact ha)
    rw [if_neg (Nat.ne_of_lt this)]
    exact x.lkd a ha
  · have h2 : a < s.nx + 1 := h2
    by_cases e : a = s.nx
    · subst e
      rw [rN_at]; exact h0
    · rw [rN_lt (by omega)]
      exact x.fre a h1 (by omega)
theorem PostE.adoptD {X : Wish} {v : Bool} {l : List (W × W)} {Q : VK} (q : PostE T K mg r0 s0 H0 (mkD v l s) Q X) (x : Stp T K mg r0 s0 H0 r s H) {D : Addr} {xs : List (Key × V)} (h0 : H0 D = Option.none) (hi : Off r s.nx D) (hD : H D = some (.dK xs)) (rl : RKV K r s.nx H l xs) : FzQ v Q (.ref D) H := by
  cases v with
  | true =>
    refine ⟨D, xs, rfl, hD, fun od => ?_⟩
    have y := x.over2 (u := .dK xs) (o2 := .frz od (.dK xs)) (fun _ z => nomatch z) (fun _ z => nomatch z) (fun _ z => nomatch z) (fun _ z => nomatch z) h0 hi hD
    have kk : Kp r s.nx (upd H D (.frz od (.dK xs))) (rF r D) s.nx (upd H D (.frz od (.dK xs))) := ⟨Nat.le_refl _, fun _ _ => rfl, fun q xs h => h, fun _ f => .inr f, fun _ _ _ h => h⟩
    have k0 : Kp r s.nx H r s.nx (upd H D (.frz od (.dK xs))) := ⟨Nat.le_refl _, fun _ _ => rfl, fun q zs h => by
      rw [upd_ne fun e => ?_]; exact h
      rw [e, hD] at h; (cases h), fun _ f => f, fun q zs f h => by
      rw [upd_ne fun e => hi.2 (by rw [← e]; exact f)]; exact h⟩
    refine q (rF r D) _ _ ⟨y.kp.trans kk, ⟨y.mt.inj, fun a o' h => ?_, y.mt.dom, y.mt.tab, y.mt.lkb, fun q f => ?_⟩, y.lk, y.lkd, y.lkh, y.frm, y.tbl, y.fre, fun q f => ?_⟩ (mDct (r := rF r D) (.inl rfl) upd_same (Paired.mapP rl fun _ _ z => ⟨z.1, (z.2.kp k0).kp kk⟩))
    · obtain ⟨g1, u, g2, g3⟩ := y.mt.ob a o' h
      exact ⟨g1, u, g2, g3.kp kk⟩
    · rcases f with e | f
      · rw [e]; exact ⟨hi.1, _, upd_same, fun _ z => nomatch z⟩
      · exact y.mt.fr q f
    · rcases f with e | f
      · rw [e]; exact .inr h0
      · exact y.fn q f
  | false =>
    refine q _ _ _ (x.adopt2 h0 hi hD ⟨xs, ⟨fun z => absurd (x.mt.lkb _ z) (Nat.lt_irrefl _), fun _ => rfl⟩, Paired.mapP rl fun _ _ z => ⟨z.1, z.2.kp ⟨Nat.le_succ _, fun a h => rN_lt h, fun q xs h => h, fun _ f => f, fun _ _ _ h => h⟩⟩⟩) ?_
    unfold RelW
    exact ⟨Nat.lt_succ_self _, by rw [rN_at]⟩
end
/-! ### {k: v for target in iter if ..} -/
def dcLoop (p : PIt) (g : G) (t : RS.T) (mk m : E) (ρ0 : Env) : Nat → Nat → List (W × W) → M (List (W × W))
  | 0, _, _ => fun _ => .bad
  | f + 1, i, acc => fun s => match p.at' i s with
    | some none => .ok acc s
    | some (some w) => match g w ρ0 s with
      | .nx ρ1 s1 => match t ρ1 s1 with
        | .ok true s2 => match mk ρ1 s2 with
          | .ok y s3 => match m ρ1 s3 with
            | .ok z s4 => if isKey y = true ∧ acc.length < sizeLine then dcLoop p g t mk m ρ0 f (i + 1) (dput acc y z) s4 else .bad
            | _ => .bad
          | _ => .bad
        | .ok false s2 => dcLoop p g t mk m ρ0 f (i + 1) acc s2
        | _ => .bad
      | _ => .bad
    | none => .bad
def eDc (v : Bool) (mi : It') (own : List Nat) (g : G) (t : RS.T) (mk m : E) : E := fun ρ s => (mi ρ s).bind fun p s1 => (dcLoop p g t mk m (wipeE ρ own) (p.n + 1) 0 [] s1).bind fun ws s2 => mkD v ws s2
theorem dcLoop_no {p : PIt} {g : G} {t : RS.T} {mk m : E} {ρ0 : Env} : ∀ {f i : Nat} {acc : List (W × W)} {s : S} {c : Str} {s' : S}, dcLoop p g t mk m ρ0 f i acc s ≠ .ex c s'
  | 0, _, _, _, _, _ => fun z => by cases z
  | f + 1, i, acc, s, c, s' => fun z => by
    unfold dcLoop at z
    split at z
    · cases z
    · split at z
      · split at z
        · split at z
          · split at z
            · split at z
              · exact dcLoop_no z
              · cases z
            · cases z
          · cases z
        · exact dcLoop_no z
        · cases z
      · cases z
    · cases z
section
variable {T : List NdefX.NTab} {X : Cx} {pos : Pos} {tg elt iter : Expr} {ifs : List Expr} {scope : Scope} {own : List (Str × Nat)} {mi : It'} {g : G} {t : RS.T} {mk m : E} {kx : Expr}
/-- what is asked of a comprehension's parts -/
structure DParts (T : List NdefX.NTab) (X : Cx) (scope : Scope) (vs : List Nat) (tg kx elt : Expr) (ifs : List Expr) (g : G) (t : RS.T) (mk m : E) : Prop where
  tgt : ∀ (s : Shared) (H : Hp) (C : Addr) (cl : List (Str × Addr)) (fp : List Addr), RGv T (X.blk s H scope (compEnvC scope cl C X.env) fp) vs tg g
  tst : ∀ (s : Shared) (H : Hp) (C : Addr) (cl : List (Str × Addr)) (fp : List Addr), RTs T (X.blk s H scope (compEnvC scope cl C X.env) fp) ifs t
  key : ∀ (s : Shared) (H : Hp) (C : Addr) (cl : List (Str × Addr)) (fp : List Addr), RE T (X.blk s H scope (compEnvC scope cl C X.env) fp) kx mk
  elt : ∀ (s : Shared) (H : Hp) (C : Addr) (cl : List (Str × Addr)) (fp : List Addr), RE T (X.blk s H scope (compEnvC scope cl C X.env) fp) elt m
theorem dc_run {vr : Bool} {Wx : Wish} {σ : L2.St} {H : Hp} {Q Q2 : VK} {vs : List Nat} (h : rdE T X (eDc vr mi vs g t mk m) Wx σ H Q) (hQ : ∀ x H, FzQ vr Q x H → Q2 x H) : tDc (rdI T X mi Wx) (gLc T X vs g) (rdT T X t fun _ _ => False) (rdE T X mk fun _ _ => False) (rdE T X m fun _ _ => False) vs σ H Q2 := by
  obtain ⟨r, ρ, s, mm, q⟩ := h
  unfold eDc at q
  refine ⟨r, ρ, s, mm, ?_⟩
  cases e : mi ρ s with
  | ex c s1 => rw [e] at q; exact fun r' H' x => q r' H' x
  | bad => rw [e] at q; exact q
  | ok p s1 =>
    rw [e] at q
    simp only [Out.bind] at q
    intro r1 H1 J st rel D hD
    have mm1 := mm.step st
    have j0 : Stp T X.K X.mg r1 s1 H1 r1 s1 (upd H1 D (.dK [])) := st.mt.junk hD
    refine ⟨fun i n H => ∃ r s acc xs, Stp T X.K X.mg r1 s1 H1 r s H ∧ Off r s.nx D ∧ H D = some (.dK xs) ∧ RKV X.K r s.nx H acc xs ∧
      PostE T X.K X.mg r1 s1 H1 (match dcLoop p g t mk m (wipeE ρ vs) n i acc s with
        | .ok ws s2 => mkD vr ws s2
        | .ex c s2 => .ex c s2
        | .bad => .bad) Q Wx,
      ⟨p.n + 1, r1, s1, [], [], j0, ⟨fun a ha => st.mt.ne hD ha, fun f => (st.mt.fr D f).2.elim fun _ e => by rw [hD] at e; cases e.1⟩, upd_same, .nil, (PostE.shift (X := Wx) (by
        revert q
        cases dcLoop p g t mk m (wipeE ρ vs) (p.n + 1) 0 [] s1 <;> exact id) st)⟩, ?_⟩
    clear q
    rintro i n H ⟨r, s, acc, xs, x, hi, hDx, rl, q⟩
    cases n with
    | zero => exact False.elim q
    | succ n =>
      unfold dcLoop at q
      obtain ⟨ry, rs⟩ := rel i r s H x
      cases e : p.at' i s with
      | none => rw [e] at q; exact False.elim q
      | some o =>
        rw [e] at q
        cases o with
        | none =>
          refine .inl ⟨rs e, ?_⟩
          exact hQ _ _ (PostE.adoptD q x hD hi hDx rl)
        | some w =>
          obtain ⟨go, yl⟩ := ry w e
          refine .inr ⟨go, fun H' => ∃ r s acc xs, Stp T X.K X.mg r1 s1 H1 r s H' ∧ Off r s.nx D ∧ H' D = some (.dK xs) ∧ RKV X.K r s.nx H' acc xs ∧
            PostE T X.K X.mg r1 s1 H1 (match dcLoop p g t mk m (wipeE ρ vs) n (i + 1) acc s with
              | .ok ws s2 => mkD vr ws s2
              | .ex c s2 => .ex c s2
              | .bad => .bad) Q Wx, fun H' z => ⟨n, Nat.lt_succ_self n, z⟩, fun v H' y => ?_⟩
          obtain ⟨r', sy, rlv⟩ := yl v H' y
          obtain ⟨hi', hD'⟩ := sy.off hDx hi fun ps z => by cases z
          refine ⟨r', wipeE ρ vs, s, w, ((mm1.step x).step sy).wipe vs rfl rfl, rlv, ?_⟩
          simp only at q
          cases e2 : g w (wipeE ρ vs) s with
          | nx ρ2 s2 =>
            rw [e2] at q
            intro r2 σ2 H2 p2 m2 hw
            refine ⟨hw.trans (wipe_wipe σ vs), r2, ρ2, s2, m2, ?_⟩
            obtain ⟨hi2, hD2⟩ := p2.off hD' hi' fun ps z => by cases z
            simp only at q
            cases e3 : t ρ2 s2 with
            | ex c s3 => rw [e3] at q; exact False.elim q
            | bad => rw [e3] at q; exact False.elim q
            | ok b s3 =>
              rw [e3] at q
              intro r3 H3 p3
              obtain ⟨hi3, hD3⟩ := p3.off hD2 hi2 fun ps z => by cases z
              cases b with
              | false =>
                simp only [Bool.false_eq_true, if_false] at q ⊢
                exact ⟨r3, s3, acc, xs, x.trans (sy.trans (p2.trans p3)), hi3, hD3, Paired.mapP rl fun _ _ z => ⟨z.1, z.2.kp (sy.trans (p2.trans p3)).kp⟩, q⟩
              | true =>
                simp only [if_true] at q ⊢
                refine ⟨r3, ρ2, s3, m2.step p3, ?_⟩
                cases e4 : mk ρ2 s3 with
                | ex c s4 => rw [e4] at q; exact False.elim q
                | bad => rw [e4] at q; exact False.elim q
                | ok yv s4 =>
                  rw [e4] at q
                  intro r4 H4 yw p4 rly
                  obtain ⟨hi4, hD4⟩ := p4.off hD3 hi3 fun ps z => by cases z
                  refine ⟨r4, ρ2, s4, (m2.step p3).step p4, ?_⟩
                  simp only at q
                  cases e5 : m ρ2 s4 with
                  | ex c s5 => rw [e5] at q; exact False.elim q
                  | bad => rw [e5] at q; exact False.elim q
                  | ok zv s5 =>
                    rw [e5] at q
                    intro r5 H5 zw p5 rlz
                    obtain ⟨hi5, hD5⟩ := p5.off hD4 hi4 fun ps z => by cases z
                    simp only at q
                    by_cases hz : isKey yv = true ∧ acc.length < sizeLine
                    · rw [if_pos hz] at q
                      obtain ⟨hk, hz⟩ := hz
                      obtain ⟨k, rfl⟩ := isKey_ex hk
                      obtain rfl := relW_key rly
                      have pall := sy.trans (p2.trans (p3.trans (p4.trans p5)))
                      have rl5 : RKV X.K r5 s5.nx H5 acc xs := Paired.mapP rl fun _ _ z => ⟨z.1, z.2.kp pall.kp⟩
                      refine ⟨xs, k, rfl, hD5, by rw [← rl5.len]; exact hz, r5, s5, dput acc (kW k) zv, putK xs k zw, (x.trans pall).over2 (u := .dK xs) (o2 := .dK (putK xs k zw)) (fun _ z => nomatch z) (fun _ z => nomatch z) (fun _ z => nomatch z) (fun _ z => nomatch z) hD hi5 hD5, hi5, upd_same, ?_, q⟩
                      have kk : Kp r5 s5.nx H5 r5 s5.nx (upd H5 D (.dK (putK xs k zw))) := ⟨Nat.le_refl _, fun _ _ => rfl, fun q zs h => by
                        rw [upd_ne fun e => ?_]; exact h
                        rw [e, hD5] at h; (cases h), fun _ f => f, fun q zs f h => by
                        rw [upd_ne fun e => hi5.2 (by rw [← e]; exact f)]; exact h⟩
                      exact Paired.mapP (rl5.put k rlz) fun _ _ z => ⟨z.1, z.2.kp kk⟩
                    · rw [if_neg hz] at q; exact False.elim q
          | _ => rw [e2] at q; exact False.elim q
theorem rs_dc {vr : Bool} (hc : X.calm = true) (hN : X.N.Nodup) (hi : RI T X tg iter mi) (ok : BlkOk X.N X.env.scope scope own) (lp : DParts T X scope (own.map (·.2)) tg kx elt ifs g t mk m) (hs : ∀ x, foldedSetIterable iter X.env x = pure x := by intro _; rfl) :
    RE T X (.DictComp kx elt [⟨tg, iter, ifs, 0⟩] scope pos) (eDc vr mi (own.map (·.2)) g t mk m) := fun Wx tk =>
  (PE.fz (v := vr) (pe_dc hc hN (hi Wx tk) ok
    (fun s H C cl fp => ⟨fun pins s' σ H' v u Q I rv ⟨r, ρ, S, w, mm, rl, q⟩ => (lp.tgt s H C cl fp _ tk0).run pins s' σ H' v u Q I rv ⟨r, ρ, S, w, mm.blk rfl rfl, rl, by
      cases e : g w ρ S with
      | nx ρ' s' => rw [e] at q; exact fun r' σ' H' x m' hw => q r' σ' H' x (MtE.blk (X := X.blk s H scope (compEnvC scope cl C X.env) fp) m' rfl rfl) hw
      | _ => rw [e] at q; exact q⟩⟩)
    (fun s H C cl fp => ⟨fun pins s' σ H' Q I ⟨r, ρ, S, mm, q⟩ => (lp.tst s H C cl fp _ tk0).run pins s' σ H' Q I ⟨r, ρ, S, mm.blk rfl rfl, q⟩⟩)
    (fun s H C cl fp => (lp.key s H C cl fp _ tk0).imp fun σ H' Q ⟨r, ρ, S, mm, q⟩ => ⟨r, ρ, S, mm.blk rfl rfl, q⟩)
    (fun s H C cl fp => (lp.elt s H C cl fp _ tk0).imp fun σ H' Q ⟨r, ρ, S, mm, q⟩ => ⟨r, ρ, S, mm.blk rfl rfl, q⟩) hs)).imp fun σ H Q h => dc_run h fun _ _ z => z
theorem ps_setDc {i : Nat} {y : Str} {py : Pos} {kx vx tg iter : Expr} {ifs : List Expr} {scope : Scope} {own : List (Str × Nat)} {pos spos : Pos} {wi : TI} {g : TG} {tt : TT} {tk tv : TE} (hc : X.calm = true) (hN : X.N.Nodup) (hy : X.N[i]? = some y) (hyl : X.env.scope.names.lookup y = some .local)
    (hsw : swapsWith (.DictComp kx vx [⟨tg, iter, ifs, 0⟩] scope pos) (some (.Name y py)) spos.line X.env = pure true) (hi : PI X tg iter wi) (ok : BlkOk X.N X.env.scope scope own)
    (hg : ∀ (s : Shared) (H : Hp) (C : Addr) (cl : List (Str × Addr)) (fp : List Addr), PG (X.blk s H scope (compEnvC scope cl C X.env) fp) tg g) (ht : ∀ (s : Shared) (H : Hp) (C : Addr) (cl : List (Str × Addr)) (fp : List Addr), PTs (X.blk s H scope (compEnvC scope cl C X.env) fp) ifs tt)
    (hk : ∀ (s : Shared) (H : Hp) (C : Addr) (cl : List (Str × Addr)) (fp : List Addr), PE (X.blk s H scope (compEnvC scope cl C X.env) fp) kx tk)
    (he : ∀ (s : Shared) (H : Hp) (C : Addr) (cl : List (Str × Addr)) (fp : List Addr), PE (X.blk s H scope (compEnvC scope cl C X.env) fp) vx tv) (hs : ∀ x, foldedSetIterable iter X.env x = pure x := by intro _; rfl) :
    PS X (.Assign [.Name y py] (.DictComp kx vx [⟨tg, iter, ifs, 0⟩] scope pos) spos) (tAsg (tDc wi g tt tk tv (own.map (·.2))) (gName i)) := by
  refine ⟨fun pins s σ H D I h => ?_⟩
  rw [exec_Assign_Name_used _ _ _ _ hsw]
  refine wpAny_bind (wpAny_standAt (wpAny_bind ?_))
  show wpAny _ X.A (do let _ ← comprehension (.DictComp kx vx [⟨tg, iter, ifs, 0⟩] scope pos) scope X.env (firstIterPos [⟨tg, iter, ifs, 0⟩] pos) newDict false (eval iter X.env) (some (assign (.Name y py) X.env))) _ _ s
  have h : tDc wi g tt tk tv (own.map (·.2)) σ H (fun x H1 => gName i x σ H1 D.nx) := h
  refine wpAny_bind (thn (dc_core (Qf := fun _ s' => SP X pins D .next s') hc hN I hi ok hg ht hk he hs h fun L C s' m H' I' q hn f => ?_) fun _ s' hq => wpAny_pure (wpAny_pure hq))
  show wpAny _ _ (assign (.Name y py) X.env (.ref L)) _ _ _
  refine wpAny_assign_Name (store_ok2 (v := V.ref L) I' hN hy (.inl hyl) rfl (fun s2 I2 ⟨a, sb, ha⟩ => ?_) (.inr hyl))
  obtain ⟨f0, f1, f2, f3, f4, f5⟩ := f
  have haC : C ≠ a := by
    rcases ha with z | z
    · rw [z]; exact f1
    · exact fun e => f4 y a z e.symm
  refine ⟨m, hn.sameBut sb haC, fun h3 sb3 => ?_⟩
  exact ⟨_, H', I2.turned (t' := s2.toks) (fun b o hb e => (sb3.2 b hb).trans e) f0 f1 f3 f4 f5, q⟩
theorem PG.of {Y : Cx} {vs : List Nat} {tg : Expr} {g : G} (hK : Y.K = X.K) (hm : Y.mg = X.mg) (h : RGv T Y vs tg g) : PG Y tg (gLc T X vs g) := ⟨fun pins s' σ H' v u Q I rv ⟨r, ρ, S, w, mm, rl, q⟩ => (h _ tk0).run pins s' σ H' v u Q I rv ⟨r, ρ, S, w, mm.blk hK hm, by rw [hK]; exact rl, by
      unfold PostG at q ⊢
      rw [hK, hm]
      cases e : g w ρ S with
      | nx ρ' s' => rw [e] at q; exact fun r' σ' H' x m' hw => q r' σ' H' x (MtE.blk (X := Y) m' hK.symm hm.symm) hw
      | _ => rw [e] at q; exact q⟩⟩
theorem PTs.of {Y : Cx} {ifs : List Expr} {t : RS.T} (hK : Y.K = X.K) (hm : Y.mg = X.mg) (h : RTs T Y ifs t) : PTs Y ifs (rdT T X t fun _ _ => False) := ⟨fun pins s' σ H' Q I ⟨r, ρ, S, mm, q⟩ => (h _ tk0).run pins s' σ H' Q I ⟨r, ρ, S, mm.blk hK hm, by rw [hK, hm]; exact q⟩⟩
theorem PE.of {Y : Cx} {e : Expr} {m : E} (hK : Y.K = X.K) (hm : Y.mg = X.mg) (h : RE T Y e m) : PE Y e (rdE T X m fun _ _ => False) := (h _ tk0).imp fun σ H' Q ⟨r, ρ, S, mm, q⟩ => ⟨r, ρ, S, mm.blk hK hm, by rw [hK, hm]; exact q⟩
theorem st_setLc {vr : Bool} {i : Nat} {y : Str} {py spos : Pos} (hc : X.calm = true) (hN : X.N.Nodup) (hi : RI T X tg iter mi) (ok : BlkOk X.N X.env.scope scope own) (lp : LParts T X scope (own.map (·.2)) tg elt ifs g t m) (hy : X.N[i]? = some y := by rfl) (hyl : X.env.scope.names.lookup y = some .local := by rfl)
    (hsw : swapsWith (.ListComp elt [⟨tg, iter, ifs, 0⟩] scope pos) (some (.Name y py)) spos.line X.env = pure true := by rfl) (hs : ∀ x, foldedSetIterable iter X.env x = pure x := by intro _; rfl) :
    RS_ T X (.Assign [.Name y py] (.ListComp elt [⟨tg, iter, ifs, 0⟩] scope pos) spos) (bAsg (eLc vr mi (own.map (·.2)) g t m) (gN i)) := fun Wx tk => by
  refine (ps_setLc hc hN hy hyl hsw (hi Wx tk) ok (fun s H C cl fp => PG.of rfl rfl (lp.tgt s H C cl fp)) (fun s H C cl fp => PTs.of rfl rfl (lp.tst s H C cl fp)) (fun s H C cl fp => PE.of rfl rfl (lp.elt s H C cl fp)) hs).imp fun D σ H h => ?_
  obtain ⟨r, ρ, s, mm, q⟩ := h
  refine lc_run (vr := vr) ⟨r, ρ, s, mm, ?_⟩
  unfold bAsg at q
  cases e : eLc vr mi (own.map (·.2)) g t m ρ s with
  | ok w s1 => rw [e] at q; exact fun r1 H1 v p1 l1 => q r1 _ H1 p1 ((mm.step p1).set l1 i)
  | ex c s1 => rw [e] at q; exact fun r1 H1 p1 => q r1 H1 p1
  | bad => rw [e] at q; exact q
theorem PS.fz {X : Cx} {st : Stmt} {t : TS} (v : Bool) (h : PS X st t) : PS X st fun D σ H => t { D with nx := if v = true then (fun σ' H' => ∃ p kvs, H' p = some (.dK kvs) ∧ ∀ od, D.nx σ' (upd H' p (.frz od (.dK kvs)))) else D.nx } σ H := ⟨fun pins s σ H D I q => wpAny_mono (h.run pins s σ H _ I q) (fun f s' z => by
  cases f with
  | next =>
    obtain ⟨σ', H', I', z⟩ := z
    cases v with
    | false => exact ⟨σ', H', I', z⟩
    | true =>
      obtain ⟨p, kvs, e, z⟩ := z
      obtain ⟨od, I2⟩ := I'.lock e trivial
      exact ⟨σ', _, I2, z od⟩
  | brk => exact z
  | cont => exact z
  | ret v => exact z) fun _ _ z => z⟩
theorem st_setDc {vr : Bool} {i : Nat} {y : Str} {py spos : Pos} (hc : X.calm = true) (hN : X.N.Nodup) (hi : RI T X tg iter mi) (ok : BlkOk X.N X.env.scope scope own) (lp : DParts T X scope (own.map (·.2)) tg kx elt ifs g t mk m) (hy : X.N[i]? = some y := by rfl) (hyl : X.env.scope.names.lookup y = some .local := by rfl)
    (hsw : swapsWith (.DictComp kx elt [⟨tg, iter, ifs, 0⟩] scope pos) (some (.Name y py)) spos.line X.env = pure true := by rfl) (hs : ∀ x, foldedSetIterable iter X.env x = pure x := by intro _; rfl) :
    RS_ T X (.Assign [.Name y py] (.DictComp kx elt [⟨tg, iter, ifs, 0⟩] scope pos) spos) (bAsg (eDc vr mi (own.map (·.2)) g t mk m) (gN i)) := fun Wx tk => by
  refine (PS.fz vr (ps_setDc hc hN hy hyl hsw (hi Wx tk) ok (fun s H C cl fp => PG.of rfl rfl (lp.tgt s H C cl fp)) (fun s H C cl fp => PTs.of rfl rfl (lp.tst s H C cl fp)) (fun s H C cl fp => PE.of rfl rfl (lp.key s H C cl fp)) (fun s H C cl fp => PE.of rfl rfl (lp.elt s H C cl fp)) hs)).imp fun D σ H h => ?_
  obtain ⟨r, ρ, s, mm, q⟩ := h
  refine dc_run (vr := vr) (Q := fun x H1 => gName i x σ H1 D.nx) ⟨r, ρ, s, mm, ?_⟩ (fun x H1 z => ?_)
  rotate_left
  · cases vr with
    | false => exact z
    | true =>
      obtain ⟨p, kvs, _, e, z⟩ := z
      exact ⟨p, kvs, e, z⟩
  unfold bAsg at q
  cases e : eDc vr mi (own.map (·.2)) g t mk m ρ s with
  | ok w s1 => rw [e] at q; exact fun r1 H1 v p1 l1 => q r1 _ H1 p1 ((mm.step p1).set l1 i)
  | ex c s1 => rw [e] at q; exact fun r1 H1 p1 => q r1 H1 p1
  | bad => rw [e] at q; exact q
end
end RS
set_option Elab.async false
set_option linter.all false
set_option maxRecDepth 100000
set_option maxHeartbeats 1000000
set_option autoImplicit false
/-! RS.C26: methods of built-in types. -/
namespace RS
open PySem PySem.Spec PyProof.Rows L2

/-- a row of the table of methods: the type, the built-in, what it does -/
def isTy (ty : String) (w : W) (s : S) : Bool := match w with
  | .str _ => ty == "str"
  | .lst _ => ty == "list"
  | .dct _ _ => ty == "dict"
  | .ref a => match s.at_ a with
    | some (.lst _) => ty == "list"
    | some (.dct _) => ty == "dict"
    | _ => false
  | _ => false
def MetW (T : List NdefX.NTab) (X : Cx) (id : String) (g : List W → M W) : Prop := ∀ Wx, Tk X Wx → MtR X id fun x xs H Q => ∃ r s w ws, Mt T X.K X.mg r s H ∧ RelW X.K r s.nx H w x ∧ RelWs X.K r s.nx H ws xs ∧ PostE T X.K X.mg r s H (g (w :: ws) s) Q Wx
structure Met (T : List NdefX.NTab) (X : Cx) (name : Str) (ty : String) (g : List W → M W) : Prop where
  ex : ∃ id, PlainAttrs ty ∧ Slot ty name id ∧ typeOf (.builtin id) = pure (.type "method_descriptor") ∧ MetW T X id g
def eBm (ty : String) (g : List W → M W) (mo : E) (ms : Es) : E := fun ρ s => (mo ρ s).bind fun w s1 => if isTy ty w s1 = true then (ms ρ s1).bind fun ws => g (w :: ws) else .bad
section
variable {T : List NdefX.NTab} {X : Cx} {pos : Pos}
theorem isTy_ok {pins : List (Addr × Obj)} {σ : L2.St} {H : Hp} {sh : Shared} {r : Rm} {s : S} (I : Inv X pins σ H sh) (m : Mt T X.K X.mg r s H) {ty : String} {w : W} {x : V} {v : Value} (rl : RelW X.K r s.nx H w x) (rv : L2.RelV x v) (h : isTy ty w s = true) :
    sh.TypeIs v ty ∧ ∀ a, v = .ref a → ∃ ob, sh.heap.get? a = some ob ∧ ob.dict = none := by
  unfold isTy at h
  split at h
  · obtain rfl := rStr rl
    obtain ⟨t, rfl⟩ := rv
    obtain rfl := eq_of_beq h
    exact ⟨typeIs_str sh _ t, fun _ e => nomatch e⟩
  · obtain ⟨p, xs, rfl, _, h1, _⟩ := rLst rl
    cases (show v = Value.ref _ from rv)
    obtain rfl := eq_of_beq h
    exact tyV_is (T := "list") I (show L2.RelV (.ref _) _ from rfl) (.inl ⟨rfl, xs, .inl (.inl h1)⟩)
  · obtain rfl := eq_of_beq h
    obtain ⟨p, kvs, rfl, h1, _⟩ := m.dc rl (by rfl)
    cases (show v = Value.ref _ from rv)
    obtain ⟨t1, t2, _⟩ := isD_at I (.inl ⟨kvs, h1⟩)
    exact ⟨t1, t2⟩
  · obtain ⟨_, rfl⟩ := rRef rl
    cases (show v = Value.ref _ from rv)
    split at h
    · rename_i l e
      obtain rfl := eq_of_beq h
      obtain ⟨_, xs, h1, _⟩ := m.lst e
      exact tyV_is (T := "list") I (show L2.RelV (.ref _) _ from rfl) (.inl ⟨rfl, xs, .inl (.inl h1)⟩)
    · rename_i l e
      obtain rfl := eq_of_beq h
      obtain ⟨_, kvs, h1, _⟩ := m.dct e
      obtain ⟨t1, t2, _⟩ := isD_at I (.inl ⟨kvs, h1⟩)
      exact ⟨t1, t2⟩
    · cases h
  · cases h
section
variable {o e : Expr} {es : List Expr} {name : Str} {apos cpos : Pos} {ty : String} {g : List W → M W} {mo : E} {ms : Es}
theorem rs_bm0 (mt : Met T X name ty g) (ho : RE T X o mo)
    (hbase : attributeBase o name X.env (eval o X.env) = eval o X.env := by rfl) (hline : (apos.endLine == cpos.line) = true := by rfl) : RE T X (.Call (.Attribute o name apos) [] [] cpos) (eBm ty g mo eNil) := fun Wx tk => by
  obtain ⟨id, pa, slot, hty, hm⟩ := mt.ex
  refine ⟨fun pins s σ H Q I h => ?_⟩
  refine wpAny_Call_method0_late hbase hline (thn ((ho Wx tk).run pins s σ H (fun x H1 => ∃ r S w, Mt T X.K X.mg r S H1 ∧ RelW X.K r S.nx H1 w x ∧ isTy ty w S = true ∧ PostE T X.K X.mg r S H1 (g [w] S) Q Wx) I ?_) fun v s1 ⟨x, H1, I1, r1, r, S, w, mm, rl, it, q1⟩ => ?_)
  · obtain ⟨r, ρ, S, mm, q⟩ := h
    unfold eBm at q
    refine rdE.go mm (fun w s1 e1 r1 H1 v1 p1 l1 m1 => ?_) (fun c s1 e1 r1 H1 p1 => ?_) (fun e1 => ?_)
    · rw [e1] at q
      simp only [Out.bind] at q
      by_cases hi : isTy ty w s1 = true
      · rw [if_pos hi] at q
        exact ⟨r1, s1, w, m1.mt, l1, hi, PostE.shift q p1⟩
      · rw [if_neg hi] at q; exact False.elim q
    · rw [e1] at q; exact q r1 H1 p1
    · rw [e1] at q; exact q
  · obtain ⟨h1, h2⟩ := isTy_ok I1 mm rl r1 it
    exact ⟨ty, id, pa, slot, hty, h1, h2, Calls.callWith_builtin rfl (PySem.evalArgs_none (hm Wx tk pins s1 σ H1 x [] v [] Q I1 r1 .nil ⟨r, S, w, [], mm, rl, by unfold RelWs; rfl, q1⟩))⟩
theorem rs_bm (mt : Met T X name ty g) (ho : RE T X o mo) (ha : RA T X (e :: es) ms)
    (hbase : attributeBase o name X.env (eval o X.env) = eval o X.env := by rfl)
    (hfew : ((backTo cpos (starEach (e :: es) X.env)).all (fun x => !x.1) && (backToKw cpos (keywordEach [] X.env)).all (fun x => x.1.isSome)
      && decide ((e :: es).length + ([] : List Keyword).length + (if ([] : List Keyword).isEmpty then 0 else 1) < 30)) = true := by rfl)
    (hline : (apos.endLine == cpos.line) = true := by rfl) (hs : starEach (e :: es) X.env = (false, eval e X.env) :: starEach es X.env := by rfl) (hplain : (backTo cpos (starEach es X.env)).any (·.1) = false := by rfl) :
    RE T X (.Call (.Attribute o name apos) (e :: es) [] cpos) (eBm ty g mo ms) := fun Wx tk => by
  obtain ⟨id, pa, slot, hty, hm⟩ := mt.ex
  refine ⟨fun pins s σ H Q I h => ?_⟩
  refine wpAny_Call_method_late hbase hfew hline rfl (thn ((ho Wx tk).run pins s σ H (fun x H1 => ∃ r S w, Mt T X.K X.mg r S H1 ∧ RelW X.K r S.nx H1 w x ∧ isTy ty w S = true ∧ rdA T X ms Wx σ H1 fun vs H2 => ∃ r s ws, Mt T X.K X.mg r s H2 ∧ RelW X.K r s.nx H2 w x ∧ RelWs X.K r s.nx H2 ws vs ∧ PostE T X.K X.mg r s H2 (g (w :: ws) s) Q Wx) I ?_) fun v s1 ⟨x, H1, I1, r1, r, S, w, mm, rl, it, q1⟩ => ?_)
  · obtain ⟨r, ρ, S, mm, q⟩ := h
    unfold eBm at q
    refine rdE.go mm (fun w s1 e1 r1 H1 v1 p1 l1 m1 => ?_) (fun c s1 e1 r1 H1 p1 => ?_) (fun e1 => ?_)
    · rw [e1] at q
      simp only [Out.bind] at q
      by_cases hi : isTy ty w s1 = true
      · rw [if_pos hi] at q
        refine ⟨r1, s1, w, m1.mt, l1, hi, ?_⟩
        refine rdA.go m1 (fun ws s2 e2 r2 H2 vs p2 l2 m2 => ?_) (fun c s2 e2 r2 H2 p2 => ?_) (fun e2 => ?_)
        · rw [e2] at q
          exact ⟨r2, s2, ws, m2.mt, l1.kp p2.kp, l2, PostE.shift q (p1.trans p2)⟩
        · rw [e2] at q; exact q r2 H2 (p1.trans p2)
        · rw [e2] at q; exact q
      · rw [if_neg hi] at q; exact False.elim q
    · rw [e1] at q; exact q r1 H1 p1
    · rw [e1] at q; exact q
  · obtain ⟨h1, h2⟩ := isTy_ok I1 mm rl r1 it
    refine ⟨ty, id, pa, slot, hty, h1, h2, ?_⟩
    have hA := (ha Wx tk).run cpos pins s1 σ H1 _ I1 q1
    rw [hs] at hA ⊢
    refine Calls.callWith_builtin (by show (false || (backTo cpos (starEach es X.env)).any (·.1)) = false; rw [hplain] <;> rfl) (Calls.evalArgs_plain ?_)
    exact thn hA fun us s2 ⟨vs, H2, I2, r2, r', S', ws, mm', rl', rls, q2⟩ => hm Wx tk pins s2 σ H2 x vs v us Q I2 r1 r2 ⟨r', S', w, ws, mm', rl', rls, q2⟩
end

/-! ### the methods -/
def fAppend : List W → M W := fun ws s => match ws with
  | [.ref a, y] => if a ∈ s.lk then .bad else match s.at_ a with
    | some (.lst l) => if l.length < sizeLine then .ok .non (s.set a (.lst (l ++ [y]))) else .bad
    | _ => .bad
  | _ => .bad
def fGet1 : List W → M W := fun ws s => match ws with
  | [w, k] => match dcW s w with
    | some l => if isKey k = true then .ok ((dget l k).getD .non) s else .bad
    | none => .bad
  | _ => .bad
def fGet2 : List W → M W := fun ws s => match ws with
  | [w, k, d] => match dcW s w with
    | some l => if isKey k = true then .ok ((dget l k).getD d) s else .bad
    | none => .bad
  | _ => .bad
def fUpdate : List W → M W := fun ws s => match ws with
  | [.ref a, w] => if a ∈ s.lk ∨ sameR (.ref a) w = true then .bad else match s.at_ a, dcW s w with
    | some (.dct l), some k => if l.length + k.length ≤ sizeLine then .ok .non (s.set a (.dct (mergeW l k))) else .bad
    | _, _ => .bad
  | _ => .bad
theorem met_append : Met T X "append" "list" fAppend := ⟨"list.append", F.plainAttrs_list, F.slot_list_append, F.type_list_append, fun Wx tk pins sh σ H x xs v us Q I rx rv h => by
  obtain ⟨r, s, w, ws, m, rl, rls, q⟩ := h
  unfold fAppend at q
  split at q
  · rename_i a y e
    cases e
    obtain ⟨ha, rfl⟩ := rRef rl
    obtain ⟨yv, rfl, ry⟩ := rls.one
    split at q
    · exact False.elim q
    · rename_i hn
      split at q
      · rename_i l el
        obtain ⟨_, ys, h1, l1⟩ := m.lst el
        split at q
        · rename_i hz
          refine mt_append pins sh σ H _ _ v us Q I rx rv ⟨_, ys, yv, rfl, rfl, h1, by rw [← l1.len]; exact hz, ?_⟩
          exact q _ _ _ (m.putL el hn (RelWs.app l1 (RelWs.cons ry RelWs.nil))) mNon
        · exact False.elim q
      · exact False.elim q
  · exact False.elim q⟩
theorem met_get1 (hu : X.A.units + 1 < cLine) : Met T X "get" "dict" fGet1 := ⟨"dict.get", F.plainAttrs_dict, F.slot_dict_get, F.type_dict_get, fun Wx tk pins sh σ H x xs v us Q I rx rv h => by
  obtain ⟨r, s, w, ws, m, rl, rls, q⟩ := h
  unfold fGet1 at q
  split at q
  · rename_i a k e
    cases e
    obtain ⟨kv, rfl, rk⟩ := rls.one
    split at q
    · rename_i l el
      obtain ⟨_, kvs, rfl, h1, l1⟩ := m.dc rl el
      split at q
      · rename_i hk
        obtain ⟨kk, rfl⟩ := isKey_ex hk
        obtain rfl := relW_key rk
        obtain ⟨u, rfl, ru⟩ := rv.one
        cases (show v = Value.ref _ from rx)
        refine d_get1 hu I (.inl ⟨kvs, kk, h1, rfl, rfl⟩) ru fun w' s3 I3 rw' => ?_
        rcases l1.get kk with ⟨e1, e2⟩ | ⟨w, v, e1, e2, e3⟩
        · rw [e1] at q
          rw [e2] at rw'
          exact ⟨.non, H, I3, rw', q.at m mNon⟩
        · rw [e1] at q
          rw [e2] at rw'
          exact ⟨v, H, I3, rw', q.at m e3⟩
      · exact False.elim q
    · exact False.elim q
  · exact False.elim q⟩
theorem met_get2 (hu : X.A.units + 1 < cLine) : Met T X "get" "dict" fGet2 := ⟨"dict.get", F.plainAttrs_dict, F.slot_dict_get, F.type_dict_get, fun Wx tk pins sh σ H x xs v us Q I rx rv h => by
  obtain ⟨r, s, w, ws, m, rl, rls, q⟩ := h
  unfold fGet2 at q
  split at q
  · rename_i a k d e
    cases e
    obtain ⟨kv, dv, rfl, rk, rd⟩ := rls.two
    split at q
    · rename_i l el
      obtain ⟨_, kvs, rfl, h1, l1⟩ := m.dc rl el
      split at q
      · rename_i hk
        obtain ⟨kk, rfl⟩ := isKey_ex hk
        obtain rfl := relW_key rk
        obtain ⟨u, u2, rfl, ru, ru2⟩ := rv.two
        cases (show v = Value.ref _ from rx)
        refine d_get2 hu I (.inl ⟨kvs, kk, h1, rfl, rfl⟩) ru ru2 fun w' s3 I3 rw' => ?_
        rcases l1.get kk with ⟨e1, e2⟩ | ⟨w, v, e1, e2, e3⟩
        · rw [e1] at q
          rw [e2] at rw'
          exact ⟨dv, H, I3, rw', q.at m rd⟩
        · rw [e1] at q
          rw [e2] at rw'
          exact ⟨v, H, I3, rw', q.at m e3⟩
      · exact False.elim q
    · exact False.elim q
  · exact False.elim q⟩
theorem rMergeD {K : PySem.W.Frag} {r : Rm} {n : Nat} {H : Hp} {ps : List (W × W)} {kvs : List (Key × V)} (h : RKV K r n H ps kvs) : ∀ {l : List (W × W)} {ls : List (Key × V)}, RKV K r n H l ls → RKV K r n H (mergeW l ps) (mergeK ls kvs) := rMerge h
theorem mergeK_len : ∀ (more kvs : List (Key × V)), (mergeK kvs more).length ≤ kvs.length + more.length
  | [], kvs => by unfold mergeK; simp
  | kv :: more, kvs => by
    have h := mergeK_len more (putK kvs kv.1 kv.2)
    have h2 : (putK kvs kv.1 kv.2).length ≤ kvs.length + 1 := by
      unfold putK
      split <;> simp
    show (mergeK (putK kvs kv.1 kv.2) more).length ≤ _
    rw [List.length_cons]
    omega
theorem met_update : Met T X "update" "dict" fUpdate := ⟨"dict.update", F.plainAttrs_dict, F.slot_dict_update, F.type_dict_update, fun Wx tk pins sh σ H x xs v us Q I rx rv h => by
  obtain ⟨r, s, w, ws, m, rl, rls, q⟩ := h
  unfold fUpdate at q
  split at q
  · rename_i a b e
    cases e
    obtain ⟨ha, rfl⟩ := rRef rl
    obtain ⟨bv, rfl, rb⟩ := rls.one
    split at q
    · exact False.elim q
    · rename_i hn
      split at q
      · rename_i l k e1 e2
        obtain ⟨_, kvs, h1, h1', _, l1⟩ := m.dct e1
        obtain ⟨pb, mvs, rfl, h2, l2⟩ := m.dc rb e2
        have hna : a ∉ s.lk := fun z => hn (.inl z)
        have hab : r a ≠ pb := by
          cases b <;> first | (cases e2; done) | skip
          · obtain ⟨hb, eb⟩ := rRef rb
            cases eb
            intro z
            refine hn (.inr ?_)
            rw [m.inj _ _ ha hb z]
            simp [sameR]
          · obtain ⟨p, od, kv2, eb, hf, _⟩ := rDct rb
            cases eb
            exact (m.fr _ hf).1 a ha
        split at q
        · rename_i hz
          obtain ⟨u, rfl, ru⟩ := rv.one
          cases (show v = Value.ref _ from rx)
          cases (show u = Value.ref _ from ru)
          obtain ⟨z1, d1, va, ra, da⟩ := dk_rd I.hok h1
          obtain ⟨z2, d2, vb, rb', db⟩ := dk_rd I.hok h2
          have hlen : va.length + vb.length ≤ sizeLine := by rw [← ra.length, ← rb'.length, ← l1.len, ← l2.len]; exact hz
          refine call_meetsIn PySem.F.slot_dict_update da.typeIs PySem.F.entry_dict_update (PySem.F.args_dict_update_2 _ _) (meets_dict_update (mixKind X.prog X.w) _ _ hab d2) ⟨va, vb, da, db, hlen, fun h' dd' dd2 hs => ?_⟩
          have he : ∃ q, h'.get? (r a) = some q := let ⟨q, _, _, hq, _⟩ := dd'; ⟨q, hq⟩
          have hm := mergeK_len mvs kvs
          refine ⟨.non, upd H (r a) (.dK (mergeK kvs mvs)), d_write (t' := sh.toks) I (by rw [h1' hna]; exact True.intro) hs he (dk_new (by rw [← l1.len, ← l2.len] at hm; omega) d1 (KV.merge rb' ra) dd'), rfl, ?_⟩
          exact q _ _ _ (m.putD e1 hna (h1' hna) (rMerge l2 l1)) mNon
        · exact False.elim q
      · exact False.elim q
  · exact False.elim q⟩
end
end RS
set_option Elab.async false
set_option linter.all false
set_option maxRecDepth 100000
set_option maxHeartbeats 1000000
set_option autoImplicit false
/-! RS.C27: displays of dicts, f-strings. -/
namespace RS
open PySem PySem.Spec PyProof.Rows L2

def dps : List (E × E) → Env → M (List (W × W))
  | [], _ => fun s => .ok [] s
  | (k, v) :: r, ρ => fun s => (k ρ s).bind fun x s1 => (v ρ s1).bind fun y s2 => (dps r ρ s2).bind fun l s3 => .ok ((x, y) :: l) s3
def eDisp (v : Bool) (ps : List (E × E)) : E := fun ρ s => (dps ps ρ s).bind fun l s1 => if (l.all fun p => isKey p.1) = true ∧ l.length ≤ 15 then mkD v (mergeW [] l) s1 else .bad
def eFmt (m : E) : E := fun ρ s => (m ρ s).bind fun w s1 => match w with
  | .str y => if y.length ≤ sizeLine then .ok (.str y) s1 else .bad
  | .int i => if i.natAbs.log2 < 1920 then .ok (.str (toString i)) s1 else .bad
  | _ => .bad
def jsL : List E → Str → Env → M W
  | [], acc, _ => fun s => .ok (.str acc) s
  | m :: ms, acc, ρ => fun s => (m ρ s).bind fun w s1 => match w with
    | .str y => if (acc ++ y).length ≤ sizeLine then jsL ms (acc ++ y) ρ s1 else .bad
    | _ => .bad
def eJoin (ms : List E) : E := fun ρ s => jsL ms Str.empty ρ s
section
variable {T : List NdefX.NTab} {X : Cx} {pos : Pos} {Wx : Wish}
abbrev RPair (K : PySem.W.Frag) (r : Rm) (n : Nat) (H : Hp) : List (W × W) → List (V × V) → Prop := Paired fun p q => RelW K r n H p.1 q.1 ∧ RelW K r n H p.2 q.2
theorem rd_pairs : ∀ {ps : List (E × E)} {r : Rm} {ρ : Env} {s : S} {σ : L2.St} {H : Hp} {K : List (V × V) → Hp → Prop}, MtE T X r ρ s σ H → (match dps ps ρ s with
    | .ok l s' => ∀ r' H' vs, Stp T X.K X.mg r s H r' s' H' → RPair X.K r' s'.nx H' l vs → K vs H'
    | .ex c s' => ∀ r' H', Stp T X.K X.mg r s H r' s' H' → Wx c H'
    | .bad => False) → tPairs (ps.map fun p => (rdE T X p.1 Wx, rdE T X p.2 Wx)) σ H K
  | [], r, ρ, s, σ, H, K, mm, q => q r H [] (.refl mm.mt) .nil
  | (k, v) :: ps, r, ρ, s, σ, H, K, mm, q => by
    unfold dps at q
    show rdE T X k Wx σ H _
    refine rdE.go mm (fun x s1 e1 r1 H1 v1 p1 l1 m1 => ?_) (fun c s1 e1 r1 H1 p1 => ?_) (fun e1 => ?_)
    · rw [e1] at q
      simp only [Out.bind] at q
      show rdE T X v Wx σ H1 _
      refine rdE.go m1 (fun y s2 e2 r2 H2 v2 p2 l2 m2 => ?_) (fun c s2 e2 r2 H2 p2 => ?_) (fun e2 => ?_)
      · rw [e2] at q
        simp only at q
        refine rd_pairs (r := r2) (ρ := ρ) (s := s2) m2 ?_
        cases e3 : dps ps ρ s2 with
        | ok l s3 =>
          rw [e3] at q
          exact fun r' H' vs st rp => q r' H' _ (p1.trans (p2.trans st)) (.cons ⟨l1.kp (p2.trans st).kp, l2.kp st.kp⟩ rp)
        | ex c s3 => rw [e3] at q; exact fun r' H' st => q r' H' (p1.trans (p2.trans st))
        | bad => rw [e3] at q; exact q
      · rw [e2] at q; exact q r2 H2 (p1.trans p2)
      · rw [e2] at q; exact q
    · rw [e1] at q; exact q r1 H1 p1
    · rw [e1] at q; exact q
theorem key_pairs {K : PySem.W.Frag} {r : Rm} {n : Nat} {H : Hp} {l : List (W × W)} {vs : List (V × V)} (h : RPair K r n H l vs) (hk : (l.all fun p => isKey p.1) = true) : ∃ kvs : List (Key × V), vs = kvs.map (fun kv => (kV kv.1, kv.2)) ∧ RKV K r n H l kvs := by
  induction h with
  | nil => exact ⟨[], rfl, .nil⟩
  | @cons p0 q0 _ _ a _ ih =>
    rw [List.all_cons, Bool.and_eq_true] at hk
    obtain ⟨kvs, rfl, h2⟩ := ih hk.2
    obtain ⟨k, e⟩ := isKey_ex hk.1
    obtain ⟨a1, a2⟩ := a
    rw [e] at a1
    have := relW_key a1
    refine ⟨(k, q0.2) :: kvs, ?_, .cons ⟨e, a2⟩ h2⟩
    rw [List.map_cons, ← this]
/-- the pairs' parts -/
inductive RPs (T : List NdefX.NTab) (X : Cx) : List (Option Expr) → List Expr → List (E × E) → Prop where
  | nil : RPs T X [] [] []
  | cons {k v : Expr} {ks : List (Option Expr)} {vs : List Expr} {mk mv : E} {ps : List (E × E)} (hk : RE T X k mk) (hv : RE T X v mv) (h : RPs T X ks vs ps) : RPs T X (some k :: ks) (v :: vs) ((mk, mv) :: ps)
theorem RPs.pps {ks : List (Option Expr)} {vs : List Expr} {ps : List (E × E)} (h : RPs T X ks vs ps) (tk : Tk X Wx) : PPs X pos ks vs (ps.map fun p => (rdE T X p.1 Wx, rdE T X p.2 Wx)) := by
  induction h with
  | nil => exact pps_nil
  | cons hk hv _ ih => exact pps_cons (hk Wx tk) (hv Wx tk) ih
theorem rs_disp {vr : Bool} {keys : List (Option Expr)} {values : List Expr} {ps : List (E × E)} (h : RPs T X keys values ps) (hall : keys.all (·.isSome) = true := by rfl) (hl : keys.length = values.length := by rfl) (h0 : keys ≠ [] := by exact fun z => nomatch z) (h15 : keys.length ≤ 15 := by decide) :
    RE T X (.Dict keys values pos) (eDisp vr ps) := fun Wx tk => by
  refine (PE.fz (v := vr) (pe_disp (h.pps tk) hall hl h0 h15)).imp fun σ H Q hh => ?_
  obtain ⟨r, ρ, s, mm, q⟩ := hh
  unfold eDisp at q
  intro D hD
  have j0 : Stp T X.K X.mg r s H r s (upd H D (.dK [])) := mm.mt.junk hD
  refine rd_pairs (r := r) (ρ := ρ) (s := s) (mm.step j0) ?_
  cases e : dps ps ρ s with
  | ex c s1 => rw [e] at q; exact fun r' H' st => q r' H' (j0.trans st)
  | bad => rw [e] at q; exact q
  | ok l s1 =>
    rw [e] at q
    intro r1 H1 vs st rp
    obtain ⟨hi1, hD1⟩ := st.off (D := D) upd_same ⟨fun a ha => mm.mt.ne hD ha, fun f => (mm.mt.fr D f).2.elim fun _ e => by rw [hD] at e; cases e.1⟩ fun ps z => by cases z
    simp only [Out.bind] at q
    split at q
    · rename_i hc
      obtain ⟨kvs, rfl, rk⟩ := key_pairs rp hc.1
      refine ⟨hD1, kvs, rfl, by rw [← rk.len]; exact hc.2, ?_⟩
      have x2 : Stp T X.K X.mg r s H r1 s1 (upd H1 D (.dK (mergeK [] kvs))) := (j0.trans st).over2 (u := .dK []) (o2 := .dK (mergeK [] kvs)) (fun _ z => nomatch z) (fun _ z => nomatch z) (fun _ z => nomatch z) (fun _ z => nomatch z) hD hi1 hD1
      have kk : Kp r1 s1.nx H1 r1 s1.nx (upd H1 D (.dK (mergeK [] kvs))) := ⟨Nat.le_refl _, fun _ _ => rfl, fun q zs h => by
        rw [upd_ne fun e => ?_]; exact h
        rw [e, hD1] at h; (cases h), fun _ f => f, fun q zs f h => by
        rw [upd_ne fun e => hi1.2 (by rw [← e]; exact f)]; exact h⟩
      exact PostE.adoptD q x2 hD hi1 upd_same (Paired.mapP (rMerge rk (l := []) (ls := []) .nil) fun _ _ z => ⟨z.1, z.2.kp kk⟩)
    · exact False.elim q

/-! ### f-strings -/
theorem rs_fmt {e : Expr} {m : E} (h : RE T X e m) : RE T X (.FormattedValue e (-1) none pos) (eFmt m) := fun Wx tk => by
  refine (pe_fmt (h Wx tk)).imp fun σ H Q hh => ?_
  obtain ⟨r, ρ, s, mm, q⟩ := hh
  unfold eFmt at q
  refine rdE.go mm (fun x s1 e1 r1 H1 v1 p1 l1 m1 => ?_) (fun c s1 e1 r1 H1 p1 => ?_) (fun e1 => ?_)
  · rw [e1] at q
    cases x <;> first | exact False.elim q | skip
    · obtain rfl := rInt l1
      simp only [Out.bind] at q
      split at q
      · rename_i hz
        exact .inr ⟨_, rfl, hz, q r1 H1 _ p1 mStr⟩
      · exact False.elim q
    · obtain rfl := rStr l1
      simp only [Out.bind] at q
      split at q
      · rename_i hz
        exact .inl ⟨_, rfl, hz, q r1 H1 _ p1 mStr⟩
      · exact False.elim q
  · rw [e1] at q; exact q r1 H1 p1
  · rw [e1] at q; exact q
inductive RJ (T : List NdefX.NTab) (X : Cx) : List Expr → List E → Prop where
  | nil : RJ T X [] []
  | cons {e : Expr} {m : E} {es : List Expr} {ms : List E} (h : RE T X e m) (r : RJ T X es ms) : RJ T X (e :: es) (m :: ms)
theorem RJ.pj {es : List Expr} {ms : List E} (h : RJ T X es ms) (tk : Tk X Wx) : PJ X es (ms.map fun m => rdE T X m Wx) := by
  induction h with
  | nil => exact .nil
  | cons h _ ih => exact .cons (h Wx tk) ih
theorem js_run {Q : VK} : ∀ {ms : List E} {acc : Str} {r : Rm} {ρ : Env} {s : S} {σ : L2.St} {H : Hp}, MtE T X r ρ s σ H → PostE T X.K X.mg r s H (jsL ms acc ρ s) Q Wx → tJs (ms.map fun m => rdE T X m Wx) acc σ H fun out H1 => Q (.str out) H1
  | [], acc, r, ρ, s, σ, H, mm, q => q r H _ (.refl mm.mt) mStr
  | m :: ms, acc, r, ρ, s, σ, H, mm, q => by
    unfold jsL at q
    show rdE T X m Wx σ H _
    refine rdE.go mm (fun x s1 e1 r1 H1 v1 p1 l1 m1 => ?_) (fun c s1 e1 r1 H1 p1 => ?_) (fun e1 => ?_)
    · rw [e1] at q
      cases x <;> first | exact False.elim q | skip
      obtain rfl := rStr l1
      simp only [Out.bind] at q
      split at q
      · rename_i hz
        exact ⟨_, rfl, hz, js_run m1 (PostE.shift q p1)⟩
      · exact False.elim q
    · rw [e1] at q; exact q r1 H1 p1
    · rw [e1] at q; exact q
theorem rs_join {v1 v2 : Expr} {rest : List Expr} {ms : List E} (h : RJ T X (v1 :: v2 :: rest) ms) : RE T X (.JoinedStr (v1 :: v2 :: rest) pos) (eJoin ms) := fun Wx tk => by
  refine (pe_joined (h.pj tk)).imp fun σ H Q hh => ?_
  obtain ⟨r, ρ, s, mm, q⟩ := hh
  exact js_run mm q
theorem rs_join1 {e : Expr} {m : E} (h : RE T X e m) : RE T X (.JoinedStr [e] pos) m := fun Wx tk => pe_joined1 (h Wx tk)
end
end RS
set_option Elab.async false
set_option linter.all false
set_option maxRecDepth 100000
set_option maxHeartbeats 1000000
set_option autoImplicit false
/-! RS.C28: sorted(..) of a generator expression. -/
namespace RS
open PySem PySem.Spec PyProof.Rows L2 GenW

mutual
theorem reads_lt {h : Heap} : ∀ {v : Value} {d : PyData} {as : List Addr}, Reads h v d as → ∀ b ∈ as, b < h.objs.size
  | _, _, _, .none, b, hb => by simp at hb
  | _, _, _, .bool _, b, hb => by simp at hb
  | _, _, _, .int _ _, b, hb => by simp at hb
  | _, _, _, .str _ _, b, hb => by simp at hb
  | _, _, _, .list h1 _ _ h4, b, hb => by
    rcases List.mem_cons.mp hb with rfl | hb
    · exact Heap.lt_size h1
    · exact readsAll_lt h4 b hb
  | _, _, _, .tuple h1 _ _ h4, b, hb => readsAll_lt h4 b hb
  | _, _, _, .dict h1 _ _ h4 h5, b, hb => by
    rw [List.cons_append] at hb
    rcases List.mem_cons.mp hb with rfl | hb
    · exact Heap.lt_size h1
    · rcases List.mem_append.mp hb with hb | hb
      · exact readsAll_lt h4 b hb
      · exact readsAll_lt h5 b hb
theorem readsAll_lt {h : Heap} : ∀ {vs : List Value} {ds : List PyData} {as : List Addr}, ReadsAll h vs ds as → ∀ b ∈ as, b < h.objs.size
  | _, _, _, .nil, b, hb => by simp at hb
  | _, _, _, .cons r rs, b, hb => by
    rcases List.mem_append.mp hb with hb | hb
    · exact reads_lt r b hb
    · exact readsAll_lt rs b hb
end
theorem roomGen3 {k0 : Nat} {A : Around} (hr : Room (k0 + 2) A) (env : PySem.Env) : Room k0 (A.in1.in1.in1.deeper env) :=
  ⟨hr.hd, by have := hr.dp; show A.depth + 1 + 3 * k0 + 5 < _; omega, by have := hr.un; show A.units + 1 + 1 + 1 + 3 + 16 * k0 + 200 < _; omega⟩
/-- what sortW asks -/
theorem sortW_some {s : S} {l l' : List W} (h : sortW s l = some l') : ∃ ds, toDs s 12 l = some ds ∧ PySem.W.AllAlike ds ∧ PySem.W.Sortable ds ∧ l' = ((l.zip ds).mergeSort (PySem.W.dataLe false (·.2))).map (·.1) := by
  unfold sortW at h
  split at h
  · rename_i ds hd
    split at h
    · rename_i hcnd
      rw [msr_eq _ _ (Nat.le_refl _)] at h
      cases h
      rw [Bool.and_eq_true] at hcnd
      obtain ⟨c1, c2⟩ := hcnd
      refine ⟨ds, hd, fun d hd d' hd' => List.all_eq_true.mp (List.all_eq_true.mp c1 d hd) d' hd', ?_, rfl⟩
      rw [Bool.or_eq_true] at c2
      rcases c2 with c2 | c2
      · refine .inl fun d hd => ?_
        have := List.all_eq_true.mp c2 d hd
        unfold isRow at this
        split at this
        · exact ⟨_, _, rfl⟩
        · cases this
      · refine .inr fun d hd => ?_
        have := List.all_eq_true.mp c2 d hd
        unfold isAtom at this
        split at this
        · cases this
        · cases this
        · rename_i n1 n2
          exact ⟨n1, n2⟩
    · cases h
  · cases h
def eSortG (v : Bool) (mi : It') (own : List Nat) (g : G) (t : RS.T) (m : E) : E := fun ρ s => (mi ρ s).bind fun p s1 => (gCol p g t m (p.n + 1) [] (p.n + 1, 0, wipeE ρ own, s1)).bind fun ws s2 => if ws.length ≤ szL then match sortW s2 ws with
  | some l => mkL v l s2
  | none => .bad else .bad
section
variable {T : List NdefX.NTab} {X : Cx} {c P : Addr} {nm : Nat → Nat → Str} {gpos p pos : Pos} {own : List (Str × Nat)} {tg elt iter : Expr} {ifs : List Expr} {scope : Scope} {mi : It'} {g : G} {t : RS.T} {m : E} {k0 : Nat}
theorem sort_new {vr : Bool} {E : Value → Shared → Prop} {r : Rm} {S : RS.S} {H : Hp} {s : Shared} {σ : L2.St} {pins : List (Addr × Obj)} {us : List Value} {xs : List V} {ws l : List W} {Q : VK} {Wx : Wish} (hu : X.A.units + 60 < cLine) (I : Inv X pins σ H s) (mt : Mt T X.K X.mg r S H) (hv : Vals xs us) (rl : RelWs X.K r S.nx H ws xs) (hz : ws.length ≤ sizeLine) (hs : sortW S ws = some l)
    (q : PostE T X.K X.mg r S H (mkL vr l S) Q Wx) : wpAny (model X.prog X.w) X.A.in1 (call (.builtin "list.sort") [.ref s.heap.objs.size]) (fun v s' => v = .none ∧ EP X pins σ Q (.ref s.heap.objs.size) s') E { s with heap := s.heap.push (seqObj "list" us.toArray 0) } := by
  obtain ⟨ds, hd, c1, c2, rfl⟩ := sortW_some hs
  obtain ⟨as, hr⟩ := readsAll_of I mt hd rl hv
  obtain ⟨e1, e2⟩ := each_of rl hv hr
  obtain ⟨_, hdep⟩ := toDs_plain hd
  have hln : us.length = ds.length := SeqAt.ReadsAll.length _ _ _ hr
  have hl2 : ws.length = ds.length := by rw [← hln, ← hv.length, rl.len]
  have hmap : (ws.zip ds).map (·.2) = ds := by rw [List.map_snd_zip]; omega
  have ho : ({ s with heap := s.heap.push (seqObj "list" us.toArray 0) } : Shared).heap.get? s.heap.objs.size = some (seqObj "list" us.toArray 0) := Heap.get?_push_size _ rfl
  have er : PySem.W.EachIs (fun v (b : W × PyData) => ∃ as, Reads ({ s with heap := s.heap.push (seqObj "list" us.toArray 0) } : Shared).heap v b.2 as ∧ s.heap.objs.size ∉ as) us (ws.zip ds) := e2.mono fun v b ⟨as, h⟩ => ⟨as, PyProof.Rows.Reads.keeps (fun _ _ q => Heap.get?_push_of_some _ q) h, fun z => Nat.lt_irrefl _ (reads_lt h _ z)⟩
  refine PySem.W.list_sort_data (enc := fun b : W × PyData => b.2) ho e1 er (by rw [hmap]; exact c1) (by rw [hmap]; exact c2) (by rw [List.length_zip, hl2, Nat.min_self, ← hl2]; exact hz) (fun b hb => ?_) fun out h3 h4 => ⟨rfl, ?_⟩
  · have : b.2 ∈ ds := (List.of_mem_zip (show (b.1, b.2) ∈ ws.zip ds from hb)).2
    have : b.2.depth ≤ 12 := Nat.le_trans (depth_mem this) hdep
    show X.A.units + 1 + 1 + _ < _
    omega
  · obtain ⟨zs, z1, z2⟩ := of_each h4
    obtain ⟨ep, he'⟩ := PyProof.Rows.sortedHeap_at (vs := us) (out := out.toArray) ho
    have hlen : zs.length ≤ sizeLine := by
      rw [z2.length, h3, List.length_zip, hl2, Nat.min_self, ← hl2]; exact hz
    refine ⟨.ref s.heap.objs.size, upd H s.heap.objs.size (.lst zs), I.laid (t' := s.toks) (fun b u e => ?_) (Nat.le_refl _) ⟨hlen, out, ep, z2, he'⟩, rfl, PostE.lst mt q z1 _ (I.hok.fresh (Nat.le_refl _))⟩
    have hb : b < s.heap.objs.size := Heap.lt_size e
    rw [PyProof.Rows.sortedHeap_old (Nat.ne_of_lt hb) (by rw [size_push']; exact Nat.lt_succ_of_lt hb)]
    exact Heap.get?_push_of_some _ e
theorem rs_sortG {vr : Bool} (hr : Room (k0 + 2) X.A) (hc : X.calm = true) (go : GxOk T X scope own c P nm gpos) (hi : RI T X tg iter mi) (gp : GParts T X scope k0 tg elt ifs g t m) (hg : Gl X "sorted" := by rfl) (hmg : X.mg "sorted" = none) (hs : ∀ v, genFold iter X.env v = pure v := by intro _; rfl)
    (he : starEach [.GeneratorExp elt [⟨tg, iter, ifs, 0⟩] scope gpos] X.env = (false, eval (.GeneratorExp elt [⟨tg, iter, ifs, 0⟩] scope gpos) X.env) :: starEach [] X.env := by rfl) :
    RE T X (.Call (.Name "sorted" p) [.GeneratorExp elt [⟨tg, iter, ifs, 0⟩] scope gpos] [] pos) (eSortG vr mi (own.map (·.2)) g t m) := fun Wx tk => ⟨fun pins s σ H Q I h => by
  obtain ⟨r, ρ, S, mm, q⟩ := h
  unfold eSortG at q
  refine wpAny_Call_Name_kw (ld_blt I hg hmg (show bootBuiltins ("sorted" : Str) = some (.builtin "sorted") by rfl) ?_)
  refine PyProof.Rows.callWith_builtin1 ?_ he (by rfl)
  rw [he]
  show wpAny _ _ (spliced ((false, eval (.GeneratorExp elt [⟨tg, iter, ifs, 0⟩] scope gpos) X.env) :: backTo pos (starEach [] X.env))) _ _ s
  refine Calls.spliced_cons (gx_new tk (hr.mono (Nat.le_add_right _ _)) go hi hs I mm (fun cl s' e r' H' st => ?_) (fun z => ?_) fun pi S1 em r1 H1 s4 code it fp tn J a k s5 st gn => ?_)
  · rw [e] at q; exact q r' H' st
  · rw [z] at q; exact q
  rw [em] at q
  simp only [Out.bind] at q
  refine Calls.spliced_nil ?_
  cases eg : gCol pi g t m (pi.n + 1) [] (pi.n + 1, 0, wipeE ρ (own.map (·.2)), S1) with
  | bad => rw [eg] at q; exact q.elim
  | ex _ _ => exact absurd eg gCol_ex
  | ok ws S2 =>
    rw [eg] at q
    simp only at q
    split at q
    · rename_i hz
      rw [szL_eq] at hz
      split at q
      · rename_i l hl
        refine Calls.call_function_entry PyProof.Rows.kind_sorted PyProof.Rows.plain_sorted PyProof.Rows.entry_sorted (PyProof.Rows.args_sorted1 _) ?_
        unfold Builtin.«sorted»
        refine wpAny_bind (m := checkCount "sorted" 1 1 _) (wpAny_pure ?_)
        refine wpAny_bind (gx_collect (A := X.A.in1) gn hc go.co (mm.step st) I.ok.frames hr.hd (by have := hr.dp; show X.A.depth < _; omega) gp (roomGen3 hr _) eg hz fun r2 H2 s' xs us I2 st2 hv hrl => ?_)
        refine wpAny_bind (wpAny_newList ?_ (by rw [← hv.length, ← hrl.len]; exact hz))
        refine wpAny_bind (wpAny_holding (wpAny_mono (sort_new (by have := hr.un; omega) I2 st2.mt hv hrl hz hl (PostE.shift q (st.trans st2))) (fun v s'' hh => ?_) fun _ _ z => z))
        obtain ⟨rfl, hep⟩ := hh
        exact wpAny_pure ⟨_, rfl, hep⟩
      · exact q.elim
    · exact q.elim⟩
end
end RS
set_option Elab.async false
set_option linter.all false
set_option maxRecDepth 100000
set_option maxHeartbeats 1000000
set_option autoImplicit false
/-! RS.C29: a def told a lambda. -/
namespace RS
open PySem PySem.Spec PyProof.Rows L2 LamX

/-- what a lambda in the def X asks -/
structure LmOk (T : List NdefX.NTab) (X : Cx) (scope : Scope) (params : Arguments) (c P : Addr) (nm : Nat → Nat → Str) (pos : Pos) : Prop where
  sc : LamS X.env.scope scope
  code : X.env.code = .ref c
  TB : LamX.TabB X.base X.mg c P
  hT : (P, nm) ∈ T
  hn : nm pos.line pos.col = X.env.qual ++ "<lambda>"
  hu : ∀ q ∈ T, q.1 = P → q.2 = nm
  hdef : defaultsOf params X.env = ([], [])
section
variable {T : List NdefX.NTab} {X : Cx} {pos : Pos}
theorem lam_new {pins : List (Addr × Obj)} {σ : L2.St} {H : Hp} {s : Shared} {r : Rm} {S : RS.S} {c P : Addr} {nm : Nat → Nat → Str} {params : Arguments} {body : Expr} {scope : Scope} {E : Value → Shared → Prop} {Q : Value → Shared → Prop} (lo : LmOk T X scope params c P nm pos) (I : Inv X pins σ H s) (m : Mt T X.K X.mg r S H)
    (h : ∀ (f c' : Addr) (pm ctv : Value) (H1 : Hp) (s' : Shared), Inv X pins σ H1 s' → Stp T X.K X.mg r S H r S H1 →
      s'.heap.get? f = some (PySem.W.kla_obj "<lambda>" (X.env.qual ++ "<lambda>") params body scope (cloFrom X.env.cells scope.names []) pm c' ctv) → H1 f = none → f ∉ frs X.stack → H1 c' = some (CodeO c' (X.env.qual ++ "<lambda>")) → Q (.ref f) s') :
    wpAny (model X.prog X.w) X.A (eval (.Lambda params body scope pos) X.env) Q E s := by
  obtain ⟨ps, hP, ht, ha⟩ := (show NdefX.TabN H P nm from m.tab _ lo.hT)
  have hfree := lo.sc.has I.ok
  refine PySem.W.kla_eval lo.hdef ?_
  have bP : s.heap.BuiltinsAt X.mg P := lo.TB.bm.keeps I.bk
  have hP' : s.heap.get? P = some { cls := .none, data := .fields ps } := I.hok P _ hP
  have nofr : ∀ f, s.heap.objs.size ≤ f → f ∉ frs X.stack := fun f hf z => by
    rcases List.mem_cons.mp (I.stkSub _ z) with e | e
    · have h1 := I.lt
      rw [← e] at h1
      exact Nat.lt_irrefl _ (Nat.lt_of_lt_of_le h1 hf)
    · exact I.nofs hf e
  cases hc : codeAmong pos ps.toList with
  | none =>
    refine PySem.W.kla_makeFunction (mg := X.mg) (c := c) (P := P) (ps := ps) (closure_ok hfree) I.ok.glob (I.mod.glob.keeps I.bk) lo.code (lo.TB.code.keeps I.bk) hP' ht hc lo.TB.gP bP fun c' ctv h' tk hx hge hlt hrec htb => ?_
    obtain ⟨c2, oc, vs, t, e2, hoc, hd, hv⟩ := hrec
    cases e2
    have hsz : s.heap.objs.size ≤ h'.objs.size := Nat.le_trans hge (Nat.le_of_lt hlt)
    have nC : H c' = none := I.hok.fresh hge
    have I1 := inv_table (t' := tk) (more := #[rawInt pos.line, rawInt pos.col, .ref c']) (q := nm pos.line pos.col) (h' := h'.push (PySem.W.kla_obj "<lambda>" (X.env.qual ++ "<lambda>") params body scope (cloFrom X.env.cells scope.names []) ((X.mg "__name__").getD .none) c' ctv)) I hP
      (fun b o hb e => Heap.get?_push_of_some _ (hx b o hb e)) (Heap.get?_push_of_some _ htb) hge ⟨oc, vs, t, Heap.get?_push_of_some _ hoc, hd, by rw [lo.hn]; exact hv⟩
    refine h h'.objs.size c' ((X.mg "__name__").getD .none) ctv _ _ I1 (m.table hP ht ha lo.hu nC) (Heap.get?_push_size _ rfl) ?_ (nofr _ hsz) (by rw [← lo.hn]; exact upd_same)
    have n1 : h'.objs.size ≠ c' := Nat.ne_of_gt hlt
    have n2 : h'.objs.size ≠ P := Nat.ne_of_gt (Nat.lt_of_lt_of_le (Heap.lt_size hP') hsz)
    rw [upd_ne n1, upd_ne n2]
    exact I.hok.fresh hsz
  | some cv =>
    obtain ⟨c', e, hco⟩ := ha pos cv hc
    subst e
    refine PySem.W.kla_makeFunctionHit (mg := X.mg) (c := c) (P := P) (ps := ps) (closure_ok hfree) I.ok.glob (I.mod.glob.keeps I.bk) lo.code (lo.TB.code.keeps I.bk) hP' ht hc bP fun ctv h' tk hx hsz => ?_
    have I1 : Inv X pins σ H { s with heap := h'.push (PySem.W.kla_obj "<lambda>" (X.env.qual ++ "<lambda>") params body scope (cloFrom X.env.cells scope.names []) ((X.mg "__name__").getD .none) c' ctv), toks := tk } := I.kept fun b o e => Heap.get?_push_of_some _ (hx b o e)
    exact h h'.objs.size c' ((X.mg "__name__").getD .none) ctv H _ I1 (.refl m) (Heap.get?_push_size _ rfl) (I.hok.fresh hsz) (nofr _ hsz) (by rw [← lo.hn]; exact hco)
/-- told: what the lambda gives, or the class' own text -/
def eTold (e ret : Str) (mb : E) : E := fun ρ s => match mb ρ s with
  | .ok w s' => .ok w s'
  | .ex c s' => if c = e then .ok (.str ret) s' else .bad
  | .bad => .bad
theorem rs_told {x a e ret : Str} {g c P CS : Addr} {k j : Nat} {pg : Arguments} {sg : Scope} {dV kV doc pm cdv ct oc : Value} {an od : Option Addr} {osl : Array (Option Value)} {Ng : List Str} {p1 p2 p3 p4 p5 p6 p7 p8 : Pos} {nm : Nat → Nat → Str}
    {params : Arguments} {body : Expr} {scope : Scope} {mb : E} {p lpos : Pos} (hg : Gl X x) (hm : X.mg x = some (.ref g)) (hk : PySem.W.keepIn X.K (.ref g) = true)
    (lk : X.K.lookup g = some ⟨oc, od, .func (PySem.W.fnOf x x pg [.Try [.Return (some (.Call (.Name a p1) [] [] p2)) p3] [.ExceptHandler (some (.Name e p4)) none [.Return (some (.Constant (.str ret) j p5)) p6] p7] [] [] p8] sg dV kV doc pm an cdv ct), osl⟩)
    (hcg : PySem.W.codeIn X.K cdv x = true) (hb : L2.Binds X.K (PySem.W.fnOf x x pg [.Try [.Return (some (.Call (.Name a p1) [] [] p2)) p3] [.ExceptHandler (some (.Name e p4)) none [.Return (some (.Constant (.str ret) j p5)) p6] p7] [] [] p8] sg dV kV doc pm an cdv ct) [a] []) (Sg : FnScope Ng [a] sg) (hNg : Ng[0]? = some a) (hva : Vis sg a)
    (hge : sg.names.lookup e = some .globalImplicit) (hme : X.mg e = some (.ref CS)) (hde : (e == ("__debug__" : Str)) = false) (h0 : ∀ f : Addr, (L2.start Ng [V.ref f])[0]? = some (some (V.ref f))) (hex : PySem.W.exmOne X.K (.ref CS) (.ref CS) = some true)
    (lo : LmOk T X scope params c P nm lpos) (hr : Room (k + 2) X.A)
    (hbind : ∀ (q : Str) (cl : List (Str × Addr)) (pm cv ctv : Value), bindArgs (PySem.W.kla_fn "<lambda>" q params body scope cl pm cv ctv) ⟨[], []⟩ = pure [])
    (hbody : ∀ (A : Around) (outer : List PySem.Env) (s : Shared) (H : Hp) (E : XK) (f c' : Addr), Room k (A.deeper (lamEnv X scope s.heap.objs.size f c')) → RE T (lamCx X A outer s H E scope f c') body mb)
    (hdb : (x == ("__debug__" : Str)) = false := by decide) (hd : (a == ("__debug__" : Str)) = false := by decide) (hcd : (a == ("__classdict__" : Str)) = false := by decide) :
    RE T X (.Call (.Name x p) [.Lambda params body scope lpos] [] pos) (eTold e ret mb) := fun Wx tk => by
  refine ⟨fun pins s σ H Q I h => ?_⟩
  obtain ⟨r, ρ, S, mm, q⟩ := h
  unfold eTold at q
  refine wpAny_Call_Name_kw (ld_glob I hg hm ?_ hdb)
  refine PySem.W.callWith_K (h₀ := X.base) I.ok.mod.kin hk ?_ (by rfl) (by rfl)
  show wpAny _ _ (spliced ((false, eval (.Lambda params body scope lpos) X.env) :: backTo pos (starEach [] X.env))) _ _ s
  refine Calls.spliced_cons (lam_new lo I mm.mt fun f c' pm' ctv H1 s' I1 st hf hfn hfr hco => ?_)
  refine Calls.spliced_nil ⟨I1.kIn, ?_⟩
  have hG := told_gives (X := X) (x := x) (a := a) (e := e) (q := X.env.qual ++ "<lambda>") (ret := ret) (sg := sg) (g := g) (CS := CS) (cdg := cdv) (j := j) (p1 := p1) (p2 := p2) (p3 := p3) (p4 := p4) (p5 := p5) (p6 := p6) (p7 := p7) (p8 := p8) hge hme hde h0
  have rc : codeAny (model X.prog X.w) X.A (.call (.ref g) ⟨[.ref f], []⟩) (CR C8.CX0 X.stack X.prog X.w H1 s' Q C8.E0) s' := by
    refine run_ofS (N := Ng) (ps := [a]) (us := [.ref f]) (vs := [.ref f]) lk hcg Sg hr I1.env0 (hb s' [.ref f] I1.kIn rfl) (.cons rfl .nil) rfl fun hr' => ?_
    obtain ⟨t', ht', hq'⟩ := hG f c' s' H1 Q (fun E H' Q' => rdE T X mb (EW X.mg E) σ H' Q') (fun W pn xe E p1 p2 tk hW => pe_act (i := 0) (tb := rdE T X mb (EW X.mg E)) I1 lo.sc hf hfn hfr (hbind _ _ _ _ _) tk hW hr' (fun A outer s H hr2 => by
      have tk2 : Tk (lamCx X A outer s H E scope f c') (EW X.mg E) := tk_body (X := lamCx X A outer s H E scope f c') rfl rfl rfl rfl
      exact (hbody A outer s H E f c' hr2 _ tk2).imp fun σ' H' Q' ⟨r', ρ', S', m', q'⟩ => ⟨r', ρ', S', m'.blk rfl rfl, q'⟩) hNg hva hd hcd) hco (by
        show rdE T X mb (EW X.mg _) σ H1 Q
        refine ⟨r, ρ, S, mm.step st, ?_⟩
        cases em : mb ρ S with
        | ok w s2 => rw [em] at q; exact fun r' H' v x l => q r' H' v (st.trans x) l
        | bad => rw [em] at q; exact q
        | ex cl s2 =>
          rw [em] at q
          simp only at q
          intro r' H' x C hC
          split at q
          · rename_i hcl
            subst hcl
            rw [hme] at hC
            cases hC
            exact ⟨true, hex, fun _ => q r' H' _ (st.trans x) mStr, fun z => by cases z⟩
          · exact False.elim q)
    exact ⟨t', ht'.nox, hq'⟩
  refine wpAny_call (codeAny_mono rc fun r s2 hq => ?_)
  cases r with
  | error e => exact (show False from hq).elim
  | ok fl =>
    cases fl with
    | ret u => exact I1.after hq
    | next => exact False.elim hq
    | brk => exact False.elim hq
    | cont => exact False.elim hq
end
end RS
set_option Elab.async false
set_option linter.all false
set_option maxRecDepth 100000
set_option maxHeartbeats 1000000
set_option autoImplicit false
/-! RS.C30: what the printed derivations lean on. -/
namespace RS
open PySem PySem.Spec PyProof.Rows L2

theorem u60 {k : Nat} {A : Around} (hr : Room k A) : A.units + 60 < cLine := by have := hr.un; omega
theorem u1 {k : Nat} {A : Around} (hr : Room k A) : A.units + 1 < cLine := by have := hr.un; omega
theorem len_nil : ∀ (ρ : Env) (s : S) (ws : List W) (s' : S), eNil ρ s = .ok ws s' → ws.length = 0 := fun ρ s ws s' h => by cases h; rfl
theorem len_cons {me : E} {ms : Es} {n : Nat} (h : ∀ (ρ : Env) (s : S) (ws : List W) (s' : S), ms ρ s = .ok ws s' → ws.length = n) : ∀ (ρ : Env) (s : S) (ws : List W) (s' : S), eCons me ms ρ s = .ok ws s' → ws.length = n + 1 := fun ρ s ws s' e => by
  obtain ⟨w, s1, us, e1, e2, rfl⟩ := eCons_ok e
  rw [List.length_cons, h _ _ _ _ e2]
theorem vis_of {env : PySem.Env} {sc : Scope} {x : Str} (e : env.scope = sc) (h : Vis sc x) : Vis env.scope x := by rw [e]; exact h
theorem loc_of {env : PySem.Env} {sc : Scope} {x : Str} (e : env.scope = sc) (h : Loc sc x) : Loc env.scope x := by rw [e]; exact h
theorem lk_of {env : PySem.Env} {sc : Scope} {x : Str} {k : NameKind} (e : env.scope = sc) (h : sc.names.lookup x = some k) : env.scope.names.lookup x = some k := by rw [e]; exact h
theorem gl_of {env : PySem.Env} {sc : Scope} {x : Str} (e : env.scope = sc) (h : sc.names.lookup x = some .globalImplicit) : env.kindOf x = some .globalImplicit := by
  show env.scope.names.lookup x = _
  rw [e]; exact h
/-- a def whose code object is told -/
structure FunC (K : PySem.W.Frag) (x qual : Str) (st : Stmt) (f : Addr) (fd : FuncData) (c : Addr) : Prop where
  ex : ∃ (oc : Value) (od : Option Addr) (kV doc pm : Value) (an : Option Addr) (ct : Value) (osl : Array (Option Value)),
    fd = PySem.W.fnOf x qual (defArgs st) (defBody st) (defScope st) .none kV doc pm an (.ref c) ct ∧ K.lookup f = some ⟨oc, od, .func fd, osl⟩ ∧ PySem.W.codeIn K (.ref c) qual = true
  kp : PySem.W.keepIn K (.ref f) = true
theorem FunC.fun_ {K : PySem.W.Frag} {x qual : Str} {st : Stmt} {f : Addr} {fd : FuncData} {c : Addr} (F : FunC K x qual st f fd c) : Fun K x qual st f fd := by
  obtain ⟨oc, od, kV, doc, pm, an, ct, osl, e, l, h⟩ := F.ex
  exact ⟨⟨oc, od, kV, doc, pm, an, .ref c, ct, osl, e, l, h⟩, F.kp⟩
theorem fn_Rc {T : List NdefX.NTab} {P : Program} {w : World} {K : PySem.W.Frag} {mg : Str → Option Value} {base : Heap} {x qual : Str} {st : Stmt} {f c : Addr} {fd : FuncData} {N ps : List Str} {k n : Nat} {b : B} (F : FunC K x qual st f fd c) (Sc : FnScope N ps (defScope st)) (hn : n = ps.length)
    (hb : ∀ (A : Around) (outer : List PySem.Env) (s : Shared) (H : Hp) (Ex : XK), Room k (A.deeper (envOfC qual (defScope st) s.heap.objs.size f (.ref c))) → RSs T (cxOf (L2.CX P w) P w K mg base N qual (defScope st) f (.ref c) A outer s H Ex) (defBody st) b) :
    FnOk P w K mg base (L2.CX P w) (k + 1) f fd ps (spR T K mg n (bodyM N.length b)) := by
  obtain ⟨oc, od, kV, doc, pm, an, ct, osl, rfl, lk, hcd⟩ := F.ex
  refine fn_of lk hcd Sc (fun vs H Q Ex h => by rw [h.1, hn]) fun A outer s H vs Q Ex hr h => ?_
  obtain ⟨hl, r, S, ws, m, l, q⟩ := h
  have tk : Tk (cxOf (L2.CX P w) P w K mg base N qual (defScope st) f (.ref c) A outer s H Ex) (EW mg Ex) := tk_body (X := cxOf (L2.CX P w) P w K mg base N qual (defScope st) f (.ref c) A outer s H Ex) rfl rfl rfl rfl
  obtain ⟨e1, e2⟩ := env_start (N := N) l
  exact ⟨_, hb A outer s H Ex hr _ tk, r, _, S, ⟨m, e1, e2⟩, PostS.body (X := cxOf (L2.CX P w) P w K mg base N qual (defScope st) f (.ref c) A outer s H Ex) q⟩
/-- the table of a def's code objects -/
structure TabOk (T : List NdefX.NTab) (base : Heap) (mg : Str → Option Value) (c P : Addr) (q : Str) : Prop where
  TB : LamX.TabB base mg c P
  hT : (P, fun _ _ => q) ∈ T
  hu : ∀ p ∈ T, p.1 = P → p.2 = fun _ _ => q
theorem TabOk.gx {T : List NdefX.NTab} {X : Cx} {scope : Scope} {own : List (Str × Nat)} {c P : Addr} {q : Str} {gpos : Pos} (t : TabOk T X.base X.mg c P q) (blk : BlkOk X.N X.env.scope scope own) (nd : X.N.Nodup) (dot : (".0" : Str) ∉ X.N) (co : scope.isCoroutine = false) (d0 : scope.names.lookup (".0" : Str) = some NameKind.local) (code : X.env.code = .ref c) (hq : q = X.env.qual ++ "<genexpr>") :
    GxOk T X scope own c P (fun _ _ => q) gpos := ⟨blk, nd, dot, co, d0, code, t.TB, t.hT, hq, t.hu⟩
/-! ### a, b = x, y -/
def bPar2 (i j : Nat) (ms : Es) : B := fun ρ s => (ms ρ s).bindS fun ws s1 => match ws with
  | [v, w] => .nx ((ρ.set i (some v)).set j (some w)) s1
  | _ => .bad
def bPar3 (i j l : Nat) (ms : Es) : B := fun ρ s => (ms ρ s).bindS fun ws s1 => match ws with
  | [u, v, w] => .nx (((ρ.set i (some u)).set j (some v)).set l (some w)) s1
  | _ => .bad
section
variable {T : List NdefX.NTab} {X : Cx} {pos : Pos}
theorem st_par2 {i j : Nat} {x y : Str} {a b : Expr} {ms : Es} {px py pt : Pos} {kt k2 pt2} (hc : X.calm = true) (hN : X.N.Nodup) (ha : RA T X [a, b] ms) (hi : X.N[i]? = some x := by rfl) (hj : X.N[j]? = some y := by rfl) (hij : i ≠ j := by decide)
    (hx : X.env.scope.names.lookup x = some .local := by rfl) (hy : X.env.scope.names.lookup y = some .local := by rfl)
    (hw : swappedStores [.Tuple [.Name x px, .Name y py] kt pt] (.Tuple [a, b] k2 pt2) X.env = pure (some [x, y]) := by rfl)
    (hs : swapsWithSole [.Tuple [.Name x px, .Name y py] kt pt] (.Tuple [a, b] k2 pt2) pos.line X.env = pure false := by rfl) :
    RS_ T X (.Assign [.Tuple [.Name x px, .Name y py] kt pt] (.Tuple [a, b] k2 pt2) pos) (bPar2 i j ms) := fun Wx tk => by
  refine (ps_par hc hN hi hj hij hx hy (ha Wx tk) hw hs).imp fun D σ H h => ?_
  obtain ⟨r, ρ, s, m, q⟩ := h
  unfold bPar2 at q
  refine rdA.go m (fun ws s1 e1 r1 H1 vs p1 l1 m1 => ?_) (fun c s1 e1 r1 H1 p1 => ?_) (fun e1 => ?_)
  · rw [e1] at q
    simp only [Out.bindS] at q
    split at q
    · obtain ⟨v, w, rfl, r1', r2'⟩ := l1.two
      exact ⟨v, w, rfl, q r1 _ H1 p1 ((m1.set r1' i).set r2' j)⟩
    · exact False.elim q
  · rw [e1] at q; exact q r1 H1 p1
  · rw [e1] at q; exact q
theorem st_par3 {i j l : Nat} {x y z : Str} {a b c : Expr} {ms : Es} {px py pz pt : Pos} {kt k2 pt2} (hc : X.calm = true) (hN : X.N.Nodup) (ha : RA T X [a, b, c] ms) (hi : X.N[i]? = some x := by rfl) (hj : X.N[j]? = some y := by rfl) (hl : X.N[l]? = some z := by rfl) (hij : i ≠ j := by decide) (hil : i ≠ l := by decide) (hjl : j ≠ l := by decide)
    (hx : X.env.scope.names.lookup x = some .local := by rfl) (hy : X.env.scope.names.lookup y = some .local := by rfl) (hz : X.env.scope.names.lookup z = some .local := by rfl)
    (hw : swappedStores [.Tuple [.Name x px, .Name y py, .Name z pz] kt pt] (.Tuple [a, b, c] k2 pt2) X.env = pure (some [x, y, z]) := by rfl)
    (hs : swapsWithSole [.Tuple [.Name x px, .Name y py, .Name z pz] kt pt] (.Tuple [a, b, c] k2 pt2) pos.line X.env = pure false := by rfl) :
    RS_ T X (.Assign [.Tuple [.Name x px, .Name y py, .Name z pz] kt pt] (.Tuple [a, b, c] k2 pt2) pos) (bPar3 i j l ms) := fun Wx tk => by
  refine (ps_par3 hc hN hi hj hl hij hil hjl hx hy hz (ha Wx tk) hw hs).imp fun D σ H h => ?_
  obtain ⟨r, ρ, s, m, q⟩ := h
  unfold bPar3 at q
  refine rdA.go m (fun ws s1 e1 r1 H1 vs p1 l1 m1 => ?_) (fun c s1 e1 r1 H1 p1 => ?_) (fun e1 => ?_)
  · rw [e1] at q
    simp only [Out.bindS] at q
    split at q
    · obtain ⟨u, v, w, rfl, r1', r2', r3'⟩ := l1.three
      exact ⟨u, v, w, rfl, q r1 _ H1 p1 (((m1.set r1' i).set r2' j).set r3' l)⟩
    · exact False.elim q
  · rw [e1] at q; exact q r1 H1 p1
  · rw [e1] at q; exact q
end
theorem blk_of {N : List Str} {env : PySem.Env} {sc scope : Scope} {own : List (Str × Nat)} (e : env.scope = sc) (h : BlkOk N sc scope own) : BlkOk N env.scope scope own := by rw [e]; exact h
theorem lookup_rel {env : PySem.Env} {x : Str} : ∀ {l : List (Str × NameKind)} {k : NameKind}, l.lookup x = some k → (l.map fun (n, k) => if (k == NameKind.free && env.scope.kind == .function && env.kindOf n == some .cell) then (n, NameKind.cell) else (n, k)).lookup x = some k ∨ (l.map fun (n, k) => if (k == NameKind.free && env.scope.kind == .function && env.kindOf n == some .cell) then (n, NameKind.cell) else (n, k)).lookup x = some .cell
  | [], k, h => by cases h
  | (n, k0) :: l, k, h => by
    rw [List.map_cons]
    rw [List.lookup_cons] at h
    cases hx : x == n with
    | true =>
      rw [hx] at h
      cases h
      dsimp only
      split
      · exact .inr (by rw [List.lookup_cons, hx])
      · exact .inl (by rw [List.lookup_cons, hx])
    | false =>
      rw [hx] at h
      rcases lookup_rel (env := env) h with z | z
      · refine .inl ?_
        dsimp only
        split <;> (rw [List.lookup_cons, hx]; exact z)
      · refine .inr ?_
        dsimp only
        split <;> (rw [List.lookup_cons, hx]; exact z)
theorem vis_rel {env : PySem.Env} {sc : Scope} {x : Str} (h : Vis sc x) : Vis (relabel sc env) x := by
  rcases h with h | h | h
  · rcases lookup_rel (env := env) h with z | z
    · exact .inl z
    · exact .inr (.inl z)
  · rcases lookup_rel (env := env) h with z | z
    · exact .inr (.inl z)
    · exact .inr (.inl z)
  · rcases lookup_rel (env := env) h with z | z
    · exact .inr (.inr z)
    · exact .inr (.inl z)
/-- nothing is told -/
def bBad : B := fun _ _ => .bad
theorem rss_bad {T : List NdefX.NTab} {X : Cx} {st : List Stmt} : RSs T X st bBad := fun Wx tk => ⟨fun pins s σ H D I h => by
  obtain ⟨_, _, _, _, q⟩ := h
  exact False.elim q⟩
end RS
set_option Elab.async false
set_option linter.all false
set_option maxRecDepth 100000
set_option maxHeartbeats 1000000
set_option autoImplicit false
/-! RS.C31: list(d.items()). -/
namespace RS
open PySem PySem.Spec PyProof.Rows L2

section
variable {T : List NdefX.NTab} {K : PySem.W.Frag} {mg : Str → Option Value} {r : Rm} {s : S} {H H' : Hp}
/-- more is known, one of it named -/
theorem Mt.grow (m : Mt T K mg r s H) (k : ∀ b o, H b = some o → H' b = some o) : Stp T K mg r s H r s H' := by
  have kk : Kp r s.nx H r s.nx H' := ⟨Nat.le_refl _, fun _ _ => rfl, fun q xs h => k _ _ h, fun _ f => f, fun _ _ _ h => k _ _ h⟩
  refine ⟨kk, ⟨m.inj, fun a o' h => ?_, fun a ha => ?_, NdefX.TabsN.ext m.tab k, m.lkb, fun q f => ⟨(m.fr q f).1, (m.fr q f).2.elim fun xs e => ⟨xs, k _ _ e.1, e.2⟩⟩⟩, rfl, fun _ _ => rfl, fun a ha => ?_, fun q o h _ _ => k _ _ h, fun q ps h => ⟨#[], by rw [k _ _ h]; simp⟩, fun a h1 h2 => absurd (Nat.lt_of_le_of_lt h1 h2) (Nat.lt_irrefl _), fun _ f => .inl f⟩
  · obtain ⟨g1, u, g2, g3⟩ := m.ob a o' h
    exact ⟨g1, u, k _ _ g2, g3.kp kk⟩
  · obtain ⟨u, h2, h3⟩ := m.dom a ha
    exact ⟨u, k _ _ h2, h3⟩
  · obtain ⟨u, h2, _⟩ := m.dom a (m.lkb a ha)
    exact ⟨m.lkb a ha, by rw [k _ _ h2, h2]⟩
theorem off_new (m : Mt T K mg r s H) {D : Addr} (hD : H D = none) : Off r s.nx D := ⟨fun a ha => m.ne hD ha, fun f => (m.fr D f).2.elim fun _ e => by rw [hD] at e; cases e.1⟩
end
def eLItems (v : Bool) (m : E) : E := fun ρ s => (m ρ s).bind fun w s1 => match dcW s1 w with
  | some l => mkL v (l.map fun kv => .tup [kv.1, kv.2]) s1
  | none => .bad
theorem rItems {K : PySem.W.Frag} {r : Rm} {n : Nat} {H' : Hp} : ∀ {l : List (W × W)} {kvs : List (Key × V)} {ts : List Addr}, RKV K r n H' l kvs → Paired (fun (t : Addr) (q : Key × V) => H' t = some (.tup [kV q.1, q.2])) ts kvs → RelWs K r n H' (l.map fun kv => W.tup [kv.1, kv.2]) (ts.map V.ref)
  | _, _, _, .nil, h => by cases h; unfold RelWs; rfl
  | _, _, _, .cons a b, h => by
    cases h with
    | cons h1 h2 =>
      rw [List.map_cons, List.map_cons]
      refine RelWs.cons ?_ (rItems b h2)
      refine mTup (.inl h1) (RelWs.cons ?_ (RelWs.cons a.2 RelWs.nil))
      rw [a.1]
      rename_i p q _ _ _ _
      cases q.1 <;> (unfold kW RelW; rfl)
section
variable {T : List NdefX.NTab} {X : Cx} {pos : Pos}
/-- list(e.items()), the dict locked or not -/
theorem pe_listItemsR {e : Expr} {te : TE} {p apos cpos : Pos} (hc : X.calm = true) (he : PE X e te) (hg : Gl X "list") (hm : X.mg "list" = none) (hbase : attributeBase e "items" X.env (eval e X.env) = eval e X.env) (hline : (apos.endLine == cpos.line) = true)
    (hs : starEach [.Call (.Attribute e "items" apos) [] [] cpos] X.env = (false, eval (.Call (.Attribute e "items" apos) [] [] cpos) X.env) :: starEach [] X.env) :
    PE X (.Call (.Name "list" p) [.Call (.Attribute e "items" apos) [] [] cpos] [] pos) fun σ H Q => te σ H fun x H1 => ∃ (d : Addr) (kvs : List (Key × V)), x = .ref d ∧ Rd H1 d (.dK kvs) ∧
      ∀ (H' : Hp) (p : Addr) (ts : List Addr), (∀ b o, H1 b = some o → H' b = some o) → H1 p = none → (∀ t ∈ ts, H1 t = none) → p ∉ ts → H' p = some (.lst (ts.map V.ref)) → Paired (fun (t : Addr) (q : Key × V) => H' t = some (.tup [kV q.1, q.2])) ts kvs → Q (.ref p) H' := by
  refine ⟨fun pins s σ H Q I hq => wpAny_Call_Name_kw (ld_blt I hg hm (by rfl) (PyProof.Rows.callWith_type1 ?_ hs rfl))⟩
  rw [hs]
  show wpAny _ _ (spliced ((false, eval (.Call (.Attribute e "items" apos) [] [] cpos) X.env) :: backTo pos (starEach [] X.env))) _ _ s
  refine Calls.spliced_cons (wpAny_Call_method (T := "dict") (id := "dict.items") hbase rfl hline F.plainAttrs_dict F.slot_dict_items F.type_dict_items (thn (he.run pins s σ H _ I hq) fun u sh ⟨x, Hh, Ih, rx, d, kvs, ex, hd, q⟩ => ?_))
  subst ex
  obtain rfl : u = Value.ref d := rx
  obtain ⟨hz, hs0, vs, kv, hdo⟩ := dk_rd Ih.hok hd
  obtain ⟨ep, hat⟩ := hdo.dictAt
  have hlen : kvs.length = vs.length := Paired.length kv
  have Iv : Inv X pins σ Hh { sh with heap := sh.heap.push { cls := .type "dict_items", data := .fields #[.ref d] } } := Ih.kept (t' := sh.toks) fun b ob q => Heap.get?_push_of_some _ q
  refine ⟨hdo.typeIs, hdo.mapOf.noDict, ?_⟩
  show wpAny _ _ (callWith cpos (.builtin "dict.items") [.ref d] [] []) _ X.xe sh
  refine method_meetsIn F.slot_dict_items F.entry_dict_items rfl (PySem.evalArgs_none ⟨rfl, hdo.typeIs, F.args_dict_items_1 _, _, meets_dict_items (mixKind X.prog X.w) d hs0, ⟨vs, hdo⟩, Calls.spliced_nil ?_⟩)
  refine PySem.W.kdx_call (knd := mixKind X.prog X.w) (kvs := vs) (ep := ep) (Ih.ok.hd hc) ⟨_, Heap.get?_push_size _ rfl, rfl, rfl⟩ (hat.push _) (by omega) fun h' tk acc c as hk hS hl hG hacc => ?_
  obtain ⟨H', z1, z2, z3, z4, z5, z6, J⟩ := LiI.items_laid (tk := tk) Iv hz kv hk hS hl hG hacc
  exact ⟨.ref _, H', J, rfl, q H' _ as z1 z2 z3 z4 z5 z6⟩
theorem rs_listItems {vr : Bool} {e : Expr} {m : E} {p apos cpos : Pos} (hc : X.calm = true) (he : RE T X e m) (hm : X.mg "list" = none) (hg : Gl X "list" := by rfl) (hbase : attributeBase e "items" X.env (eval e X.env) = eval e X.env := by rfl) (hline : (apos.endLine == cpos.line) = true := by rfl)
    (hs : starEach [.Call (.Attribute e "items" apos) [] [] cpos] X.env = (false, eval (.Call (.Attribute e "items" apos) [] [] cpos) X.env) :: starEach [] X.env := by rfl) :
    RE T X (.Call (.Name "list" p) [.Call (.Attribute e "items" apos) [] [] cpos] [] pos) (eLItems vr m) := fun Wx tk => by
  refine (pe_listItemsR hc (he Wx tk) hg hm hbase hline hs).imp fun σ H Q h => ?_
  obtain ⟨r, ρ, s, mm, q⟩ := h
  unfold eLItems at q
  refine rdE.go mm (fun x s1 e1 r1 H1 v1 p1 l1 m1 => ?_) (fun c s1 e1 r1 H1 p1 => ?_) (fun e1 => ?_)
  · rw [e1] at q
    simp only [Out.bind] at q
    split at q
    · rename_i l el
      obtain ⟨pd, kvs, rfl, h1, l2⟩ := m1.mt.dc l1 el
      refine ⟨_, kvs, rfl, h1, fun H' pp ts k hp ht hnp hpp hpr => ?_⟩
      have gr := m1.mt.grow k
      have l3 : RKV X.K r1 s1.nx H' l kvs := Paired.mapP l2 fun _ _ z => ⟨z.1, z.2.kp gr.kp⟩
      have op := off_new m1.mt hp
      exact PostE.adopt (PostE.shift q p1) gr hp op hpp (rItems l3 hpr)
    · exact False.elim q
  · rw [e1] at q; exact q r1 H1 p1
  · rw [e1] at q; exact q
end
end RS
set_option Elab.async false
set_option linter.all false
set_option maxRecDepth 100000
set_option maxHeartbeats 1000000
set_option autoImplicit false
/-! RS.C33: the script's first cells: _law_rounds, whose argument has no number. -/
namespace RS
open PySem PySem.Spec PyProof.Rows L2

/-- what _law_rounds gives of a list with the items ws: b is its body behind the first statement; slots: script, most, cells, cell -/
def roundsM (b : B) (ws : List W) (n : Int) : M W := fun s => match b [none, some (.int n), some (.lst (cutW ws none (some n))), none] s with
  | .nx _ s' => .ok .non s'
  | .rt w s' => .ok w s'
  | .ex c s' => .ex c s'
  | _ => .bad
def spRounds (T : List NdefX.NTab) (K : PySem.W.Frag) (mg : Str → Option Value) (m : List W → Int → M W) : Sp := fun vs H Q Ex => ∃ a xs ws n, vs = [.ref a, .int n] ∧ SqL K H a xs ∧ ∃ r s, Mt T K mg r s H ∧ RelWs K r s.nx H ws xs ∧ PostE T K mg r s H (m ws n s) Q (EW mg Ex)
section
variable {T : List NdefX.NTab} {P : Program} {w : World} {K : PySem.W.Frag} {mg : Str → Option Value} {base : Heap}
theorem fn_rounds {x qual : Str} {st : Stmt} {f : Addr} {fd : FuncData} {k : Nat} {b : B} {x0 x1 x2 x3 : Str} {rest : List Stmt} {q1 q2 q3 q4 q5 q6 : Pos} (F : Fun K x qual st f fd) (Sc : FnScope [x0, x1, x2, x3] [x0, x1] (defScope st))
    (hbody : defBody st = .Assign [.Name x2 q1] (.Subscript (.Name x0 q2) (.Slice none (some (.Name x1 q3)) none q4) q5) q6 :: rest)
    (hv0 : Vis (defScope st) x0) (hv1 : Vis (defScope st) x1) (hl : Loc (defScope st) x2) (hd : ∀ y ∈ [x0, x1], (y == ("__debug__" : Str)) = false ∧ (y == ("__classdict__" : Str)) = false)
    (hsw : ∀ env : PySem.Env, swapsWith (.Subscript (.Name x0 q2) (.Slice none (some (.Name x1 q3)) none q4) q5) (some (.Name x2 q1)) q6.line env = pure false)
    (hb : ∀ (cdv : Value) (A : Around) (outer : List PySem.Env) (s : Shared) (H : Hp) (Ex : XK), Room k (A.deeper (envOfC qual (defScope st) s.heap.objs.size f cdv)) → RSs T (cxOf (L2.CX P w) P w K mg base [x0, x1, x2, x3] qual (defScope st) f cdv A outer s H Ex) rest b) :
    FnOk P w K mg base (L2.CX P w) (k + 1) f fd [x0, x1] (spRounds T K mg (roundsM b)) := by
  refine F.okX Sc (fun vs H Q Ex h => ?_) fun cdv A outer s H vs Q Ex hr h => ?_
  · obtain ⟨a, xs, ws, n, rfl, _⟩ := h
    rfl
  · obtain ⟨a, xs, ws, n, rfl, hq, r, S, m, l, q⟩ := h
    have tk : Tk (cxOf (L2.CX P w) P w K mg base [x0, x1, x2, x3] qual (defScope st) f cdv A outer s H Ex) (EW mg Ex) := tk_body (X := cxOf (L2.CX P w) P w K mg base [x0, x1, x2, x3] qual (defScope st) f cdv A outer s H Ex) rfl rfl rfl rfl
    rw [hbody]
    refine ⟨_, pss_cons (ps_set (X := cxOf (L2.CX P w) P w K mg base [x0, x1, x2, x3] qual (defScope st) f cdv A outer s H Ex) (i := 2) Sc.nd rfl hl (pe_slice sl_list (pv 0 rfl hv0 (hd x0 (by simp)).1 (hd x0 (by simp)).2) po_none (po_some (pv 1 rfl hv1 (hd x1 (by simp)).1 (hd x1 (by simp)).2))) (hsw _) (.inl rfl)) (hb cdv A outer s H Ex hr _ tk), ?_⟩
    refine ⟨_, rfl, _, rfl, n, rfl, a, xs, rfl, hq, fun p hp => ?_⟩
    have kst := m.junkF (ys := cutV xs none (some n)) hp
    refine ⟨_, [none, some (.int n), some (.lst (cutW ws none (some n))), none], _, ⟨kst.mt, rfl, fun i w' e => ?_⟩, ?_⟩
    · match i with
      | 0 => cases e
      | 1 => cases e; exact ⟨_, rfl, mInt⟩
      | 2 => cases e; exact ⟨_, rfl, mLst (.inl rfl) upd_same (RelWs.kp kst.kp (l.cut none (some n)))⟩
      | 3 => cases e
      | i + 4 => cases e
    · unfold roundsM at q
      cases e : b [none, some (.int n), some (.lst (cutW ws none (some n))), none] S with
      | nx ρ s' => rw [e] at q; exact fun r' σ' H' st m' => q r' H' _ (kst.trans st) mNon
      | rt w' s' => rw [e] at q; exact fun r' H' v st l' => q r' H' v (kst.trans st) l'
      | ex c s' => rw [e] at q; exact fun r' H' st => q r' H' (kst.trans st)
      | bk ρ s' => rw [e] at q; exact False.elim q
      | ct ρ s' => rw [e] at q; exact False.elim q
      | bad => rw [e] at q; exact q
end
end RS
set_option Elab.async false
set_option linter.all false
set_option maxRecDepth 100000
set_option maxHeartbeats 1000000
set_option autoImplicit false
/-! RS.C34: the law's own frame: for dice in _law_rounds(script, 1): ..; return _law_plain(). -/
namespace RS
open PySem PySem.Spec PyProof.Rows L2

section
variable {T : List NdefX.NTab} {X : Cx}
/-- a walk begun -/
theorem for_R {p : PIt} {g : G} {b : B} {J : It} {D : Ends} {Wx : Wish} {r1 : Rm} {ρ1 : Env} {s1 : S} {σ1 : L2.St} {H1 : Hp} {n1 : Nat} (mm1 : MtE T X r1 ρ1 s1 σ1 H1) (rel : ItRel T X.K X.mg r1 s1 H1 p J) (q : PostS T X r1 s1 H1 (fLoop p g b n1 0 ρ1 s1) D Wx) :
    ∃ W : Nat → Nat → L2.St → Hp → Prop, (∃ m, W 0 m σ1 H1) ∧ ∀ i m σ H, W i m σ H → (J.stop i H ∧ D.nx σ H) ∨ (J.go i H ∧ ∃ N : L2.St → Hp → Prop, (∀ σ' H', N σ' H' → ∃ m', m' < m ∧ W (i + 1) m' σ' H') ∧
      ∀ x H', J.yld i H x H' → (fun v σ H (Q : L2.St → Hp → Prop) => ∃ r ρ s w, MtE T X r ρ s σ H ∧ RelW X.K r s.nx H w v ∧ PostG T X r s H (g w ρ s) Q Wx) x σ H' fun σ2 H2 => rdS T X b Wx { D with nx := N, ct := N, bk := D.nx } σ2 H2) := by
  refine ⟨fun i n σ H => ∃ r ρ s, Stp T X.K X.mg r1 s1 H1 r s H ∧ MtE T X r ρ s σ H ∧ PostS T X r s H (fLoop p g b n i ρ s) D Wx, ⟨n1, r1, ρ1, s1, .refl mm1.mt, mm1, q⟩, ?_⟩
  clear q
  rintro i n σ H ⟨r, ρ, s, st, mm, q⟩
  cases n with
  | zero => exact False.elim q
  | succ n =>
    unfold fLoop at q
    obtain ⟨ry, rs⟩ := rel i r s H st
    cases e : p.at' i s with
    | none => rw [e] at q; exact False.elim q
    | some o =>
      rw [e] at q
      cases o with
      | none => exact .inl ⟨rs e, q r σ H (.refl mm.mt) mm⟩
      | some w =>
        obtain ⟨go, yl⟩ := ry w e
        refine .inr ⟨go, fun σ' H' => ∃ r ρ s, Stp T X.K X.mg r1 s1 H1 r s H' ∧ MtE T X r ρ s σ' H' ∧ PostS T X r s H' (fLoop p g b n (i + 1) ρ s) D Wx, fun σ' H' z => ⟨n, Nat.lt_succ_self n, z⟩, fun x H' y => ?_⟩
        obtain ⟨r', sy, rl⟩ := yl x H' y
        refine ⟨r', ρ, s, w, mm.step sy, rl, ?_⟩
        simp only at q
        cases e2 : g w ρ s with
        | nx ρ2 s2 =>
          rw [e2] at q
          refine fun r2 σ2 H2 p2 m2 => ⟨r2, ρ2, s2, m2, ?_⟩
          simp only [OutS.then, OutS.g] at q
          cases e3 : b ρ2 s2 with
          | nx ρ3 s3 => rw [e3] at q; exact fun r3 σ3 H3 p3 m3 => ⟨r3, ρ3, s3, st.trans (sy.trans (p2.trans p3)), m3, PostS.shift q (sy.trans (p2.trans p3))⟩
          | ct ρ3 s3 => rw [e3] at q; exact fun r3 σ3 H3 p3 m3 => ⟨r3, ρ3, s3, st.trans (sy.trans (p2.trans p3)), m3, PostS.shift q (sy.trans (p2.trans p3))⟩
          | bk ρ3 s3 => rw [e3] at q; exact fun r3 σ3 H3 p3 m3 => q r3 σ3 H3 (sy.trans (p2.trans p3)) m3
          | rt u s3 => rw [e3] at q; exact fun r3 H3 v p3 l3 => q r3 H3 v (sy.trans (p2.trans p3)) l3
          | ex c s3 => rw [e3] at q; exact fun r3 H3 p3 => q r3 H3 (sy.trans (p2.trans p3))
          | bad => rw [e3] at q; exact q
        | ex c s2 => rw [e2] at q; exact fun r2 H2 p2 => q r2 H2 (sy.trans p2)
        | bad => rw [e2] at q; exact q
        | _ => rw [e2] at q; exact q
end
/-- what the law answers, the script's items ws -/
def lawM (rM : List W → Int → M W) (b : B) (pM : List W → M W) (n : Nat) (ws : List W) : M W := fun s => match rM ws 1 s with
  | .ok (.lst l) s1 => match fLoop (itS l) (gN 1) b (l.length + 1) 0 (List.replicate n none) s1 with
    | .nx _ s2 => pM [] s2
    | .rt w s2 => .ok w s2
    | .ex c s2 => .ex c s2
    | _ => .bad
  | .ex c s1 => .ex c s1
  | _ => .bad
def spLaw (T : List NdefX.NTab) (K : PySem.W.Frag) (mg : Str → Option Value) (m : List W → M W) : Sp := fun vs H Q Ex => ∃ a xs ws, vs = [.ref a] ∧ SqL K H a xs ∧ ∃ r s, Mt T K mg r s H ∧ RelWs K r s.nx H ws xs ∧ PostE T K mg r s H (m ws s) Q (EW mg Ex)
section
variable {T : List NdefX.NTab} {P : Program} {w : World} {K : PySem.W.Frag} {mg : Str → Option Value} {base : Heap}
theorem fn_law {st : Stmt} {f c fR fP : Addr} {fd fdR fdP : FuncData} {k kR kP : Nat} {b : B} {N : List Str} {xs0 x1 xR xP : Str} {bd : List Stmt} {rM : List W → Int → M W} {pM : List W → M W} {j : Nat} {q1 q2 q3 q4 q5 q6 q7 q8 q9 : Pos} (F : FunC K "law" "law" st f fd c) (Sc : FnScope N [xs0] (defScope st))
    (hbody : defBody st = [.For (.Name x1 q1) (.Call (.Name xR q2) [.Name xs0 q3, .Constant (.int 1) j q4] [] q5) bd [] q6, .Return (some (.Call (.Name xP q7) [] [] q8)) q9])
    (hN : ∃ N', N = xs0 :: x1 :: N') (hv0 : Vis (defScope st) xs0) (hl1 : Loc (defScope st) x1) (hd0 : (xs0 == ("__debug__" : Str)) = false ∧ (xs0 == ("__classdict__" : Str)) = false) (hgR : (defScope st).names.lookup xR = some .globalImplicit) (hgP : (defScope st).names.lookup xP = some .globalImplicit)
    (hdR : (xR == ("__debug__" : Str)) = false) (hdP : (xP == ("__debug__" : Str)) = false)
    (FR : FnOk P w K mg base (L2.CX P w) kR fR fdR ["script", "most"] (spRounds T K mg rM)) (hmR : mg xR = some (.ref fR)) (hkR : PySem.W.keepIn K (.ref fR) = true) (hbR : Binds K fdR ["script", "most"] [])
    (FP : FnOk P w K mg base (L2.CX P w) kP fP fdP [] (spR T K mg 0 pM)) (hmP : mg xP = some (.ref fP)) (hkP : PySem.W.keepIn K (.ref fP) = true) (hbP : Binds K fdP [] []) (hkR' : kR ≤ k) (hkP' : kP ≤ k)
    (hb : ∀ (A : Around) (outer : List PySem.Env) (s : Shared) (H : Hp) (Ex : XK), Room k (A.deeper (envOfC "law" (defScope st) s.heap.objs.size f (.ref c))) → RSs T (cxOf (L2.CX P w) P w K mg base N "law" (defScope st) f (.ref c) A outer s H Ex) bd b) :
    FnOk P w K mg base (L2.CX P w) (k + 1) f fd [xs0] (spLaw T K mg (lawM rM b pM N.length)) := by
  obtain ⟨oc, od, kV, doc, pm, an, ct, osl, rfl, lk, hcd⟩ := F.ex
  refine fn_of lk hcd Sc (fun vs H Q Ex h => ?_) fun A outer s H vs Q Ex hr h => ?_
  · obtain ⟨a, xs, ws, rfl, _⟩ := h
    rfl
  · obtain ⟨a, xs, ws, rfl, hq, r, S, m, l, q⟩ := h
    obtain ⟨N', rfl⟩ := hN
    have tk : Tk (cxOf (L2.CX P w) P w K mg base (xs0 :: x1 :: N') "law" (defScope st) f (.ref c) A outer s H Ex) (EW mg Ex) := tk_body (X := cxOf (L2.CX P w) P w K mg base (xs0 :: x1 :: N') "law" (defScope st) f (.ref c) A outer s H Ex) rfl rfl rfl rfl
    rw [hbody]
    refine ⟨_, pss_cons (ps_for (X := cxOf (L2.CX P w) P w K mg base (xs0 :: x1 :: N') "law" (defScope st) f (.ref c) A outer s H Ex) (passes_of rfl) rfl
      (pi_list (pe_call FR (hr.mono hkR') hgR hmR hkR hbR (dvs := []) .nil (passR rfl tk) (pa_cons (pv 0 rfl hv0 hd0.1 hd0.2) (pa_cons pe_int pa_nil)) hdR))
      ((rg_name (T := T) (i := 1) Sc.nd rfl hl1 (.inl rfl)) _ tk) (hb A outer s H Ex hr _ tk))
      ((rss_cons (st_ret (rs_call0 (X := cxOf (L2.CX P w) P w K mg base (xs0 :: x1 :: N') "law" (defScope st) f (.ref c) A outer s H Ex) FP rfl (hr.mono hkP') hmP hkP hbP hgP hdP)) rss_nil) _ tk), ?_⟩
    refine ⟨.ref a, rfl, ?_⟩
    show spRounds T K mg rM ([.ref a, .int 1] ++ []) H _ _
    refine ⟨a, xs, ws, 1, rfl, hq, r, S, m, l, ?_⟩
    unfold lawM at q
    cases e : rM ws 1 S with
    | bad => rw [e] at q; exact q
    | ex cc s1 => rw [e] at q; exact fun r' H' x C hC => ⟨rfl, cc, C, rfl, hC, q r' H' x⟩
    | ok wd s1 =>
      rw [e] at q
      cases wd <;> first | exact False.elim q | skip
      rename_i ds
      intro r1 H1 v st1 rl
      obtain ⟨p, ys, rfl, f1, h1, l1⟩ := rLst rl
      refine ⟨_, rfl, ⟨ys, .inl (.inl h1)⟩, ?_⟩
      have mm1 : MtE T (cxOf (L2.CX P w) P w K mg base (xs0 :: x1 :: N') "law" (defScope st) f (.ref c) A outer s H Ex) r1 (List.replicate (xs0 :: x1 :: N').length none) s1 (L2.start (xs0 :: x1 :: N') [.ref a]) H1 := ⟨st1.mt, by simp [L2.start], fun i w' e => by
        have := List.getElem?_eq_some_iff.mp e
        obtain ⟨hlt, z⟩ := this
        rw [List.getElem_replicate] at z
        cases z⟩
      refine for_R (p := itS ds) (n1 := ds.length + 1) mm1 (itF_rel f1 h1 l1) ?_
      simp only at q
      cases e2 : fLoop (itS ds) (gN 1) b (ds.length + 1) 0 (List.replicate (xs0 :: x1 :: N').length none) s1 with
      | nx ρ2 s2 =>
        rw [e2] at q
        refine fun r2 σ2 H2 st2 mm2 => ⟨r2, ρ2, s2, mm2, ?_⟩
        have q : PostE T K mg r2 s2 H2 (pM [] s2) Q (EW mg Ex) := PostE.shift q (st1.trans st2)
        show PostS T _ r2 s2 H2 (bSeq (bRet (eCall pM eNil)) bNil ρ2 s2) _ _
        have e3 : bSeq (bRet (eCall pM eNil)) bNil ρ2 s2 = match pM [] s2 with
          | .ok w s' => .rt w s'
          | .ex c s' => .ex c s'
          | .bad => .bad := by
          unfold bSeq bRet eCall eNil
          simp only [Out.bind, Out.bindS]
          cases pM [] s2 <;> rfl
        rw [e3]
        cases e4 : pM [] s2 with
        | ok w' s3 => rw [e4] at q; exact q
        | ex c s3 => rw [e4] at q; exact q
        | bad => rw [e4] at q; exact q
      | rt u s2 => rw [e2] at q; exact fun r2 H2 v st2 l2 => q r2 H2 v (st1.trans st2) l2
      | ex cc s2 => rw [e2] at q; exact fun r2 H2 st2 => q r2 H2 (st1.trans st2)
      | bk _ _ => rw [e2] at q; exact False.elim q
      | ct _ _ => rw [e2] at q; exact False.elim q
      | bad => rw [e2] at q; exact False.elim q
end
end RS
set_option Elab.async false
set_option linter.all false
set_option maxRecDepth 100000
set_option maxHeartbeats 1000000
set_option autoImplicit false
/-! RS.C35: methods of texts. -/
namespace RS
open PySem PySem.Spec PyProof.Rows L2

def strsW : List W → Option (List Str)
  | [] => some []
  | .str x :: l => (strsW l).map (x :: ·)
  | _ => none
def joinS (a : Str) (l : List W) (s : S) : Out W := match strsW l with
  | some ys => if (ys.map (·.length)).sum + ys.length * a.length ≤ 16777216 then .ok (.str (Txt.join a ys)) s else .bad
  | none => .bad
def fJoin : List W → M W := fun ws s => match ws with
  | [.str a, .tup l] => joinS a l s
  | [.str a, w] => match lsW s w with
    | some l => joinS a l s
    | none => .bad
  | _ => .bad
def fLower : List W → M W := fun ws s => match ws with
  | [.str a] => if a.length ≤ 5592405 then .ok (.str (Txt.lower a)) s else .bad
  | _ => .bad
def fFind : List W → M W := fun ws s => match ws with
  | [.str a, .str b] => .ok (.int (Txt.find a b)) s
  | _ => .bad
def fPartition : List W → M W := fun ws s => match ws with
  | [.str a, .str b] => if (b.length == 0) = false ∧ a.length ≤ sizeLine then .ok (.tup [.str (Txt.partition a b).1, .str (Txt.partition a b).2.1, .str (Txt.partition a b).2.2]) s else .bad
  | _ => .bad
section
variable {T : List NdefX.NTab} {X : Cx}
theorem rStrs {K : PySem.W.Frag} {r : Rm} {n : Nat} {H : Hp} : ∀ {l : List W} {ys : List Str} {xs : List V}, strsW l = some ys → RelWs K r n H l xs → xs = ys.map V.str
  | [], ys, xs, h, rl => by cases h; unfold RelWs at rl; subst rl; rfl
  | w :: l, ys, xs, h, rl => by
    cases w <;> first | cases h | skip
    rename_i x
    simp only [strsW] at h
    obtain ⟨ms, h', rfl⟩ := Option.map_eq_some_iff.mp h
    obtain ⟨v, t, rfl, r1, r2⟩ := rl.uncons
    obtain rfl := rStr r1
    rw [rStrs h' r2]; rfl
theorem met_join : Met T X "join" "str" fJoin := ⟨"str.join", F.plainAttrs_str, F.slot_str_join, F.type_str_join, fun Wx tk pins sh σ H x xs v us Q I rx rv h => by
  obtain ⟨r, s, w, ws, m, rl, rls, q⟩ := h
  unfold fJoin at q
  split at q
  · rename_i a l e
    cases e
    obtain rfl := rStr rl
    obtain ⟨yv, rfl, ry⟩ := rls.one
    obtain ⟨p, ys, rfl, t1, l1⟩ := rTup ry
    unfold joinS at q
    split at q
    · rename_i zs hz
      split at q
      · rename_i hb
        obtain rfl := rStrs hz l1
        exact mt_join pins sh σ H _ _ v us Q I rx rv ⟨a, p, zs, rfl, rfl, .inr t1.sq, hb, q.at m mStr⟩
      · exact False.elim q
    · exact False.elim q
  · rename_i a p _ e
    cases e
    obtain rfl := rStr rl
    obtain ⟨yv, rfl, ry⟩ := rls.one
    split at q
    · rename_i l el
      obtain ⟨_, ys, rfl, h1, l1⟩ := m.ls ry el
      unfold joinS at q
      split at q
      · rename_i zs hz
        split at q
        · rename_i hb
          obtain rfl := rStrs hz l1
          exact mt_join pins sh σ H _ _ v us Q I rx rv ⟨a, _, zs, rfl, rfl, .inl (.inl (.inl h1)), hb, q.at m mStr⟩
        · exact False.elim q
      · exact False.elim q
    · exact False.elim q
  · exact False.elim q⟩
theorem met_lower : Met T X "lower" "str" fLower := ⟨"str.lower", F.plainAttrs_str, F.slot_str_lower, F.type_str_lower, fun Wx tk pins sh σ H x xs v us Q I rx rv h => by
  obtain ⟨r, s, w, ws, m, rl, rls, q⟩ := h
  unfold fLower at q
  split at q
  · rename_i a e
    cases e
    obtain rfl := rStr rl
    unfold RelWs at rls
    subst rls
    split at q
    · rename_i hb
      exact mt_lower pins sh σ H _ _ v us Q I rx rv ⟨a, rfl, rfl, hb, q.at m mStr⟩
    · exact False.elim q
  · exact False.elim q⟩
theorem met_find : Met T X "find" "str" fFind := ⟨"str.find", F.plainAttrs_str, F.slot_str_find, F.type_str_find, fun Wx tk pins sh σ H x xs v us Q I rx rv h => by
  obtain ⟨r, s, w, ws, m, rl, rls, q⟩ := h
  unfold fFind at q
  split at q
  · rename_i a b e
    cases e
    obtain rfl := rStr rl
    obtain ⟨yv, rfl, ry⟩ := rls.one
    obtain rfl := rStr ry
    exact mt_find pins sh σ H _ _ v us Q I rx rv ⟨a, b, rfl, rfl, q.at m mInt⟩
  · exact False.elim q⟩
theorem met_partition : Met T X "partition" "str" fPartition := ⟨"str.partition", F.plainAttrs_str, F.slot_str_partition, F.type_str_partition, fun Wx tk pins sh σ H x xs v us Q I rx rv h => by
  obtain ⟨r, s, w, ws, m, rl, rls, q⟩ := h
  unfold fPartition at q
  split at q
  · rename_i a b e
    cases e
    obtain rfl := rStr rl
    obtain ⟨yv, rfl, ry⟩ := rls.one
    obtain rfl := rStr ry
    split at q
    · rename_i hb
      exact mt_partition pins sh σ H _ _ v us Q I rx rv ⟨a, b, rfl, rfl, hb.1, hb.2, PostE.tup m q (RelWs.cons mStr (RelWs.cons mStr (RelWs.cons mStr RelWs.nil)))⟩
    · exact False.elim q
  · exact False.elim q⟩
theorem relStrs {K : PySem.W.Frag} {r : Rm} {n : Nat} {H : Hp} : ∀ ys : List Str, RelWs K r n H (ys.map W.str) (ys.map V.str)
  | [] => RelWs.nil
  | _ :: ys => RelWs.cons mStr (relStrs ys)
def fSplit (v : Bool) : List W → M W := fun ws s => match ws with
  | [.str a, .str b] => if (b.length == 0) = false ∧ a.length + 2 ≤ sizeLine then mkL v ((Txt.split a b).map W.str) s else .bad
  | _ => .bad
theorem met_split {vr : Bool} : Met T X "split" "str" (fSplit vr) := ⟨"str.split", F.plainAttrs_str, F.slot_str_split, F.type_str_split, fun Wx tk pins sh σ H x xs v us Q I rx rv h => by
  obtain ⟨r, s, w, ws, m, rl, rls, q⟩ := h
  unfold fSplit at q
  split at q
  · rename_i a b e
    cases e
    obtain rfl := rStr rl
    obtain ⟨yv, rfl, ry⟩ := rls.one
    obtain rfl := rStr ry
    split at q
    · rename_i hb
      exact mt_split pins sh σ H _ _ v us Q I rx rv ⟨a, b, rfl, rfl, hb.1, hb.2, PostE.lst m q (relStrs _)⟩
    · exact False.elim q
  · exact False.elim q⟩
end
end RS
set_option Elab.async false
set_option linter.all false
set_option maxRecDepth 100000
set_option maxHeartbeats 1000000
set_option autoImplicit false
/-! RS.C36: index, count of a list. -/
namespace RS
open PySem PySem.Spec PyProof.Rows L2

def fIndex : List W → M W := fun ws s => match ws with
  | [w, y] => match lsW s w with
    | some l => match toDs s 12 l, toD s 12 y with
      | some ds, some d => match ds.findIdx? fun z => PyData.eqv z d with
        | some j => .ok (.int (j : Nat)) s
        | none => .bad
      | _, _ => .bad
    | none => .bad
  | _ => .bad
def fCount : List W → M W := fun ws s => match ws with
  | [w, y] => match lsW s w with
    | some l => match toDs s 12 l, toD s 12 y with
      | some ds, some d => .ok (.int (ds.countP fun z => PyData.eqv z d : Nat)) s
      | _, _ => .bad
    | none => .bad
  | _ => .bad
section
variable {T : List NdefX.NTab} {X : Cx}
theorem met_count (hu : X.A.units + 60 < cLine) : Met T X "count" "list" fCount := ⟨"list.count", F.plainAttrs_list, F.slot_list_count, F.type_list_count, fun Wx tk pins sh σ H x xs v us Q I rx rv h => by
  obtain ⟨r, s, w, ws, m, rl, rls, q⟩ := h
  unfold fCount at q
  split at q
  · rename_i a y e
    cases e
    obtain ⟨yv, rfl, ry⟩ := rls.one
    split at q
    · rename_i l el
      obtain ⟨_, ys, rfl, h1, l1⟩ := m.ls rl el
      split at q
      · rename_i ds d hd hy
        obtain ⟨u, rfl, ru⟩ := rv.one
        cases (show v = Value.ref _ from rx)
        obtain ⟨its, rv', ⟨⟨cls, dd, data, sl⟩, n, ho, hc, hdn, hdt⟩, hlen⟩ := I.list (.inl (.inl h1) : SqL X.K H _ ys)
        simp only at hc hdt
        subst hc hdt
        obtain ⟨as, h4⟩ := readsAll_of I m hd l1 rv'
        obtain ⟨bs, h5⟩ := reads_of I m 12 hy ry ru
        obtain ⟨p1, p2⟩ := toDs_plain hd
        obtain ⟨p3, p4⟩ := toD_plain 12 hy
        have h4' : ReadsAll sh.heap its.toArray.toList ds as := by simpa using h4
        have hmap : its.map (SeqAt.readOf sh.heap) = ds := SeqAt.readsAll_map_plain ds its as p1 h4
        refine call_meets PySem.F.slot_list_count ⟨_, ho, rfl⟩ PySem.F.entry_list_count (PySem.F.args_list_count_2 _ _)
          (SeqAt.list_countAt _ its.toArray n dd sl u (fun z => PyData.eqv (SeqAt.readOf sh.heap z) d)) ⟨ho, SeqAt.items_plain h4' h5 p1 p3 (by omega), ?_⟩
        have ec : its.toArray.toList.countP (fun z => PyData.eqv (SeqAt.readOf sh.heap z) d) = ds.countP fun z => PyData.eqv z d := by
          rw [← hmap, List.countP_map]
          rfl
        refine ⟨.int (ds.countP fun z => PyData.eqv z d : Nat), H, I.tok _, ⟨sh.toks, ?_⟩, q.at m mInt⟩
        rw [← ec]
      · exact False.elim q
    · exact False.elim q
  · exact False.elim q⟩
theorem met_index (hu : X.A.units + 60 < cLine) : Met T X "index" "list" fIndex := ⟨"list.index", F.plainAttrs_list, F.slot_list_index, F.type_list_index, fun Wx tk pins sh σ H x xs v us Q I rx rv h => by
  obtain ⟨r, s, w, ws, m, rl, rls, q⟩ := h
  unfold fIndex at q
  split at q
  · rename_i a y e
    cases e
    obtain ⟨yv, rfl, ry⟩ := rls.one
    split at q
    · rename_i l el
      obtain ⟨_, ys, rfl, h1, l1⟩ := m.ls rl el
      split at q
      · rename_i ds d hd hy
        split at q
        · rename_i j hj
          obtain ⟨u, rfl, ru⟩ := rv.one
          cases (show v = Value.ref _ from rx)
          obtain ⟨its, rv', ⟨⟨cls, dd, data, sl⟩, n, ho, hc, hdn, hdt⟩, hlen⟩ := I.list (.inl (.inl h1) : SqL X.K H _ ys)
          simp only at hc hdt
          subst hc hdt
          obtain ⟨as, h4⟩ := readsAll_of I m hd l1 rv'
          obtain ⟨bs, h5⟩ := reads_of I m 12 hy ry ru
          obtain ⟨p1, p2⟩ := toDs_plain hd
          obtain ⟨p3, p4⟩ := toD_plain 12 hy
          have h4' : ReadsAll sh.heap its.toArray.toList ds as := by simpa using h4
          have hmap : its.map (SeqAt.readOf sh.heap) = ds := SeqAt.readsAll_map_plain ds its as p1 h4
          have hn : its.length = ds.length := by rw [← hmap, List.length_map]
          obtain ⟨hjd, hj1, hj2⟩ := List.findIdx?_eq_some_iff_getElem.mp hj
          have hsl := sizeLine_eq
          have hvl := rv'.length
          have hj' : j < its.toArray.size := by simp; omega
          have at_ : ∀ (k : Nat) (hk : k < its.toArray.size) (hk2 : k < ds.length), SeqAt.readOf sh.heap its.toArray[k] = ds[k] := by
            intro k hk hk2
            have : (its.map (SeqAt.readOf sh.heap))[k]? = some ds[k] := by rw [hmap]; exact List.getElem?_eq_getElem hk2
            have hk3 : k < its.length := by simpa using hk
            rw [List.getElem?_map, List.getElem?_eq_getElem hk3] at this
            simpa using this
          refine call_meets PySem.F.slot_list_index ⟨_, ho, rfl⟩ PySem.F.entry_list_index (PySem.F.args_list_index_2 _ _)
            (SeqAt.list_indexAt _ its.toArray n dd sl u (fun z => PyData.eqv (SeqAt.readOf sh.heap z) d) j hj' (by omega) ?_ ?_) ⟨ho, SeqAt.items_plain h4' h5 p1 p3 (by omega), ?_⟩
          · show PyData.eqv (SeqAt.readOf sh.heap its.toArray[j]) d = true
            rw [at_ j hj' hjd]
            exact hj1
          · intro k hk hkj
            show PyData.eqv (SeqAt.readOf sh.heap its.toArray[k]) d = false
            rw [at_ k hk (by omega)]
            simpa using hj2 k hkj
          · exact ⟨.int (j : Nat), H, I.tok _, ⟨_, rfl⟩, q.at m mInt⟩
        · exact False.elim q
      · exact False.elim q
    · exact False.elim q
  · exact False.elim q⟩
end
end RS
set_option Elab.async false
set_option linter.all false
set_option maxRecDepth 100000
set_option maxHeartbeats 1000000
set_option autoImplicit false
/-! RS.C37: lambdas that are kept in a list, told one by one in a comprehension. -/
namespace RS
open PySem PySem.Spec PyProof.Rows L2 LamX

/-! ### the comprehension none of whose items comes through; its test may look at the def around it -/
section
variable {X : Cx}
/-- the block's state, seen from the def -/
abbrev BackTo (X : Cx) (pp : List (Addr × Obj)) (σ : L2.St) (Y : Cx) : Prop := ∀ (qq : List (Addr × Obj)) (σ' : L2.St) (H' : Hp) (s' : Shared), Inv Y qq σ' H' s' → Inv X pp σ H' s'
def tLcB (wi : TI) (g : TG) (tt : L2.St → TT) (vs : List Nat) : TE := fun σ H Q => wi σ H fun J H1 => ∀ D, H1 D = none → ∃ Z : Nat → Nat → Hp → Prop, (∃ m, Z 0 m (upd H1 D (.lst []))) ∧
  ∀ i m Ha, Z i m Ha → (J.stop i Ha ∧ Q (.ref D) Ha) ∨
    (J.go i Ha ∧ ∃ Nx : Hp → Prop, (∀ Hb, Nx Hb → ∃ m', m' < m ∧ Z (i + 1) m' Hb) ∧ ∀ x Hb, J.yld i Ha x Hb → g x (wipe σ vs) Hb fun σ2 Hc => wipe σ2 vs = wipe σ vs ∧ tt σ σ2 Hc fun b Hd => b = false ∧ Nx Hd)
theorem pe_lcB {elt tg iter : Expr} {ifs : List Expr} {scope : Scope} {own : List (Str × Nat)} {pos : Pos} {wi : TI} {g : TG} {tt : L2.St → TT} (hcalm : X.calm = true) (hnd : X.N.Nodup) (hit : PI X tg iter wi) (bk : BlkOk X.N X.env.scope scope own)
    (htg : ∀ (s : Shared) (H : Hp) (C : Addr) (cl : List (Str × Addr)) (fp : List Addr), PG (X.blk s H scope (compEnvC scope cl C X.env) fp) tg g)
    (htt : ∀ (pp : List (Addr × Obj)) (σ : L2.St) (s : Shared) (H : Hp) (C : Addr) (cl : List (Str × Addr)) (fp : List Addr), BackTo X pp σ (X.blk s H scope (compEnvC scope cl C X.env) fp) → PTs (X.blk s H scope (compEnvC scope cl C X.env) fp) ifs (tt σ))
    (hset : ∀ x, foldedSetIterable iter X.env x = pure x := by intro _; rfl) : PE X (.ListComp elt [⟨tg, iter, ifs, 0⟩] scope pos) (tLcB wi g tt (own.map (·.2))) := by
  refine ⟨fun pp s σ H Q I h => ?_⟩
  rw [eval_ListComp]
  have cells : ∀ y ∈ scope.names, y.2 = .free → ∃ c, X.env.cells.lookup y.1 = some c := fun y hy e => (bk.free y hy e).elim (fun k => I.ok.has _ (.inl k)) fun k => I.ok.has _ (.inr k)
  refine wpAny_comprehension_free rfl hset (closure_ok cells) bk.kind (fun y hy e => (bk.uniq y hy).trans (by rw [e])) (thn (hit.run pp s σ H _ I h) fun _ _ k1 => thn k1 fun _ s2 k2 => ?_)
  obtain ⟨it, fp, tn, J, H2, rfl, I2, tr, stand, fpo, rd⟩ := k2
  refine wpAny_newObj_type (newEnv_comp ?_) (by show 0 ≤ sizeLine; decide)
  generalize eD : s2.heap.objs.size = D
  obtain ⟨Z, ⟨m0, z0⟩, step⟩ := rd D (I2.hok.fresh (Nat.le_of_eq eD))
  generalize es3 : ({ s2 with heap := s2.heap.push { cls := .type "list", data := .seq ([] : List Value).toArray } } : Shared) = s3
  have eh3 : s3.heap = s2.heap.push { cls := .type "list", data := .seq ([] : List Value).toArray } := by rw [← es3]
  have I3 : Inv X pp σ (upd H2 D (.lst [])) s3 := by
    rw [← es3]
    exact I2.laid (t' := s2.toks) (fun b o e => Heap.get?_push_of_some _ e) (Nat.le_of_eq eD) ⟨Nat.zero_le _, [], 0, .nil, by rw [← eD]; exact Heap.get?_push_size _ rfl⟩
  have up3 : ∀ b o, s2.heap.get? b = some o → s3.heap.get? b = some o := fun b o e => by rw [eh3]; exact Heap.get?_push_of_some _ e
  have fpo3 : ∀ b ∈ fp, FpOk X pp (upd H2 D (.lst [])) b ∧ b < s3.heap.objs.size := fun b hb => by
    obtain ⟨o, e, _⟩ := tr.obj _ _ stand b hb
    have lt2 := Heap.lt_size e
    exact ⟨⟨(upd_ne (by rw [← eD]; exact Nat.ne_of_lt lt2)).trans (fpo b hb).1, (fpo b hb).2⟩, by rw [eh3, Heap.size_push]; exact Nat.lt_succ_of_lt lt2⟩
  have none3 : ∀ b ∈ fp, (upd H2 D (.lst [])) b = none := fun b hb => (fpo3 b hb).1.1
  have stand3 : tn 0 s3.heap := tr.keep _ _ _ stand fun b _ o e => up3 b o e
  have I4 := block_start I3 bk hnd fpo3
  have tgS := htg s3 (upd H2 D (.lst [])) s3.heap.objs.size (cellsFrom (s3.heap.objs.size + 1) scope.names (cloFrom X.env.cells scope.names [])) fp
  have ttS := htt pp σ s3 (upd H2 D (.lst [])) s3.heap.objs.size (cellsFrom (s3.heap.objs.size + 1) scope.names (cloFrom X.env.cells scope.names [])) fp
  show codeAny _ _ (.compStart (.ListComp elt [⟨tg, iter, ifs, 0⟩] scope pos) 0 (.ref it) (.ref D) (compEnvC scope (cellsFrom (s3.heap.objs.size + 1) scope.names (cloFrom X.env.cells scope.names [])) s3.heap.objs.size X.env)) (compPost (model X.prog X.w) X.A X.xe none _ (.ref D) s3.heap.objs.size) { s3 with heap := pushCells (s3.heap.push { cls := .type "dict", data := .dict #[] }) scope.names }
  generalize eE : compEnvC scope (cellsFrom (s3.heap.objs.size + 1) scope.names (cloFrom X.env.cells scope.names [])) s3.heap.objs.size X.env = ce at I4 tgS ttS ⊢
  have eL : ce.locals = s3.heap.objs.size := by rw [← eE]; rfl
  generalize eH3 : upd H2 D (.lst []) = H3 at I3 I4 tgS ttS z0 none3 fpo3
  generalize es4 : ({ s3 with heap := pushCells (s3.heap.push { cls := .type "dict", data := .dict #[] }) scope.names } : Shared) = s4 at I4 ⊢
  have stand4 : tn 0 s4.heap := tr.keep _ _ _ stand3 fun b _ o e => by rw [← es4]; exact pushCells_keeps _ _ _ _ (Heap.get?_push_of_some _ e)
  have back : BackTo X pp σ (X.blk s3 H3 scope ce fp) := fun qq σ' H' s' J' => I3.call' (ch := fp) J'.os J'.base J'.hok J'.bare fun b hb => (fpo3 b hb).1.2.2.2.1 |> fun z4 => ⟨z4, (fpo3 b hb).1.2.1, (fpo3 b hb).1.2.2.2.2.1, (fpo3 b hb).1.2.2.2.2.2⟩
  have fpoB : ∀ {σ' : L2.St} {H' : Hp} {s' : Shared}, Inv (X.blk s3 H3 scope ce fp) [] σ' H' s' → (∀ b ∈ fp, H' b = none) → ∀ b ∈ fp, FpOk (X.blk s3 H3 scope ce fp) [] H' b := fun {σ' H' s'} J' hn b hb =>
    have z1 := J'.ok.exf b hb
    ⟨hn b hb, z1.1, J'.ok.exfs b hb, .inl hb, fun x c e => z1.2 x c e, fun p hp => by cases (show p ∈ ([] : List (Addr × Obj)) from hp)⟩
  have loop : codeAny (model X.prog X.w) X.A (.compLoop (.ListComp elt [⟨tg, iter, ifs, 0⟩] scope pos) 0 (.ref it) (.ref D) ce) (compPost (model X.prog X.w) X.A X.xe none (EP X pp σ Q) (.ref D) s3.heap.objs.size) s4 := by
    refine compLoop_any (fun n s' => ∃ i H', Inv (X.blk s3 H3 scope ce fp) [] (wipe σ (own.map (·.2))) H' s' ∧ tn i s'.heap ∧ (∀ b ∈ fp, H' b = none) ∧ Z i n H') ?_ m0 ⟨0, H3, I4, stand4, none3, z0⟩
    rintro n s5 ⟨i, H5, I5, stand5, none5, z5⟩
    rcases step i n H5 z5 with ⟨stop, fin⟩ | ⟨go, Nx, less, turn⟩
    · refine thnF (tr.done (X.blk s3 H3 scope ce fp) rfl rfl rfl hcalm i [] s5 _ H5 (fun _ _ => False) I5 (fpoB I5 none5) stand5 stop) fun _ s6 ⟨er, I6⟩ => ?_
      subst er
      have I7 : Inv X pp σ H5 s6 := back _ _ _ _ I6
      have nC : H5 s3.heap.objs.size = none := eL ▸ (show H5 ce.locals = none from I6.free)
      obtain ⟨mm, hns, _⟩ := I6.loc
      have hns : s6.heap.Ns s3.heap.objs.size mm := eL ▸ (show s6.heap.Ns ce.locals mm from hns)
      obtain ⟨g0, g1, g2, g3, g4, g5⟩ := I3.fpOk (Nat.le_refl _) nC
      exact ⟨mm, hns, fun h'' sb => ⟨.ref D, H5, I7.turned (t' := s6.toks) (fun b o hb e => (sb.2 b hb).trans e) g0 g1 g3 g4 g5, rfl, fin⟩⟩
    · refine thnF (tr.item (X.blk s3 H3 scope ce fp) rfl rfl rfl hcalm i [] s5 _ H5 (fun _ _ => False) I5 (fpoB I5 none5) stand5 go) fun _ s6 ⟨u, er, k6⟩ => ?_
      subst er
      refine thnF k6 fun _ s7 ⟨x, H7, I7, r7, y7, stand7, none7⟩ => ?_
      have I7p := I7.pinned (fpoB I7 none7) (tr.obj _ _ stand7)
      refine thnF (tgS.run _ s7 _ H7 x u _ I7p r7 (turn x H7 y7)) fun _ s8 ⟨σ8, H8, I8, hw8, q8⟩ => ?_
      refine thnF ((ttS back).run _ s8 σ8 H8 _ I8 q8) fun b s9 ⟨H9, I9, hb9, nx9⟩ => ?_
      subst hb9
      simp only [Bool.false_eq_true, if_false]
      obtain ⟨m', hlt, z9⟩ := less H9 nx9
      have pin9 : ∀ b ∈ fp, ∀ o, s7.heap.get? b = some o → s9.heap.get? b = some o ∧ H9 b = none := fun b hb o e =>
        have z := I9.pin (b, o) (List.mem_append_right _ (List.mem_append_right _ (mem_pinsAt hb e)))
        ⟨z.1, z.2.1⟩
      refine ⟨m', hlt, i + 1, H9, (I9.unpinned (pins := [])).weak (by rw [wipe_length, ← wipe_length σ8 (own.map (·.2)), hw8, wipe_length]) (fun j v e => ?_), tr.keep _ _ _ stand7 fun b hb o e => (pin9 b hb o e).1, fun b hb => ?_, z9⟩
      · rw [← hw8] at e
        exact (wipe_some e).1
      · obtain ⟨o, e, _⟩ := tr.obj _ _ stand7 b hb
        exact (pin9 b hb o e).2
  exact codeAny_compStart_list loop (tr.self X.A 0 _ _ _ stand4 loop)
end
end RS
set_option Elab.async false
set_option linter.all false
set_option maxRecDepth 100000
set_option maxHeartbeats 1000000
set_option autoImplicit false
/-! RS.C38: a list of lambdas. -/
namespace RS
open PySem PySem.Spec PyProof.Rows L2 LamX

theorem among_more {pos : Pos} {cv : Value} (l m : List Value) (h : TriplesOk l) (hc : codeAmong pos l = some cv) : codeAmong pos (l ++ m) = some cv := by
  fun_induction TriplesOk l with
  | case1 => simp [codeAmong] at hc
  | case2 a t b u x rest ih =>
    simp only [List.cons_append, codeAmong] at hc ⊢
    split at hc
    · rename_i q
      rw [if_pos q]; exact hc
    · rename_i q
      rw [if_neg q]; exact ih h hc
  | case3 l h1 h2 => exact h.elim
theorem among_end {pos : Pos} {cv : Value} (l : List Value) (h : TriplesOk l) (hc : codeAmong pos l = none) : codeAmong pos (l ++ [rawInt pos.line, rawInt pos.col, cv]) = some cv := by
  fun_induction TriplesOk l with
  | case1 =>
    simp only [List.nil_append, rawInt, codeAmong]
    rw [if_pos (by simp)]
  | case2 a t b u x rest ih =>
    simp only [List.cons_append, codeAmong] at hc ⊢
    split at hc
    · cases hc
    · rename_i q
      rw [if_neg q]; exact ih h hc
  | case3 l h1 h2 => exact h.elim

/-- a written lambda and its plain reading -/
structure LamI where
  params : Arguments
  body : Expr
  scope : Scope
  pos : Pos
  mb : E
abbrev LamI.ex (l : LamI) : Expr := .Lambda l.params l.body l.scope l.pos
structure LamG (T : List NdefX.NTab) (X : Cx) (c P : Addr) (nm : Nat → Nat → Str) (k : Nat) (l : LamI) : Prop where
  ok : LmOk T X l.scope l.params c P nm l.pos
  bind : ∀ (q : Str) (cl : List (Str × Addr)) (pm cv ctv : Value), bindArgs (PySem.W.kla_fn "<lambda>" q l.params l.body l.scope cl pm cv ctv) ⟨[], []⟩ = pure []
  body : ∀ (A : Around) (outer : List PySem.Env) (s : Shared) (H : Hp) (E : XK) (f c' : Addr), Room k (A.deeper (lamEnv X l.scope s.heap.objs.size f c')) → RE T (lamCx X A outer s H E l.scope f c') l.body l.mb
/-- the lambda's object -/
def LamO (X : Cx) (l : LamI) (f c' : Addr) : HO := .ext fun h => ∃ pm ctv : Value, h.get? f = some (PySem.W.kla_obj "<lambda>" (X.env.qual ++ "<lambda>") l.params l.body l.scope (cloFrom X.env.cells l.scope.names []) pm c' ctv)
theorem lamO_nt {X : Cx} {l : LamI} {f c' : Addr} (ps : Array Value) : LamO X l f c' ≠ .tbl ps := fun z => by
  unfold LamO at z
  cases z
/-- it stands there, no plain object, its code told by the table -/
def LamAt (X : Cx) (P : Addr) (r : Rm) (n : Nat) (H : Hp) (l : LamI) (f : Addr) : Prop :=
  ∃ c', H f = some (LamO X l f c') ∧ Off r n f ∧ ∃ ps, H P = some (.tbl ps) ∧ codeAmong l.pos ps.toList = some (.ref c')
section
variable {T : List NdefX.NTab} {K : PySem.W.Frag} {mg : Str → Option Value} {r r' : Rm} {S S' : RS.S} {H H' : Hp} {X : Cx} {P : Addr} {nm : Nat → Nat → Str}
theorem LamAt.step {l : LamI} {f : Addr} (h : LamAt X P r S.nx H l f) (x : Stp T K mg r S H r' S' H') (tb : NdefX.TabN H P nm) : LamAt X P r' S'.nx H' l f := by
  obtain ⟨c', h1, h2, ps, h3, h4⟩ := h
  obtain ⟨z1, z2⟩ := x.off h1 h2 lamO_nt
  obtain ⟨more, e⟩ := x.tbl P ps h3
  obtain ⟨ps', e1, e2, _⟩ := tb
  rw [h3] at e1
  cases e1
  exact ⟨c', z2, z1, _, e, by rw [Array.toList_append]; exact among_more _ _ e2 h4⟩
theorem lamAts_step {L : List LamI} {fs : List Addr} (h : Paired (LamAt X P r S.nx H) L fs) (x : Stp T K mg r S H r' S' H') (tb : NdefX.TabN H P nm) : Paired (LamAt X P r' S'.nx H') L fs := Paired.mapP h fun _ _ z => z.step x tb
end
section
variable {T : List NdefX.NTab} {X : Cx} {P : Addr}
theorem lam_newO {pins : List (Addr × Obj)} {σ : L2.St} {H : Hp} {s : Shared} {r : Rm} {S : RS.S} {c : Addr} {nm : Nat → Nat → Str} {l : LamI} {E : Value → Shared → Prop} {Q : Value → Shared → Prop} (lo : LmOk T X l.scope l.params c P nm l.pos) (I : Inv X pins σ H s) (m : Mt T X.K X.mg r S H)
    (h : ∀ (f : Addr) (H1 : Hp) (s' : Shared), Inv X pins σ H1 s' → Stp T X.K X.mg r S H r S H1 → LamAt X P r S.nx H1 l f → Q (.ref f) s') :
    wpAny (model X.prog X.w) X.A (eval l.ex X.env) Q E s := by
  obtain ⟨ps, hP, ht, ha⟩ := (show NdefX.TabN H P nm from m.tab _ lo.hT)
  refine PySem.W.kla_eval lo.hdef ?_
  have bP : s.heap.BuiltinsAt X.mg P := lo.TB.bm.keeps I.bk
  have gP : s.heap.get? P = some { cls := .none, data := .fields ps } := I.hok P _ hP
  cases hc : codeAmong l.pos ps.toList with
  | none =>
    refine PySem.W.kla_makeFunction (mg := X.mg) (c := c) (P := P) (ps := ps) (closure_ok (lo.sc.has I.ok)) I.ok.glob (I.mod.glob.keeps I.bk) lo.code (lo.TB.code.keeps I.bk) gP ht hc lo.TB.gP bP fun c' ctv h' tk hx hge hlt hrec htb => ?_
    obtain ⟨c2, oc, vs, t, e2, hoc, hd, hv⟩ := hrec
    cases e2
    have nC : H c' = none := I.hok.fresh hge
    have I1 := inv_table (t' := tk) (more := #[rawInt l.pos.line, rawInt l.pos.col, .ref c']) (q := nm l.pos.line l.pos.col) (h' := h') I hP (fun b o hb e => hx b o hb e) htb hge ⟨oc, vs, t, hoc, hd, by rw [lo.hn]; exact hv⟩
    have st := m.table (pos := l.pos) hP ht ha lo.hu nC
    have nF := I1.hok.fresh (Nat.le_refl _)
    have I2 := I1.laid (o := LamO X l h'.objs.size c') (a := h'.objs.size) (t' := tk) (h' := h'.push (PySem.W.kla_obj "<lambda>" (X.env.qual ++ "<lambda>") l.params l.body l.scope (cloFrom X.env.cells l.scope.names []) ((X.mg "__name__").getD .none) c' ctv))
      (fun b o e => Heap.get?_push_of_some _ e) (Nat.le_refl _) (by
        have e : (h'.push (PySem.W.kla_obj "<lambda>" (X.env.qual ++ "<lambda>") l.params l.body l.scope (cloFrom X.env.cells l.scope.names []) ((X.mg "__name__").getD .none) c' ctv)).get? h'.objs.size = some (PySem.W.kla_obj "<lambda>" (X.env.qual ++ "<lambda>") l.params l.body l.scope (cloFrom X.env.cells l.scope.names []) ((X.mg "__name__").getD .none) c' ctv) := Heap.get?_push_size _ rfl
        exact ⟨⟨_, _, e⟩, ⟨_, e⟩, fun h1 h2 ⟨pm, ct, z⟩ keep => ⟨pm, ct, keep _ z⟩⟩)
    have st2 := st.trans (st.mt.junk (ho := LamO X l h'.objs.size c') nF)
    refine h h'.objs.size _ _ I2 st2 ⟨c', upd_same, off_new st.mt nF, ps ++ #[rawInt l.pos.line, rawInt l.pos.col, .ref c'], ?_, ?_⟩
    · have e1 : upd (upd H P (.tbl (ps ++ #[rawInt l.pos.line, rawInt l.pos.col, .ref c']))) c' (CodeO c' (nm l.pos.line l.pos.col)) P = some (.tbl (ps ++ #[rawInt l.pos.line, rawInt l.pos.col, .ref c'])) := by
        rw [upd_ne (ne_of_none hP nC), upd_same]
      rw [upd_ne (ne_of_none e1 nF)]
      exact e1
    · have e1 : (ps ++ #[rawInt l.pos.line, rawInt l.pos.col, Value.ref c']).toList = ps.toList ++ [rawInt l.pos.line, rawInt l.pos.col, .ref c'] := by simp
      rw [e1]
      exact among_end _ ht hc
  | some cv =>
    obtain ⟨c', e, hco⟩ := ha l.pos cv hc
    subst e
    refine PySem.W.kla_makeFunctionHit (mg := X.mg) (c := c) (P := P) (ps := ps) (closure_ok (lo.sc.has I.ok)) I.ok.glob (I.mod.glob.keeps I.bk) lo.code (lo.TB.code.keeps I.bk) gP ht hc bP fun ctv h' tk hx hsz => ?_
    have I1 : Inv X pins σ H { s with heap := h', toks := tk } := I.kept hx
    have nF : H h'.objs.size = none := I1.hok.fresh (Nat.le_refl _)
    have I2 := I1.laid (o := LamO X l h'.objs.size c') (a := h'.objs.size) (t' := tk) (h' := h'.push (PySem.W.kla_obj "<lambda>" (X.env.qual ++ "<lambda>") l.params l.body l.scope (cloFrom X.env.cells l.scope.names []) ((X.mg "__name__").getD .none) c' ctv))
      (fun b o e => Heap.get?_push_of_some _ e) (Nat.le_refl _) (by
        have e : (h'.push (PySem.W.kla_obj "<lambda>" (X.env.qual ++ "<lambda>") l.params l.body l.scope (cloFrom X.env.cells l.scope.names []) ((X.mg "__name__").getD .none) c' ctv)).get? h'.objs.size = some (PySem.W.kla_obj "<lambda>" (X.env.qual ++ "<lambda>") l.params l.body l.scope (cloFrom X.env.cells l.scope.names []) ((X.mg "__name__").getD .none) c' ctv) := Heap.get?_push_size _ rfl
        exact ⟨⟨_, _, e⟩, ⟨_, e⟩, fun h1 h2 ⟨pm, ct, z⟩ keep => ⟨pm, ct, keep _ z⟩⟩)
    exact h h'.objs.size _ _ I2 (m.junk nF) ⟨c', upd_same, off_new m nF, ps, by rw [upd_ne (ne_of_none hP nF)]; exact hP, hc⟩
theorem pe_lamO {c : Addr} {nm : Nat → Nat → Str} {l : LamI} (lo : LmOk T X l.scope l.params c P nm l.pos) :
    PE X l.ex fun σ H Q => ∃ r S, Mt T X.K X.mg r S H ∧ ∀ f H1, Stp T X.K X.mg r S H r S H1 → LamAt X P r S.nx H1 l f → Q (.ref f) H1 :=
  ⟨fun pins s σ H Q I ⟨r, S, m, q⟩ => lam_newO lo I m fun f H1 s' I1 st la => ⟨.ref f, H1, I1, rfl, q f H1 st la⟩⟩
theorem pa_lams {c : Addr} {nm : Nat → Nat → Str} {k : Nat} : ∀ (L : List LamI), (∀ l ∈ L, LamG T X c P nm k l) →
    PA X (L.map LamI.ex) fun σ H Q => ∃ r S, Mt T X.K X.mg r S H ∧ ∀ fs H1, Stp T X.K X.mg r S H r S H1 → Paired (LamAt X P r S.nx H1) L fs → Q (fs.map V.ref) H1
  | [], _ => pa_nil.imp fun σ H Q ⟨r, S, m, q⟩ => q [] H (.refl m) .nil
  | l :: L, g => by
    refine (pa_cons (pe_lamO (g l List.mem_cons_self).ok) (pa_lams L fun l' h => g l' (List.mem_cons_of_mem _ h)) (by rfl)).imp fun σ H Q h => ?_
    obtain ⟨r, S, m, q⟩ := h
    refine ⟨r, S, m, fun f H1 st la => ⟨r, S, st.mt, fun fs H2 st2 las => ?_⟩⟩
    exact q (f :: fs) H2 (st.trans st2) (.cons (la.step st2 (st.mt.tab _ (g l List.mem_cons_self).ok.hT)) las)
end
end RS
set_option Elab.async false
set_option linter.all false
set_option maxRecDepth 100000
set_option maxHeartbeats 1000000
set_option autoImplicit false
/-! RS.C39: told(f) in the comprehension's test. -/
namespace RS
open PySem PySem.Spec PyProof.Rows L2 LamX

section
variable {X : Cx} {pins : List (Addr × Obj)} {σ : L2.St} {H : Hp} {s : Shared}
/-- what() in the def that got the lambda, the lambda's object being a tracked one -/
theorem pe_actO {CXg : CXT} {Eg : XK} {Ng : List Str} {qg : Str} {sg : Scope} {g f c' : Addr} {cdg : Value} {l : LamI} {k i : Nat} {a : Str} {pn : List (Addr × Obj)} {xe : Value → Shared → Prop} {Wc : WX} {E : XK} {tb : TE} {p1 p2 : Pos}
    (I : Inv X pins σ H s) (L : LamS X.env.scope l.scope) (bind : ∀ (q : Str) (cl : List (Str × Addr)) (pm cv ctv : Value), bindArgs (PySem.W.kla_fn "<lambda>" q l.params l.body l.scope cl pm cv ctv) ⟨[], []⟩ = pure [])
    (tk : Takes ((cxOf CXg X.prog X.w X.K X.mg X.base Ng qg sg g cdg X.A X.stack s H Eg).tr pn xe) Wc) (hW : ∀ cls d σ' H', E cls d H' → Wc cls d σ' H') (hr : Room (k + 1) (X.A.deeper (envOfC qg sg s.heap.objs.size g cdg)))
    (body : ∀ (A : Around) (outer : List PySem.Env) (s : Shared) (H : Hp), Room k (A.deeper (lamEnv X l.scope s.heap.objs.size f c')) → PE (lamCx X A outer s H E l.scope f c') l.body tb)
    (hN : Ng[i]? = some a) (hv : Vis sg a) (hd : (a == ("__debug__" : Str)) = false := by decide) (hcd : (a == ("__classdict__" : Str)) = false := by decide) :
    PE ((cxOf CXg X.prog X.w X.K X.mg X.base Ng qg sg g cdg X.A X.stack s H Eg).tr pn xe) (.Call (.Name a p1) [] [] p2)
      fun σz Hz Q => σz[i]? = some (some (.ref f)) ∧ Hz c' = some (CodeO c' (X.env.qual ++ "<lambda>")) ∧ Hz f = some (LamO X l f c') ∧ tb σ Hz Q := by
  refine ⟨fun pz sz σz Hz Q Iz ⟨slot, cod, obj, rd⟩ => ?_⟩
  refine wpAny_Call_Name_kw (thn ((pe_var (pos := p1) (i := i) hN hv hd hcd).run pz sz σz Hz (fun v H1 => v = .ref f ∧ H1 = Hz) Iz ⟨.ref f, slot, rfl, rfl⟩) fun u s1 ⟨v, H1, I1, r1, ev, eH⟩ => ?_)
  subst ev eH
  obtain rfl : u = Value.ref f := r1
  obtain ⟨⟨pm, ctv, at1⟩, _, _⟩ := I1.hok f _ obj
  obtain ⟨⟨oc, vs, t, hoc, hdc, hvc⟩, _, _⟩ := I1.hok c' _ cod
  refine PySem.W.callWith_F0 ⟨_, _, _, _, at1⟩ ?_
  have since : Un (frs X.stack) [] H H1 s.heap s1.heap := I1.base
  have run : codeAny (model X.prog X.w) (X.A.deeper (envOfC qg sg s.heap.objs.size g cdg)) (.call (.ref f) ⟨[], []⟩) (CR (L2.CX X.prog X.w) (envOfC qg sg s.heap.objs.size g cdg :: X.stack) X.prog X.w H1 s1 Q E) s1 := by
    refine PySem.W.kla_callFunE hr.depth at1 rfl L.co L.gen rfl ⟨c', oc, vs, t, rfl, hoc, hdc, hvc⟩ ?_
    rw [bind]
    refine wpAny_pure (wpAny_newFunctionEnv (fun y hy => (L.own y hy).2) (fun y hy => absurd hy (by simp)) (fun h₁ hns hsb => ⟨I1.nolimit.fresh _ hsb, ?_⟩) L.kind)
    have J : Inv (lamCx X (X.A.deeper (envOfC qg sg s.heap.objs.size g cdg)) (envOfC qg sg s.heap.objs.size g cdg :: X.stack) s1 H1 E l.scope f c') [] σ H1 { s1 with heap := h₁, toks := s1.toks + ([] : List (Str × Value)).length } :=
      lam_start2 I L I1.env0 hr.hd since hns fun b o e => hsb.extBut b o (Nat.ne_of_lt (Heap.lt_size e)) (Heap.get?_push_of_some _ e)
    exact PySem.W.kla_codeExpr (wpAny_mono ((body _ _ s1 H1 (hr.deeper _)).run [] _ _ H1 Q J rd) (fun v s' ⟨w', H', J', rv, q⟩ => ⟨w', H', J'.os, J'.bare, J'.base, J'.hok, rv, q⟩) fun e s' hq => hq)
  have pass : Passes (L2.CX X.prog X.w) ((cxOf CXg X.prog X.w X.K X.mg X.base Ng qg sg g cdg X.A X.stack s H Eg).tr pn xe) E := passes_call tk hW
  refine wpAny_call (codeAny_mono run fun res s' hq => ?_)
  match res, hq with
  | .error e, hq => exact pass pz σz H1 s1 e s' I1 hq
  | .ok (.ret u), hq => exact I1.after hq
  | .ok .next, hq => exact hq.elim
  | .ok .brk, hq => exact hq.elim
  | .ok .cont, hq => exact hq.elim
end
section
variable {T : List NdefX.NTab} {X Y : Cx} {pp : List (Addr × Obj)} {σ : L2.St}
/-- told(f), f a slot of the block Y -/
theorem pe_toldO {x a e ret fv : Str} {g c P CS : Addr} {k j jf : Nat} {pg : Arguments} {sg : Scope} {dV kV doc pm cdv ct oc : Value} {an od : Option Addr} {osl : Array (Option Value)} {Ng : List Str} {p1 p2 p3 p4 p5 p6 p7 p8 : Pos} {nm : Nat → Nat → Str} {p pf pos : Pos} {s0 : Shared} {H0 : Hp} {scope : Scope} {ce : PySem.Env} {fp : List Addr}
    (back : BackTo X pp σ (X.blk s0 H0 scope ce fp)) (hg : Gl (X.blk s0 H0 scope ce fp) x) (hm : X.mg x = some (.ref g)) (hk : PySem.W.keepIn X.K (.ref g) = true)
    (lk : X.K.lookup g = some ⟨oc, od, .func (PySem.W.fnOf x x pg [.Try [.Return (some (.Call (.Name a p1) [] [] p2)) p3] [.ExceptHandler (some (.Name e p4)) none [.Return (some (.Constant (.str ret) j p5)) p6] p7] [] [] p8] sg dV kV doc pm an cdv ct), osl⟩)
    (hcg : PySem.W.codeIn X.K cdv x = true) (hb : L2.Binds X.K (PySem.W.fnOf x x pg [.Try [.Return (some (.Call (.Name a p1) [] [] p2)) p3] [.ExceptHandler (some (.Name e p4)) none [.Return (some (.Constant (.str ret) j p5)) p6] p7] [] [] p8] sg dV kV doc pm an cdv ct) [a] []) (Sg : FnScope Ng [a] sg) (hNg : Ng[0]? = some a) (hva : Vis sg a)
    (hge : sg.names.lookup e = some .globalImplicit) (hme : X.mg e = some (.ref CS)) (hde : (e == ("__debug__" : Str)) = false) (h0 : ∀ f : Addr, (L2.start Ng [V.ref f])[0]? = some (some (V.ref f))) (hex : PySem.W.exmOne X.K (.ref CS) (.ref CS) = some true)
    (hr : Room (k + 2) X.A) (hfN : X.N[jf]? = some fv) (hfv : Vis ce.scope fv)
    (hdb : (x == ("__debug__" : Str)) = false := by decide) (hd : (a == ("__debug__" : Str)) = false := by decide) (hcd : (a == ("__classdict__" : Str)) = false := by decide) (hfd : (fv == ("__debug__" : Str)) = false := by decide) (hfc : (fv == ("__classdict__" : Str)) = false := by decide) :
    PE (X.blk s0 H0 scope ce fp) (.Call (.Name x p) [.Name fv pf] [] pos) fun σ2 Hc Q => ∃ f l r ρ S, σ2[jf]? = some (some (.ref f)) ∧ MtE T X r ρ S σ Hc ∧ LamAt X P r S.nx Hc l f ∧ LamG T X c P nm k l ∧ PostE T X.K X.mg r S Hc (eTold e ret l.mb ρ S) Q fun _ _ => False := by
  refine ⟨fun pins s σ2 Hc Q J hh => ?_⟩
  obtain ⟨f, l, r, ρ, S, hs, mm, la, lg, q⟩ := hh
  refine wpAny_Call_Name_kw (ld_glob J hg hm ?_ hdb)
  refine PySem.W.callWith_K (h₀ := X.base) J.ok.mod.kin hk ?_ (by rfl) (by rfl)
  show wpAny _ _ (spliced ((false, eval (.Name fv pf) (X.blk s0 H0 scope ce fp).env) :: backTo pos (starEach [] (X.blk s0 H0 scope ce fp).env))) _ _ s
  refine Calls.spliced_cons (thn ((pe_var (X := X.blk s0 H0 scope ce fp) (pos := pf) (i := jf) hfN hfv hfd hfc).run pins s σ2 Hc (fun v H1 => v = .ref f ∧ H1 = Hc) J ⟨.ref f, hs, rfl, rfl⟩) fun u s1 ⟨v, H1, J1, r1, ev, eH⟩ => ?_)
  subst ev eH
  obtain rfl : u = Value.ref f := r1
  refine Calls.spliced_nil ⟨J1.kIn, ?_⟩
  have I1 : Inv X pp σ H1 s1 := back _ _ _ _ J1
  obtain ⟨c', ho, _, ps, hP, hcode⟩ := la
  obtain ⟨ps', hP', _, hall⟩ := mm.mt.tab _ lg.ok.hT
  rw [hP] at hP'
  cases hP'
  obtain ⟨c2, e2, hco⟩ := hall _ _ hcode
  cases e2
  replace hco : H1 c' = some (CodeO c' (nm l.pos.line l.pos.col)) := hco
  rw [lg.ok.hn] at hco
  have hG := told_gives (X := X) (x := x) (a := a) (e := e) (q := X.env.qual ++ "<lambda>") (ret := ret) (sg := sg) (g := g) (CS := CS) (cdg := cdv) (j := j) (p1 := p1) (p2 := p2) (p3 := p3) (p4 := p4) (p5 := p5) (p6 := p6) (p7 := p7) (p8 := p8) hge hme hde h0
  have run : codeAny (model X.prog X.w) X.A (.call (.ref g) ⟨[.ref f], []⟩) (CR C8.CX0 X.stack X.prog X.w H1 s1 Q C8.E0) s1 := by
    refine run_ofS (N := Ng) (ps := [a]) (us := [.ref f]) (vs := [.ref f]) lk hcg Sg hr I1.env0 (hb s1 [.ref f] I1.kIn rfl) (.cons rfl .nil) rfl fun hr' => ?_
    obtain ⟨t', ht', hq'⟩ := hG f c' s1 H1 Q (fun E Hz Q' => Hz f = some (LamO X l f c') ∧ rdE T X l.mb (EW X.mg E) σ Hz Q') (fun Wc pn xe E p1 p2 tk hW => (pe_actO (i := 0) (tb := rdE T X l.mb (EW X.mg E)) I1 lg.ok.sc lg.bind tk hW hr' (fun A outer s H hr2 => by
      have tk2 : Tk (lamCx X A outer s H E l.scope f c') (EW X.mg E) := tk_body (X := lamCx X A outer s H E l.scope f c') rfl rfl rfl rfl
      exact (lg.body A outer s H E f c' hr2 _ tk2).imp fun σ' H' Q' ⟨r', ρ', S', m', q'⟩ => ⟨r', ρ', S', m'.blk rfl rfl, q'⟩) hNg hva hd hcd)) hco (by
        refine ⟨ho, ?_⟩
        show rdE T X l.mb (EW X.mg _) σ H1 Q
        unfold eTold at q
        refine ⟨r, ρ, S, mm, ?_⟩
        cases em : l.mb ρ S with
        | ok w s2 => rw [em] at q; exact q
        | bad => rw [em] at q; exact q
        | ex cl s2 =>
          rw [em] at q
          simp only at q
          intro r' H' y C hC
          split at q
          · rename_i hcl
            subst hcl
            rw [hme] at hC
            cases hC
            exact ⟨true, hex, fun _ => q r' H' _ y mStr, fun z => by cases z⟩
          · exact False.elim q)
    exact ⟨t', ht'.nox, hq'⟩
  refine wpAny_call (codeAny_mono run fun res s2 hq => ?_)
  match res, hq with
  | .error e, hq => exact (show False from hq).elim
  | .ok (.ret u), hq => exact J1.after hq
  | .ok .next, hq => exact hq.elim
  | .ok .brk, hq => exact hq.elim
  | .ok .cont, hq => exact hq.elim
end
end RS
set_option Elab.async false
set_option linter.all false
set_option maxRecDepth 100000
set_option maxHeartbeats 1000000
set_option autoImplicit false
/-! RS.C40: [.. for f in bad if told(f) != "E"]. -/
namespace RS
open PySem PySem.Spec PyProof.Rows L2 LamX

theorem paired_at {α β : Type} {F : α → β → Prop} : ∀ {l : List α} {m : List β} {i : Nat} {a : α} {b : β}, Paired F l m → l[i]? = some a → m[i]? = some b → F a b
  | _, _, i, _, _, .nil, h, _ => by cases i <;> cases h
  | _, _, 0, _, _, .cons h _, e1, e2 => by cases e1; cases e2; exact h
  | _, _, i + 1, _, _, .cons _ t, e1, e2 => paired_at t (i := i) (by simpa using e1) (by simpa using e2)
theorem paired_len {α β : Type} {F : α → β → Prop} : ∀ {l : List α} {m : List β}, Paired F l m → l.length = m.length
  | _, _, .nil => rfl
  | _, _, .cons _ t => congrArg Nat.succ (paired_len t)
/-- each is told, each answers the class' text: nothing is left -/
def eAllBad (e ret : Str) : List E → E
  | [] => fun _ S => .ok (.lst []) S
  | m :: ms => fun ρ S => match eTold e ret m ρ S with
    | .ok (.str t) S' => if t = ret then eAllBad e ret ms ρ S' else .bad
    | _ => .bad
section
variable (T : List NdefX.NTab) (X : Cx) (c P : Addr) (nm : Nat → Nat → Str) (k : Nat)
def rdTold (e ret : Str) (jf : Nat) (σ : L2.St) : TE := fun σ2 Hc Q => ∃ f l r ρ S, σ2[jf]? = some (some (.ref f)) ∧ MtE T X r ρ S σ Hc ∧ LamAt X P r S.nx Hc l f ∧ LamG T X c P nm k l ∧ PostE T X.K X.mg r S Hc (eTold e ret l.mb ρ S) Q fun _ _ => False
def LB (i : Nat) (L : List LamI) (r : Rm) (n : Nat) (σ : L2.St) (H : Hp) : Prop := ∃ p fs, σ[i]? = some (some (.ref p)) ∧ H p = some (.lst (fs.map V.ref)) ∧ Off r n p ∧ Paired (LamAt X P r n H) L fs
end
section
variable {T : List NdefX.NTab} {X : Cx} {c P : Addr} {nm : Nat → Nat → Str} {k : Nat}
theorem LB.step {i : Nat} {L : List LamI} {r r' : Rm} {S S' : RS.S} {σ : L2.St} {H H' : Hp} (h : LB X P i L r S.nx σ H) (x : Stp T X.K X.mg r S H r' S' H') (tb : NdefX.TabN H P nm) : LB X P i L r' S'.nx σ H' := by
  obtain ⟨p, fs, h1, h2, h3, h4⟩ := h
  obtain ⟨z1, z2⟩ := x.off h2 h3 fun ps z => by cases z
  exact ⟨p, fs, h1, z2, z1, lamAts_step h4 x tb⟩
/-- what is known ahead of a turn -/
def BadSt (T : List NdefX.NTab) (X : Cx) (L : List LamI) (e ret : Str) (ρ : Env) (D : Addr) (r1 : Rm) (S1 : S) (H1 : Hp) (Q : VK) (Wx : Wish) (i : Nat) (H : Hp) : Prop :=
  ∃ r S, Stp T X.K X.mg r1 S1 H1 r S H ∧ Off r S.nx D ∧ H D = some (.lst []) ∧ PostE T X.K X.mg r1 S1 H1 (eAllBad e ret ((L.drop i).map LamI.mb) ρ S) Q Wx
variable {L : List LamI} {e ret : Str} {ρ : Env} {σ : L2.St} {D p : Addr} {fs : List Addr} {r1 : Rm} {S1 : RS.S} {H1 : Hp} {Q : VK} {Wx : Wish}
theorem bad_end {i : Nat} {H : Hp} (hi : L.length ≤ i) (h0 : H1 D = none) (h : BadSt T X L e ret ρ D r1 S1 H1 Q Wx i H) : Q (.ref D) H := by
  obtain ⟨r, S, x, off, hD, q⟩ := h
  rw [List.drop_eq_nil_of_le hi] at q
  exact PostE.adopt (v := true) (l := []) q x h0 off hD RelWs.nil
theorem bad_turn {i jf : Nat} {H H' : Hp} {σ2 : L2.St} {l : LamI} {f : Addr} (mm : MtE T X r1 ρ S1 σ H1) (las : Paired (LamAt X P r1 S1.nx H1) L fs) (lg : ∀ l ∈ L, LamG T X c P nm k l) (h : BadSt T X L e ret ρ D r1 S1 H1 Q Wx i H)
    (hl : L[i]? = some l) (hf : fs[i]? = some f) (hs : σ2[jf]? = some (some (.ref f))) (hx : ∀ {r S}, Mt T X.K X.mg r S H → Stp T X.K X.mg r S H r S H') :
    tTest (tOp rNe (rdTold T X c P nm k e ret jf σ) (tC (.str ret))) σ2 H' fun b Hd => b = false ∧ BadSt T X L e ret ρ D r1 S1 H1 Q Wx (i + 1) Hd := by
  obtain ⟨r, S, x, off, hD, q⟩ := h
  have y := hx x.mt
  obtain ⟨off', hD'⟩ := y.off hD off fun ps z => by cases z
  have hm : l ∈ L := List.mem_of_getElem? hl
  have lgl := lg l hm
  have tb := mm.mt.tab _ lgl.ok.hT
  have la : LamAt X P r S.nx H' l f := by
    have z := lamAts_step las (x.trans y) tb
    exact paired_at z hl hf
  have ed : L.drop i = l :: L.drop (i + 1) := by
    obtain ⟨hlt, e1⟩ := List.getElem?_eq_some_iff.mp hl
    rw [List.drop_eq_getElem_cons hlt, e1]
  rw [ed, List.map_cons] at q
  unfold eAllBad at q
  refine ⟨f, l, r, ρ, S, hs, (mm.step x).step y, la, lgl, ?_⟩
  cases em : eTold e ret l.mb ρ S with
  | ex cl s2 => rw [em] at q; exact False.elim q
  | bad => rw [em] at q; exact False.elim q
  | ok w s2 =>
    rw [em] at q
    cases w <;> first | exact False.elim q | skip
    rename_i t
    simp only at q
    split at q
    · rename_i et
      subst et
      intro r' H2 v st rl
      obtain rfl := rStr rl
      refine ⟨rfl, _, rfl, by simp, ?_⟩
      obtain ⟨off2, hD2⟩ := st.off hD' off' fun ps z => by cases z
      exact ⟨r', s2, x.trans (y.trans st), off2, hD2, q⟩
    · exact False.elim q
end
end RS
set_option Elab.async false
set_option linter.all false
set_option maxRecDepth 100000
set_option maxHeartbeats 1000000
set_option autoImplicit false
/-! RS.C41: bad = [..]; bad = bad + [..]; if [.. for f in bad if told(f) != "E"] != []: .. -/
namespace RS
open PySem PySem.Spec PyProof.Rows L2 LamX

theorem eAllBad_cases {e ret : Str} : ∀ {ms : List E} {ρ : Env} {S : S}, eAllBad e ret ms ρ S = .bad ∨ ∃ S', eAllBad e ret ms ρ S = .ok (.lst []) S'
  | [], ρ, S => .inr ⟨S, rfl⟩
  | m :: ms, ρ, S => by
    unfold eAllBad
    split
    · split
      · exact eAllBad_cases
      · exact .inl rfl
    · exact .inl rfl
section
variable {T : List NdefX.NTab} {X : Cx} {c P : Addr} {nm : Nat → Nat → Str} {k : Nat}
theorem refs_get {fs : List Addr} {i : Nat} {x : V} (h : (fs.map V.ref)[i]? = some x) : ∃ f, fs[i]? = some f ∧ x = .ref f := by
  rw [List.getElem?_map] at h
  cases e : fs[i]? with
  | none => rw [e] at h; cases h
  | some f => rw [e] at h; cases h; exact ⟨f, rfl, rfl⟩
/-- the walk of the list, its items told one by one -/
theorem bad_comp {e ret : Str} {i jf : Nat} {L : List LamI} {ρ : Env} {S1 : RS.S} {r1 : Rm} {σ : L2.St} {H1 : Hp} {Q : VK} {Wx : Wish} {vs : List Nat} (hjf : jf ∈ vs) (hjl : jf < ρ.length)
    (mm : MtE T X r1 ρ S1 σ H1) (lb : LB X P i L r1 S1.nx σ H1) (lg : ∀ l ∈ L, LamG T X c P nm k l) (q : PostE T X.K X.mg r1 S1 H1 (eAllBad e ret (L.map LamI.mb) ρ S1) Q Wx) :
    tLcB (iList X.K (tVar i)) (gName jf) (fun σ => tTest (tOp rNe (rdTold T X c P nm k e ret jf σ) (tC (.str ret)))) vs σ H1 Q := by
  obtain ⟨p, fs, h1, h2, h3, h4⟩ := lb
  refine ⟨.ref p, h1, p, rfl, ⟨_, .inl (.inl h2)⟩, fun D hD => ?_⟩
  have hlen := paired_len h4
  have offp : ∀ {r S H}, Stp T X.K X.mg r1 S1 H1 r S H → H p = some (.lst (fs.map V.ref)) := fun x => (x.off h2 h3 fun ps z => by cases z).2
  refine ⟨fun j m Ha => m = L.length + 1 - j ∧ j ≤ L.length ∧ BadSt T X L e ret ρ D r1 S1 H1 Q Wx j Ha, ⟨L.length + 1, rfl, Nat.zero_le _, r1, S1, mm.mt.junk hD, off_new mm.mt hD, upd_same, by rw [List.drop_zero]; exact q⟩, ?_⟩
  rintro j m Ha ⟨rfl, hj, bs⟩
  have hp : Ha p = some (.lst (fs.map V.ref)) := let ⟨_, _, x, _⟩ := bs; offp x
  by_cases hjl2 : j = L.length
  · refine .inl ⟨⟨_, .inl (.inl hp), by rw [List.length_map]; omega⟩, bad_end (Nat.le_of_eq hjl2.symm) hD bs⟩
  · have hlt : j < fs.length := by omega
    have hL : j < L.length := by omega
    refine .inr ⟨⟨_, _, .inl (.inl hp), by rw [List.getElem?_map, List.getElem?_eq_getElem hlt]; rfl⟩, fun Hb => BadSt T X L e ret ρ D r1 S1 H1 Q Wx (j + 1) Hb, fun Hb z => ⟨_, by omega, rfl, by omega, z⟩, fun x Hb y => ?_⟩
    obtain ⟨rfl, hy⟩ := y
    have hx := hy _ (.inl (.inl hp))
    obtain ⟨f, hf, rfl⟩ := refs_get hx
    have hw : wipe ((wipe σ vs).set jf (some (.ref f))) vs = wipe σ vs := (wipe_set hjf).trans (wipe_wipe σ vs)
    exact ⟨hw, bad_turn mm h4 lg bs (List.getElem?_eq_getElem hL) hf (List.getElem?_set_self (by rw [wipe_length, ← mm.len]; exact hjl)) fun m => .refl m⟩
end
/-! ### the statements -/
section
variable (T : List NdefX.NTab) (X : Cx) (c P : Addr) (nm : Nat → Nat → Str) (k : Nat)
/-- the list of lambdas stands in slot i -/
def rdB (i jf : Nat) (L : List LamI) (b : B) (Wx : Wish) : TS := fun D σ H => ∃ r ρ s, MtE T X r ρ s σ H ∧ (∀ l ∈ L, LamG T X c P nm k l) ∧ jf < ρ.length ∧ ρ[i]? = some none ∧ LB X P i L r s.nx σ H ∧ PostS T X r s H (b ρ s) D Wx
end
def bFree (i jf : Nat) (b : B) : B := fun ρ s => match ρ[i]? with
  | some none => if jf < ρ.length then b ρ s else .bad
  | _ => .bad
section
variable {T : List NdefX.NTab} {X : Cx} {c P : Addr} {nm : Nat → Nat → Str} {k : Nat}
theorem MtE.fre {r : Rm} {ρ : Env} {s : S} {σ : L2.St} {H : Hp} {i : Nat} {v : V} (m : MtE T X r ρ s σ H) (h : ρ[i]? = some none) : MtE T X r ρ s (σ.set i (some v)) H := by
  refine ⟨m.mt, by rw [List.length_set]; exact m.len, fun j w e => ?_⟩
  by_cases hj : i = j
  · subst hj; rw [h] at e; cases e
  · rw [List.getElem?_set_ne hj]; exact m.env j w e
theorem LB.at {i : Nat} {L : List LamI} {r : Rm} {n : Nat} {σ : L2.St} {H : Hp} {p : Addr} {fs : List Addr} (hl : i < σ.length) (h1 : H p = some (.lst (fs.map V.ref))) (h2 : Off r n p) (h3 : Paired (LamAt X P r n H) L fs) : LB X P i L r n (σ.set i (some (.ref p))) H :=
  ⟨p, fs, List.getElem?_set_self hl, h1, h2, h3⟩
/-- the list's object is laid -/
theorem lams_new {r : Rm} {S : RS.S} {H : Hp} {L : List LamI} {fs : List Addr} {p : Addr} (m : Mt T X.K X.mg r S H) (las : Paired (LamAt X P r S.nx H) L fs) (tb : NdefX.TabN H P nm) (hp : H p = none) :
    Stp T X.K X.mg r S H r S (upd H p (.lst (fs.map V.ref))) ∧ Off r S.nx p ∧ Paired (LamAt X P r S.nx (upd H p (.lst (fs.map V.ref)))) L fs :=
  ⟨m.junk hp, off_new m hp, lamAts_step las (m.junk hp) tb⟩
theorem allL_nil {A : Type} {p : A → Prop} : ∀ l ∈ ([] : List A), p l := fun _ h => nomatch h
theorem allL_cons {A : Type} {p : A → Prop} {a : A} {as : List A} (h : p a) (t : ∀ l ∈ as, p l) : ∀ l ∈ a :: as, p l := fun l hl => (List.mem_cons.mp hl).elim (fun e => by rw [e]; exact h) (t l)
theorem paired_app {α β : Type} {F : α → β → Prop} {l : List α} {m : List β} (h : Paired F l m) : ∀ {l' : List α} {m' : List β}, Paired F l' m' → Paired F (l ++ l') (m ++ m') := by
  induction h with
  | nil => exact fun h => h
  | cons a _ ih => exact fun h => .cons a (ih h)
variable {i jf : Nat} {bn : Str} {rest : List Stmt} {b : B} {L L2 : List LamI} {p1 p2 p3 p4 p5 : Pos}
theorem bad_first (hN : X.N.Nodup) (hi : X.N[i]? = some bn) (hx : Loc X.env.scope bn) (hf : X.fn bn = true ∨ X.env.scope.names.lookup bn = some .local) (hT : (P, nm) ∈ T) (hz : L.length ≤ sizeLine) (lg : ∀ l ∈ L, LamG T X c P nm k l)
    (hs : swapsWith (.List (L.map LamI.ex) p2) (some (.Name bn p1)) p3.line X.env = pure false) (h : ∀ Wx, Tk X Wx → PSs X rest (rdB T X c P nm k i jf L b Wx)) : RSs T X (.Assign [.Name bn p1] (.List (L.map LamI.ex) p2) p3 :: rest) (bFree i jf b) := fun Wx tk => by
  refine (pss_cons (ps_set hN hi hx (pe_lst (pa_lams L lg)) hs hf) (h Wx tk)).imp fun D σ H hh => ?_
  obtain ⟨r, ρ, s, m, q⟩ := hh
  unfold bFree at q
  split at q
  · rename_i e
    split at q
    · rename_i hjf
      refine ⟨r, s, m.mt, fun fs H1 st las => ⟨by rw [List.length_map, ← paired_len las]; exact hz, fun p hp => ?_⟩⟩
      obtain ⟨st2, off, las2⟩ := lams_new st.mt las (st.mt.tab _ hT) hp
      have hl : i < σ.length := by rw [← m.len]; exact (List.getElem?_eq_some_iff.mp e).1
      exact ⟨r, ρ, s, ((m.step st).step st2).fre e, lg, hjf, e, LB.at hl upd_same off las2, PostS.shift q (st.trans st2)⟩
    · exact False.elim q
  · exact False.elim q
theorem bad_more (hN : X.N.Nodup) (hi : X.N[i]? = some bn) (hv : Vis X.env.scope bn) (hd : (bn == ("__debug__" : Str)) = false) (hcd : (bn == ("__classdict__" : Str)) = false) (hx : Loc X.env.scope bn) (hf : X.fn bn = true ∨ X.env.scope.names.lookup bn = some .local) (hT : (P, nm) ∈ T) (hz : (L ++ L2).length ≤ sizeLine) (lg : ∀ l ∈ L2, LamG T X c P nm k l)
    (hs : swapsWith (.BinOp (.Name bn p4) .Add (.List (L2.map LamI.ex) p2) p5) (some (.Name bn p1)) p3.line X.env = pure false) (h : ∀ Wx, Tk X Wx → PSs X rest (rdB T X c P nm k i jf (L ++ L2) b Wx)) (Wx : Wish) (tk : Tk X Wx) : PSs X (.Assign [.Name bn p1] (.BinOp (.Name bn p4) .Add (.List (L2.map LamI.ex) p2) p5) p3 :: rest) (rdB T X c P nm k i jf L b Wx) := by
  refine (pss_cons (ps_set hN hi hx (pe_op op_cat (pe_var hi hv hd hcd) (pe_lst (pa_lams L2 lg))) hs hf) (h Wx tk)).imp fun D σ H hh => ?_
  obtain ⟨r, ρ, s, m, lg1, hjf, e, lb, q⟩ := hh
  have lb0 := lb
  obtain ⟨p, fs, h1, h2, h3, h4⟩ := lb0
  have hlen := paired_len h4
  rw [List.length_append] at hz
  refine ⟨.ref p, h1, r, s, m.mt, fun fs2 H1 st las => ⟨by rw [List.length_map, ← paired_len las]; omega, fun p2 hp2 => ?_⟩⟩
  have hlen2 := paired_len las
  obtain ⟨st2, off2, las2⟩ := lams_new st.mt las (st.mt.tab _ hT) hp2
  have stt := st.trans st2
  obtain ⟨o3, h5⟩ := stt.off h2 h3 fun ps z => by cases z
  have las1 := lamAts_step h4 stt (m.mt.tab _ hT)
  refine ⟨p, p2, fs.map V.ref, fs2.map V.ref, rfl, rfl, h5, upd_same, by rw [List.length_map, List.length_map]; omega, fun p3 hp3 => ?_⟩
  have hl : i < σ.length := by rw [← m.len]; exact (List.getElem?_eq_some_iff.mp e).1
  rw [← List.map_append]
  obtain ⟨st3, off3, las3⟩ := lams_new st2.mt (paired_app las1 las2) (st2.mt.tab _ hT) hp3
  exact ⟨r, ρ, s, ((m.step stt).step st3).fre e, fun l hl => (List.mem_append.mp hl).elim (lg1 l) (lg l), hjf, e, LB.at hl upd_same off3 las3, PostS.shift q (stt.trans st3)⟩
end
end RS
set_option Elab.async false
set_option linter.all false
set_option maxRecDepth 100000
set_option maxHeartbeats 1000000
set_option autoImplicit false
/-! RS.C42: the test of a list of lambdas. -/
namespace RS
open PySem PySem.Spec PyProof.Rows L2 LamX

/-- what is known of told, in a def -/
structure ToldF (T : List NdefX.NTab) (X : Cx) (x e ret : Str) (k : Nat) : Prop where
  run : ∀ {c P : Addr} {nm : Nat → Nat → Str} {jf : Nat} {fv : Str} {p pf pos : Pos} {pp : List (Addr × Obj)} {σ : L2.St} {s0 : Shared} {H0 : Hp} {scope : Scope} {ce : PySem.Env} {fp : List Addr}, BackTo X pp σ (X.blk s0 H0 scope ce fp) → Gl (X.blk s0 H0 scope ce fp) x → X.N[jf]? = some fv → Vis ce.scope fv → (fv == ("__debug__" : Str)) = false → (fv == ("__classdict__" : Str)) = false →
    PE (X.blk s0 H0 scope ce fp) (.Call (.Name x p) [.Name fv pf] [] pos) (rdTold T X c P nm k e ret jf σ)
theorem ToldF.of {T : List NdefX.NTab} {X : Cx} {x a e ret : Str} {g CS : Addr} {k j : Nat} {pg : Arguments} {sg : Scope} {dV kV doc pm cdv ct oc : Value} {an od : Option Addr} {osl : Array (Option Value)} {Ng : List Str} {p1 p2 p3 p4 p5 p6 p7 p8 : Pos}
    (hm : X.mg x = some (.ref g)) (hk : PySem.W.keepIn X.K (.ref g) = true)
    (lk : X.K.lookup g = some ⟨oc, od, .func (PySem.W.fnOf x x pg [.Try [.Return (some (.Call (.Name a p1) [] [] p2)) p3] [.ExceptHandler (some (.Name e p4)) none [.Return (some (.Constant (.str ret) j p5)) p6] p7] [] [] p8] sg dV kV doc pm an cdv ct), osl⟩)
    (hcg : PySem.W.codeIn X.K cdv x = true) (hb : L2.Binds X.K (PySem.W.fnOf x x pg [.Try [.Return (some (.Call (.Name a p1) [] [] p2)) p3] [.ExceptHandler (some (.Name e p4)) none [.Return (some (.Constant (.str ret) j p5)) p6] p7] [] [] p8] sg dV kV doc pm an cdv ct) [a] []) (Sg : FnScope Ng [a] sg) (hNg : Ng[0]? = some a) (hva : Vis sg a)
    (hge : sg.names.lookup e = some .globalImplicit) (hme : X.mg e = some (.ref CS)) (hde : (e == ("__debug__" : Str)) = false) (h0 : ∀ f : Addr, (L2.start Ng [V.ref f])[0]? = some (some (V.ref f))) (hex : PySem.W.exmOne X.K (.ref CS) (.ref CS) = some true)
    (hr : Room (k + 2) X.A) (hdb : (x == ("__debug__" : Str)) = false := by decide) (hd : (a == ("__debug__" : Str)) = false := by decide) (hcd : (a == ("__classdict__" : Str)) = false := by decide) : ToldF T X x e ret k :=
  ⟨fun back hg hfN hfv hfd hfc => pe_toldO back hg hm hk lk hcg hb Sg hNg hva hge hme hde h0 hex hr hfN hfv hdb hd hcd hfd hfc⟩

theorem lz {n : Nat} (h : n ≤ 1000) : n ≤ sizeLine := Nat.le_trans h (by rw [sizeLine_eq]; decide)
section
variable {T : List NdefX.NTab} {X : Cx} {c P : Addr} {nm : Nat → Nat → Str} {k i jf : Nat} {e ret x bn fv : Str} {scope : Scope} {elt : Expr} {L : List LamI} {p1 p2 p3 p4 p5 p6 p7 p8 p9 p10 p11 p12 : Pos} {own : List (Str × Nat)} {j : Nat}
/-- the list of those that are not refused -/
def rdBad (T : List NdefX.NTab) (X : Cx) (c P : Addr) (nm : Nat → Nat → Str) (k i jf : Nat) (e ret : Str) (L : List LamI) (Wx : Wish) : TE := fun σ H Q => ∃ r ρ S, MtE T X r ρ S σ H ∧ (∀ l ∈ L, LamG T X c P nm k l) ∧ jf < ρ.length ∧ LB X P i L r S.nx σ H ∧ PostE T X.K X.mg r S H (eAllBad e ret (L.map LamI.mb) ρ S) Q Wx
/-- what is known of the comprehension's text -/
structure BadC (X : Cx) (i jf : Nat) (x bn fv : Str) (scope : Scope) (own : List (Str × Nat)) : Prop where
  calm : X.calm = true
  nd : X.N.Nodup
  hi : X.N[i]? = some bn
  hvb : Vis X.env.scope bn
  bk : BlkOk X.N X.env.scope scope own
  how : own.map (·.2) = [jf]
  hfN : X.N[jf]? = some fv
  hgx : (relabel scope X.env).names.lookup x = some .globalImplicit
  hlf : Loc (relabel scope X.env) fv
  hvf : Vis (relabel scope X.env) fv
  hfn : (scope.names.lookup fv == some .cell) = true ∨ (relabel scope X.env).names.lookup fv = some .local
  hdb : (bn == ("__debug__" : Str)) = false ∧ (bn == ("__classdict__" : Str)) = false
  hdf : (fv == ("__debug__" : Str)) = false ∧ (fv == ("__classdict__" : Str)) = false
theorem pe_bad {Wx : Wish} (tf : ToldF T X x e ret k) (bc : BadC X i jf x bn fv scope own) :
    PE X (.ListComp elt [⟨.Name fv p1, .Name bn p2, [.Compare (.Call (.Name x p3) [.Name fv p4] [] p5) [.NotEq] [.Constant (.str ret) j p6] p7], 0⟩] scope p8) (rdBad T X c P nm k i jf e ret L Wx) := by
  refine (pe_lcB (g := gName jf) (tt := fun σ => tTest (tOp rNe (rdTold T X c P nm k e ret jf σ) (tC (.str ret)))) bc.calm bc.nd (pi_list (pe_var bc.hi bc.hvb bc.hdb.1 bc.hdb.2)) bc.bk (fun s H C cl fp => ?_) (fun pp σ s H C cl fp back => ?_)).imp fun σ H Q h => ?_
  · exact pg_name (X := X.blk s H scope (compEnvC scope cl C X.env) fp) bc.nd bc.hfN bc.hlf bc.hfn
  · exact pts_one (pt_cmpR op_ne (tf.run back bc.hgx bc.hfN bc.hvf bc.hdf.1 bc.hdf.2) pe_str (nomark _))
  · obtain ⟨r, ρ, S, mm, lg, hl, lb, q⟩ := h
    rw [bc.how]
    exact bad_comp (by simp) hl mm lb lg q
/-- such a test: != [] -/
theorem pt_bad {Wx : Wish} (tk : Tk X Wx) (hu : X.A.units + 60 < cLine) (tf : ToldF T X x e ret k) (bc : BadC X i jf x bn fv scope own) :
    PT X (.Compare (.ListComp elt [⟨.Name fv p1, .Name bn p2, [.Compare (.Call (.Name x p3) [.Name fv p4] [] p5) [.NotEq] [.Constant (.str ret) j p6] p7], 0⟩] scope p8) [.NotEq] [.List [] p9] p10)
      fun σ H Q => ∃ r ρ S, MtE T X r ρ S σ H ∧ (∀ l ∈ L, LamG T X c P nm k l) ∧ jf < ρ.length ∧ LB X P i L r S.nx σ H ∧ PostT T X.K X.mg r S H ((eAllBad e ret (L.map LamI.mb) ρ S).bind fun _ s1 => .ok false s1) Q Wx := by
  refine (pt_cmpR (ow_ne (T := T) hu Wx tk) (pe_bad (c := c) (P := P) (nm := nm) (L := L) (Wx := Wx) tf bc) (rs_lst (vr := true) (T := T) ra_nil Wx tk) (nomark _)).imp fun σ H Q h => ?_
  obtain ⟨r, ρ, S, mm, lg, hl, lb, q⟩ := h
  refine ⟨r, ρ, S, mm, lg, hl, lb, ?_⟩
  rcases eAllBad_cases (e := e) (ret := ret) (ms := L.map LamI.mb) (ρ := ρ) (S := S) with em | ⟨S', em⟩
  · rw [em] at q; exact False.elim q
  · rw [em] at q ⊢
    intro r1 H1 v st rl
    refine ⟨r1, ρ, S', mm.step st, ?_⟩
    show PostE T X.K X.mg r1 S' H1 (eLst true eNil ρ S') _ Wx
    intro r2 H2 y st2 rl2
    refine ⟨r2, S', .lst [], .lst [], st2.mt, rl.kp st2.kp, rl2, ?_⟩
    have e0 : neV (.lst []) (.lst []) S' = .ok (.bl false) S' := rfl
    rw [e0]
    intro r3 H3 z st3 rl3
    obtain rfl := rBl rl3
    exact ⟨_, rfl, q r3 H3 (st.trans (st2.trans st3))⟩
/-- .. or more tests -/
theorem pt_badOr {Wx : Wish} {tst b0 : Expr} {more : List Expr} {t : RS.T} (tk : Tk X Wx) (h : PT X tst fun σ H Q => ∃ r ρ S, MtE T X r ρ S σ H ∧ (∀ l ∈ L, LamG T X c P nm k l) ∧ jf < ρ.length ∧ LB X P i L r S.nx σ H ∧ PostT T X.K X.mg r S H ((eAllBad e ret (L.map LamI.mb) ρ S).bind fun _ s1 => .ok false s1) Q Wx)
    (hb : RW T X (.BoolOp .Or (b0 :: more) p1) t) : PT X (.BoolOp .Or (tst :: b0 :: more) p1) fun σ H Q => ∃ r ρ S, MtE T X r ρ S σ H ∧ (∀ l ∈ L, LamG T X c P nm k l) ∧ jf < ρ.length ∧ LB X P i L r S.nx σ H ∧ PostT T X.K X.mg r S H ((eAllBad e ret (L.map LamI.mb) ρ S).bind fun _ s1 => t ρ s1) Q Wx := by
  refine ((pw_or h (hb Wx tk)).pt).imp fun σ H Q hh => ?_
  obtain ⟨r, ρ, S, mm, lg, hl, lb, q⟩ := hh
  refine ⟨r, ρ, S, mm, lg, hl, lb, ?_⟩
  rcases eAllBad_cases (e := e) (ret := ret) (ms := L.map LamI.mb) (ρ := ρ) (S := S) with em | ⟨S', em⟩
  · rw [em] at q; exact False.elim q
  · rw [em] at q ⊢
    intro r1 H1 st
    exact ⟨r1, ρ, S', mm.step st, PostT.shift q st⟩
def tNo : RS.T := fun _ s => .ok false s
/-- if all are refused, and no other test holds: on -/
def bBadIf (e ret : Str) (ms : List E) (t : RS.T) (a b : B) : B := fun ρ s => (eAllBad e ret ms ρ s).bindS fun _ s1 => (t ρ s1).bindS fun c s2 => if c = true then bSeq a b ρ s2 else b ρ s2
theorem bad_if {tst : Expr} {t : RS.T} {sa rest : List Stmt} {a b : B} {Wx : Wish} (tk : Tk X Wx) (h : PT X tst fun σ H Q => ∃ r ρ S, MtE T X r ρ S σ H ∧ (∀ l ∈ L, LamG T X c P nm k l) ∧ jf < ρ.length ∧ LB X P i L r S.nx σ H ∧ PostT T X.K X.mg r S H ((eAllBad e ret (L.map LamI.mb) ρ S).bind fun _ s1 => t ρ s1) Q Wx)
    (ha : RSs T X sa a) (hb : RSs T X rest b) : PSs X (.If tst sa [] p1 :: rest) (rdB T X c P nm k i jf L (bBadIf e ret (L.map LamI.mb) t a b) Wx) := by
  refine (pss_cons (ps_if h (ha Wx tk) (rss_nil (T := T) Wx tk)) (hb Wx tk)).imp fun D σ H hh => ?_
  obtain ⟨r, ρ, S, mm, lg, hl, _, lb, q⟩ := hh
  refine ⟨r, ρ, S, mm, lg, hl, lb, ?_⟩
  unfold bBadIf at q
  rcases eAllBad_cases (e := e) (ret := ret) (ms := L.map LamI.mb) (ρ := ρ) (S := S) with em | ⟨S', em⟩
  · rw [em] at q; exact False.elim q
  · rw [em] at q ⊢
    simp only [Out.bindS] at q
    show PostT T X.K X.mg r S H (t ρ S') _ Wx
    cases et : t ρ S' with
    | bad => rw [et] at q; exact False.elim q
    | ex cl s2 => rw [et] at q; exact fun r1 H1 st => q r1 H1 st
    | ok cb s2 =>
      rw [et] at q
      simp only at q
      intro r1 H1 st
      cases cb with
      | true =>
        rw [if_pos rfl] at q ⊢
        refine ⟨r1, ρ, s2, mm.step st, ?_⟩
        unfold bSeq at q
        cases ea : a ρ s2 with
        | nx ρ' s' =>
          rw [ea] at q
          exact fun r' σ' H' x m' => ⟨r', ρ', s', m', PostS.shift q (st.trans x)⟩
        | _ => rw [ea] at q; exact PostS.shift q st
      | false =>
        rw [if_neg (by simp)] at q
        simp only [Bool.false_eq_true, if_false]
        exact ⟨r1, ρ, s2, mm.step st, fun r' σ' H' x m' => ⟨r', ρ, s2, m', PostS.shift q (st.trans x)⟩⟩
/-- return [..] == [] -/
def bBadRet (e ret : Str) (ms : List E) : B := fun ρ s => (eAllBad e ret ms ρ s).bindS fun _ s1 => .rt (.bl true) s1
theorem bad_ret {Wx : Wish} (tk : Tk X Wx) (hu : X.A.units + 60 < cLine) (tf : ToldF T X x e ret k) (bc : BadC X i jf x bn fv scope own) :
    PSs X [.Return (some (.Compare (.ListComp elt [⟨.Name fv p1, .Name bn p2, [.Compare (.Call (.Name x p3) [.Name fv p4] [] p5) [.NotEq] [.Constant (.str ret) j p6] p7], 0⟩] scope p8) [.Eq] [.List [] p9] p10)) p11] (rdB T X c P nm k i jf L (bBadRet e ret (L.map LamI.mb)) Wx) := by
  refine (pss_one (ps_ret (pe_cmpR (ow_eq (T := T) hu Wx tk) (pe_bad (c := c) (P := P) (nm := nm) (L := L) (Wx := Wx) tf bc) (rs_lst (vr := true) (T := T) ra_nil Wx tk) (nomark _)))).imp fun D σ H h => ?_
  obtain ⟨r, ρ, S, mm, lg, hl, _, lb, q⟩ := h
  refine ⟨r, ρ, S, mm, lg, hl, lb, ?_⟩
  unfold bBadRet at q
  rcases eAllBad_cases (e := e) (ret := ret) (ms := L.map LamI.mb) (ρ := ρ) (S := S) with em | ⟨S', em⟩
  · rw [em] at q; exact False.elim q
  · rw [em] at q ⊢
    intro r1 H1 v st rl
    refine ⟨r1, ρ, S', mm.step st, ?_⟩
    show PostE T X.K X.mg r1 S' H1 (eLst true eNil ρ S') _ Wx
    intro r2 H2 y st2 rl2
    refine ⟨r2, S', .lst [], .lst [], st2.mt, rl.kp st2.kp, rl2, ?_⟩
    have e0 : eqV (.lst []) (.lst []) S' = .ok (.bl true) S' := rfl
    rw [e0]
    intro r3 H3 z st3 rl3
    exact q r3 H3 z (st.trans (st2.trans st3)) rl3
end
end RS
set_option Elab.async false
set_option linter.all false
set_option maxRecDepth 100000
set_option maxHeartbeats 1000000
set_option autoImplicit false
/-! RS.C43: the law's own frame, one statement ahead of the walk. -/
namespace RS
open PySem PySem.Spec PyProof.Rows L2
/-- what the law answers, the script's items ws; ahead of the walk a name is set -/
def lawMP (rM : List W → Int → M W) (me : E) (j0 jd : Nat) (b : B) (pM : List W → M W) (n : Nat) (ws : List W) : M W := fun s => match me (List.replicate n none) s with
  | .ok w0 s0 => match rM ws 1 s0 with
    | .ok (.lst l) s1 => match fLoop (itS l) (gN jd) b (l.length + 1) 0 ((List.replicate n none).set j0 (some w0)) s1 with
      | .nx _ s2 => pM [] s2
      | .rt w s2 => .ok w s2
      | .ex c s2 => .ex c s2
      | _ => .bad
    | .ex c s1 => .ex c s1
    | _ => .bad
  | .ex c s0 => .ex c s0
  | .bad => .bad
def spLawP (T : List NdefX.NTab) (K : PySem.W.Frag) (mg : Str → Option Value) (m : List W → M W) : Sp := fun vs H Q Ex => ∃ a xs ws, vs = [.ref a] ∧ SqL K H a xs ∧ ∃ r s, Mt T K mg r s H ∧ s.nx = 0 ∧ RelWs K r s.nx H ws xs ∧ PostE T K mg r s H (m ws s) Q (EW mg Ex)
theorem sqL_step {T : List NdefX.NTab} {K : PySem.W.Frag} {mg : Str → Option Value} {r r' : Rm} {s s' : S} {H H' : Hp} {a : Addr} {xs : List V} (h : SqL K H a xs) (hz : s.nx = 0) (x : Stp T K mg r s H r' s' H') : SqL K H' a xs := by
  have fr : ∀ o, H a = some o → (∀ ps, o ≠ .tbl ps) → H' a = some o := fun o e n => x.frm a o e (fun b hb => by omega) n
  rcases h with (h | ⟨o, h⟩) | h
  · exact .inl (.inl (fr _ h fun _ z => nomatch z))
  · exact .inl (.inr ⟨o, fr _ h fun _ z => nomatch z⟩)
  · exact .inr h
section
variable {T : List NdefX.NTab} {P : Program} {w : World} {K : PySem.W.Frag} {mg : Str → Option Value} {base : Heap}
theorem fn_lawP {e0 : Expr} {me : E} {j0 jd : Nat} {x9 : Str} {z1 z2 : Pos} {st : Stmt} {f c fR fP : Addr} {fd fdR fdP : FuncData} {k kR kP : Nat} {b : B} {N : List Str} {xs0 x1 xR xP : Str} {bd : List Stmt} {rM : List W → Int → M W} {pM : List W → M W} {j : Nat} {q1 q2 q3 q4 q5 q6 q7 q8 q9 : Pos} (F : FunC K "law" "law" st f fd c) (Sc : FnScope N [xs0] (defScope st))
    (hbody : defBody st = [.Assign [.Name x9 z1] e0 z2, .For (.Name x1 q1) (.Call (.Name xR q2) [.Name xs0 q3, .Constant (.int 1) j q4] [] q5) bd [] q6, .Return (some (.Call (.Name xP q7) [] [] q8)) q9])
    (hN : ∃ N', N = xs0 :: N') (hjd : N[jd]? = some x1) (hv0 : Vis (defScope st) xs0) (hl1 : Loc (defScope st) x1) (hd0 : (xs0 == ("__debug__" : Str)) = false ∧ (xs0 == ("__classdict__" : Str)) = false) (hgR : (defScope st).names.lookup xR = some .globalImplicit) (hgP : (defScope st).names.lookup xP = some .globalImplicit)
    (hdR : (xR == ("__debug__" : Str)) = false) (hdP : (xP == ("__debug__" : Str)) = false)
    (FR : FnOk P w K mg base (L2.CX P w) kR fR fdR ["script", "most"] (spRounds T K mg rM)) (hmR : mg xR = some (.ref fR)) (hkR : PySem.W.keepIn K (.ref fR) = true) (hbR : Binds K fdR ["script", "most"] [])
    (FP : FnOk P w K mg base (L2.CX P w) kP fP fdP [] (spR T K mg 0 pM)) (hmP : mg xP = some (.ref fP)) (hkP : PySem.W.keepIn K (.ref fP) = true) (hbP : Binds K fdP [] []) (hkR' : kR ≤ k) (hkP' : kP ≤ k)
    (hj0 : N[j0]? = some x9) (hjn : j0 ≠ 0) (hl9 : Loc (defScope st) x9) (hs9 : ∀ env : PySem.Env, swapsWith e0 (some (.Name x9 z1)) z2.line env = pure false)
    (hp : ∀ (A : Around) (outer : List PySem.Env) (s : Shared) (H : Hp) (Ex : XK), Room k (A.deeper (envOfC "law" (defScope st) s.heap.objs.size f (.ref c))) → RE T (cxOf (L2.CX P w) P w K mg base N "law" (defScope st) f (.ref c) A outer s H Ex) e0 me)
    (hb : ∀ (A : Around) (outer : List PySem.Env) (s : Shared) (H : Hp) (Ex : XK), Room k (A.deeper (envOfC "law" (defScope st) s.heap.objs.size f (.ref c))) → RSs T (cxOf (L2.CX P w) P w K mg base N "law" (defScope st) f (.ref c) A outer s H Ex) bd b) :
    FnOk P w K mg base (L2.CX P w) (k + 1) f fd [xs0] (spLawP T K mg (lawMP rM me j0 jd b pM N.length)) := by
  obtain ⟨oc, od, kV, doc, pm, an, ct, osl, rfl, lk, hcd⟩ := F.ex
  refine fn_of lk hcd Sc (fun vs H Q Ex h => ?_) fun A outer s H vs Q Ex hr h => ?_
  · obtain ⟨a, xs, ws, rfl, _⟩ := h
    rfl
  · obtain ⟨a, xs, ws, rfl, hq, r, S, m, hz, l, q⟩ := h
    obtain ⟨N', rfl⟩ := hN
    have tk : Tk (cxOf (L2.CX P w) P w K mg base (xs0 :: N') "law" (defScope st) f (.ref c) A outer s H Ex) (EW mg Ex) := tk_body (X := cxOf (L2.CX P w) P w K mg base (xs0 :: N') "law" (defScope st) f (.ref c) A outer s H Ex) rfl rfl rfl rfl
    rw [hbody]
    refine ⟨_, pss_cons (ps_set (X := cxOf (L2.CX P w) P w K mg base (xs0 :: N') "law" (defScope st) f (.ref c) A outer s H Ex) (i := j0) Sc.nd hj0 hl9 (hp A outer s H Ex hr _ tk) (hs9 _) (.inl rfl)) (pss_cons (ps_for (X := cxOf (L2.CX P w) P w K mg base (xs0 :: N') "law" (defScope st) f (.ref c) A outer s H Ex) (passes_of rfl) rfl
      (pi_list (pe_call FR (hr.mono hkR') hgR hmR hkR hbR (dvs := []) .nil (passR rfl tk) (pa_cons (pv 0 rfl hv0 hd0.1 hd0.2) (pa_cons pe_int pa_nil)) hdR))
      ((rg_name (T := T) (i := jd) Sc.nd hjd hl1 (.inl rfl)) _ tk) (hb A outer s H Ex hr _ tk))
      ((rss_cons (st_ret (rs_call0 (X := cxOf (L2.CX P w) P w K mg base (xs0 :: N') "law" (defScope st) f (.ref c) A outer s H Ex) FP rfl (hr.mono hkP') hmP hkP hbP hgP hdP)) rss_nil) _ tk)), ?_⟩
    have mm : MtE T (cxOf (L2.CX P w) P w K mg base (xs0 :: N') "law" (defScope st) f (.ref c) A outer s H Ex) r (List.replicate (xs0 :: N').length none) S (L2.start (xs0 :: N') [.ref a]) H := ⟨m, by simp [L2.start], fun i w' e => by
      have := List.getElem?_eq_some_iff.mp e
      obtain ⟨hlt, z⟩ := this
      rw [List.getElem_replicate] at z
      cases z⟩
    unfold lawMP at q
    refine rdE.go mm (fun w0 s0 e1 r1 H1 v1 pst l0 m1 => ?_) (fun cc s0 e1 r1 H1 pst => ?_) (fun e1 => ?_)
    rotate_left
    · rw [e1] at q; exact q r1 H1 pst
    · rw [e1] at q; exact q
    rw [e1] at q
    have hq1 := sqL_step hq hz pst
    have lw := RelWs.kp pst.kp l
    have q := PostE.shift q pst
    have m2 := m1.set l0 j0
    refine ⟨.ref a, by
      rw [List.getElem?_set_ne hjn]; rfl, ?_⟩
    show spRounds T K mg rM ([.ref a, .int 1] ++ []) H1 _ _
    refine ⟨a, xs, ws, 1, rfl, hq1, r1, s0, pst.mt, lw, ?_⟩
    simp only at q
    cases e : rM ws 1 s0 with
    | bad => rw [e] at q; exact q
    | ex cc s1 => rw [e] at q; exact fun r' H' x C hC => ⟨rfl, cc, C, rfl, hC, q r' H' x⟩
    | ok wd s1 =>
      rw [e] at q
      cases wd <;> first | exact False.elim q | skip
      rename_i ds
      intro r2 H2 v st1 rl
      obtain ⟨p, ys, rfl, f1, h1, l1⟩ := rLst rl
      refine ⟨_, rfl, ⟨ys, .inl (.inl h1)⟩, ?_⟩
      refine for_R (p := itS ds) (n1 := ds.length + 1) (m2.step st1) (itF_rel f1 h1 l1) ?_
      simp only at q
      cases e2 : fLoop (itS ds) (gN jd) b (ds.length + 1) 0 ((List.replicate (xs0 :: N').length none).set j0 (some w0)) s1 with
      | nx ρ2 s2 =>
        rw [e2] at q
        refine fun r3 σ3 H3 st2 mm2 => ⟨r3, ρ2, s2, mm2, ?_⟩
        have q : PostE T K mg r3 s2 H3 (pM [] s2) Q (EW mg Ex) := PostE.shift q (st1.trans st2)
        show PostS T _ r3 s2 H3 (bSeq (bRet (eCall pM eNil)) bNil ρ2 s2) _ _
        have e3 : bSeq (bRet (eCall pM eNil)) bNil ρ2 s2 = match pM [] s2 with
          | .ok w s' => .rt w s'
          | .ex c s' => .ex c s'
          | .bad => .bad := by
          unfold bSeq bRet eCall eNil
          simp only [Out.bind, Out.bindS]
          cases pM [] s2 <;> rfl
        rw [e3]
        cases e4 : pM [] s2 with
        | ok w' s3 => rw [e4] at q; exact q
        | ex c s3 => rw [e4] at q; exact q
        | bad => rw [e4] at q; exact q
      | rt u s2 => rw [e2] at q; exact fun r3 H3 v st2 l2 => q r3 H3 v (st1.trans st2) l2
      | ex cc s2 => rw [e2] at q; exact fun r3 H3 st2 => q r3 H3 (st1.trans st2)
      | bk _ _ => rw [e2] at q; exact False.elim q
      | ct _ _ => rw [e2] at q; exact False.elim q
      | bad => rw [e2] at q; exact False.elim q
end
end RS
set_option Elab.async false
set_option linter.all false
set_option maxRecDepth 100000
set_option maxHeartbeats 1000000
set_option autoImplicit false
/-! RS.C44: the end: what the top's facts give. -/
namespace RS
open PySem PySem.Spec PyProof.Rows L2
def fdOf (K : PySem.W.Frag) (p : He.Defn) : FuncData := match K.lookup (He.fAd K p) with
  | some ⟨_, _, .func fd, _⟩ => fd
  | _ => default
theorem fdOf_eq {K : PySem.W.Frag} {p : He.Defn} {oc : Value} {od : Option Addr} {osl : Array (Option Value)} {fd : FuncData} (lk : K.lookup (He.fAd K p) = some ⟨oc, od, .func fd, osl⟩) : fdOf K p = fd := by
  unfold fdOf
  rw [lk]
theorem fun_of {K : PySem.W.Frag} {p : He.Defn} {x qual : Str} {st : Stmt} (c : ∃ fd, FunD K x qual (defArgs st) (defBody st) (defScope st) [] [] (He.fAd K p) fd) : Fun K x qual st (He.fAd K p) (fdOf K p) := by
  obtain ⟨fd, F⟩ := c
  obtain ⟨oc, od, dV, kV, doc, pm, an, cdv, ct, osl, e, lk, hc, hd, hk⟩ := F.ex
  have ed : dV = .none := by
    rcases hd with h | h
    · exact h.2
    · exact absurd rfl h.1
  subst ed
  exact ⟨⟨oc, od, kV, doc, pm, an, cdv, ct, osl, (fdOf_eq lk).trans e, by rw [fdOf_eq lk]; exact lk, hc⟩, F.kp⟩
theorem funC_of {K : PySem.W.Frag} {p : He.Defn} {x qual : Str} {st : Stmt} (c : ∃ fd, FunD K x qual (defArgs st) (defBody st) (defScope st) [] [] (He.fAd K p) fd) : FunC K x qual st (He.fAd K p) (fdOf K p) (He.cT K p).1 := by
  obtain ⟨fd, F⟩ := c
  obtain ⟨oc, od, dV, kV, doc, pm, an, cdv, ct, osl, e, lk, hc, hd, hk⟩ := F.ex
  have ed : dV = .none := by
    rcases hd with h | h
    · exact h.2
    · exact absurd rfl h.1
  subst ed
  obtain ⟨cc, rfl⟩ := He.codeIn_ref hc
  have ec : (He.cT K p).1 = cc := He.codeOf_eq lk (by rw [e])
  rw [ec]
  exact ⟨⟨oc, od, kV, doc, pm, an, ct, osl, (fdOf_eq lk).trans e, by rw [fdOf_eq lk]; exact lk, hc⟩, F.kp⟩
theorem fun_bindsA {K : PySem.W.Frag} {x qual : Str} {st : Stmt} {f : Addr} {fd : FuncData} {ps : List Str} (F : Fun K x qual st f fd)
    (h : ∀ (kV doc pm : Value) (an : Option Addr) (cdv ct : Value) (us : List Value), us.length = ps.length → bindArgs (PySem.W.fnOf x qual (defArgs st) (defBody st) (defScope st) .none kV doc pm an cdv ct) ⟨us, []⟩ = pure (ps.zip us)) (s : Shared) (us : List Value) (hl : us.length = ps.length) : BindsTo s fd ⟨us, []⟩ (ps.zip us) := by
  obtain ⟨oc, od, kV, doc, pm, an, cdv, ct, osl, rfl, lk, hcd⟩ := F.ex
  exact .of_eq (h kV doc pm an cdv ct us hl)
/-! ### tables -/
abbrev TfL : Type := List (He.Defn × Str)
def tfT (tf : TfL) (K : PySem.W.Frag) : List NdefX.NTab := tf.map fun d => ((He.cT K d.1).2, fun _ _ => d.2)
def tfC (tf : TfL) (K : PySem.W.Frag) : List (Addr × Addr) := tf.map fun d => He.cT K d.1
def tfEx (tf : TfL) (K : PySem.W.Frag) : Bool := decide (tf.map fun d => (He.cT K d.1).2).Nodup
theorem tab_of {tf : TfL} {K : PySem.W.Frag} {base : Heap} {mg : Str → Option Value} (h : tfEx tf K = true) (hb : ∀ p ∈ tfC tf K, LamX.TabB base mg p.1 p.2) {p : He.Defn} {q : Str} (i : Nat) (hi : tf[i]? = some (p, q) := by rfl) : TabOk (tfT tf K) base mg (He.cT K p).1 (He.cT K p).2 q := by
  have hm : (p, q) ∈ tf := List.mem_of_getElem? hi
  refine ⟨hb _ (List.mem_map.mpr ⟨_, hm, rfl⟩), List.mem_map.mpr ⟨_, hm, rfl⟩, fun z hz e => ?_⟩
  obtain ⟨d, hd, rfl⟩ := List.mem_map.mp hz
  have nd : (tf.map fun d => (He.cT K d.1).2).Nodup := of_decide_eq_true h
  have e2 : (He.cT K d.1).2 = (He.cT K p).2 := e
  obtain ⟨j, hj, ej⟩ := List.mem_iff_getElem.mp hd
  obtain ⟨hi', ei⟩ := List.getElem?_eq_some_iff.mp hi
  have key := List.pairwise_iff_getElem.mp nd
  have li : i < (tf.map fun d => (He.cT K d.1).2).length := by rw [List.length_map]; exact hi'
  have lj : j < (tf.map fun d => (He.cT K d.1).2).length := by rw [List.length_map]; exact hj
  have h1 : (tf.map fun d => (He.cT K d.1).2)[j] = (tf.map fun d => (He.cT K d.1).2)[i] := by
    rw [List.getElem_map, List.getElem_map, ej, ei]; exact e2
  have ij : j = i := by
    rcases Nat.lt_trichotomy i j with z | z | z
    · exact absurd h1.symm (key i j li lj z)
    · exact z.symm
    · exact absurd h1 (key j i lj li z)
  subst ij
  have : d = (p, q) := ej.symm.trans ei
  rw [this]
theorem tf_tabs {tf : TfL} {K : PySem.W.Frag} {H : Hp} (h : ∀ p ∈ tfC tf K, H p.2 = some (.tbl #[])) : NdefX.TabsN (tfT tf K) H := fun p hp => by
  obtain ⟨d, hd, rfl⟩ := List.mem_map.mp hp
  exact NdefX.TabN.nil (h _ (List.mem_map.mpr ⟨d, hd, rfl⟩))
/-! ### constants of the top -/
mutual
def wB (K : PySem.W.Frag) : W → Value → Bool
  | .non, u => match u with
    | .none => true
    | _ => false
  | .bl b, u => match u with
    | .bool c => b == c
    | _ => false
  | .int i, u => match u with
    | .int j _ => decide (i = j)
    | _ => false
  | .str x, u => match u with
    | .str y _ => decide (x = y)
    | _ => false
  | .tup l, u => match u with
    | .ref p => (match K.lookup p with
      | some ⟨.type c, _, .seq its _, _⟩ => decide (c = "tuple") && (decide (its.size ≤ sizeLine) && wsB K l its.toList)
      | _ => false)
    | _ => false
  | _, _ => false
def wsB (K : PySem.W.Frag) : List W → List Value → Bool
  | [], us => us.isEmpty
  | w :: ws, us => match us with
    | u :: us' => wB K w u && wsB K ws us'
    | [] => false
end
mutual
theorem wB_ok {K : PySem.W.Frag} : ∀ {w : W} {u : Value}, wB K w u = true → ∃ v, RelV v u ∧ ∀ r n H, RelW K r n H w v
  | .non, u, h => by
    unfold wB at h
    cases u <;> first | exact ⟨.non, rfl, fun _ _ _ => by unfold RelW; rfl⟩ | cases h
  | .bl b, u, h => by
    unfold wB at h
    cases u <;> first | cases h | skip
    rename_i c
    have e : b = c := eq_of_beq h
    exact ⟨.bl b, by rw [e]; rfl, fun _ _ _ => by unfold RelW; rfl⟩
  | .int i, u, h => by
    unfold wB at h
    cases u <;> first | cases h | skip
    rename_i j t
    have e : i = j := of_decide_eq_true h
    exact ⟨.int i, ⟨t, by rw [e]⟩, fun _ _ _ => by unfold RelW; rfl⟩
  | .str x, u, h => by
    unfold wB at h
    cases u <;> first | cases h | skip
    rename_i y t
    have e : x = y := of_decide_eq_true h
    exact ⟨.str x, ⟨t, by rw [e]⟩, fun _ _ _ => by unfold RelW; rfl⟩
  | .tup l, u, h => by
    unfold wB at h
    cases u <;> first | cases h | skip
    rename_i p
    have h1 : (match K.lookup p with
      | some ⟨.type c, _, .seq its _, _⟩ => decide (c = "tuple") && (decide (its.size ≤ sizeLine) && wsB K l its.toList)
      | _ => false) = true := h
    cases q : K.lookup p with
    | none => rw [q] at h1; cases h1
    | some o =>
      obtain ⟨oc, od, dt, osl⟩ := o
      rw [q] at h1
      cases oc with
      | type c =>
        cases dt with
        | seq its n =>
          obtain ⟨z1, z2⟩ := He.ba h1
          obtain ⟨z3, z4⟩ := He.ba z2
          obtain ⟨vs, hv, hr⟩ := wsB_ok z4
          exact ⟨.ref p, rfl, fun r n H => by
            unfold RelW
            exact ⟨p, vs, rfl, .inr ⟨_, its, _, q, congrArg Value.type (of_decide_eq_true z1), rfl, of_decide_eq_true z3, hv⟩, hr r n H⟩⟩
        | _ => cases h1
      | _ => cases dt <;> cases h1
  | .ref _, u, h => by unfold wB at h; cases h
  | .lst _, u, h => by unfold wB at h; cases h
  | .dct _ _, u, h => by unfold wB at h; cases h
theorem wsB_ok {K : PySem.W.Frag} : ∀ {ws : List W} {us : List Value}, wsB K ws us = true → ∃ vs, Vals vs us ∧ ∀ r n H, RelWs K r n H ws vs
  | [], us, h => by
    unfold wsB at h
    cases us with
    | nil => exact ⟨[], .nil, fun _ _ _ => by unfold RelWs; rfl⟩
    | cons _ _ => cases h
  | w :: ws, us, h => by
    unfold wsB at h
    cases us with
    | nil => cases h
    | cons u us' =>
      obtain ⟨h1, h2⟩ := He.ba h
      obtain ⟨v, a1, a2⟩ := wB_ok h1
      obtain ⟨vs, b1, b2⟩ := wsB_ok h2
      exact ⟨v :: vs, .cons a1 b1, fun r n H => by
        unfold RelWs
        exact ⟨v, vs, rfl, a2 r n H, b2 r n H⟩⟩
end
def gkB (K : PySem.W.Frag) (x : Str) (w : W) : Bool := match PySem.W.nsIn K mainGlobals x with
  | some (some u) => wB K w u
  | _ => false
theorem gk_of {K : PySem.W.Frag} {h : Heap} {mg : Str → Option Value} (X : K.In h) (G : h.Ns mainGlobals mg) {x : Str} {w : W} (c : gkB K x w = true) : GlobK K mg x w := by
  unfold gkB at c
  cases e : PySem.W.nsIn K mainGlobals x with
  | none => rw [e] at c; cases c
  | some o =>
    rw [e] at c
    cases o with
    | none => cases c
    | some u =>
      obtain ⟨v, h1, h2⟩ := wB_ok c
      exact ⟨u, v, PySem.W.mg_of X G e, h1, h2⟩
def gksB (K : PySem.W.Frag) (l : List (Str × W)) : Bool := l.all fun p => gkB K p.1 p.2
theorem gks_of {K : PySem.W.Frag} {h : Heap} {mg : Str → Option Value} (X : K.In h) (G : h.Ns mainGlobals mg) {l : List (Str × W)} (c : gksB K l = true) (i : Nat) {x : Str} {w : W} (hi : l[i]? = some (x, w) := by rfl) : GlobK K mg x w :=
  gk_of X G (List.all_eq_true.mp c _ (List.mem_of_getElem? hi))
/-! ### errors, attributes -/
theorem err_of {K : PySem.W.Frag} {mg : Str → Option Value} {x : Str} (hg : mg x = some (.ref (He.ga K x))) (c : (He.Fa.exc x).ok K = true) : ErrC K mg x := by
  obtain ⟨h1, h2, h3, h4⟩ := He.exc_ok c
  exact ⟨_, _, _, _, _, PySem.F.excBase_ValueError, h1, hg, h2, h3, h4⟩
theorem fld_nil {K : PySem.W.Frag} {mg : Str → Option Value} {f : Str} : FldOk K mg [] f := fun _ h => nomatch h
theorem fld_cons {K : PySem.W.Frag} {mg : Str → Option Value} {f c : Str} {cs : List Str} (hg : mg c = some (.ref (He.ga K c))) (h1 : (He.Fa.cls c).ok K = true) (h2 : (He.Fa.noat c f).ok K = true) (h : FldOk K mg cs f) : FldOk K mg (c :: cs) f := fun x hx C e => by
  rcases List.mem_cons.mp hx with rfl | hx
  · have z := hg.symm.trans e
    injection z with z
    injection z with z
    rw [← z]
    exact ⟨He.cls_ok h1, He.noat_ok h2⟩
  · exact h x hx C e
/-! ### the promise -/
def S0 : S := ⟨0, fun _ => none, []⟩
def r0 : Rm := ⟨fun _ => 0, fun _ => False⟩
theorem mt0 {T : List NdefX.NTab} {K : PySem.W.Frag} {mg : Str → Option Value} {H : Hp} (h : NdefX.TabsN T H) : Mt T K mg r0 S0 H where
  inj := fun a _ z => absurd z (Nat.not_lt_zero a)
  ob := fun _ _ z => nomatch z
  dom := fun a z => absurd z (Nat.not_lt_zero a)
  tab := h
  lkb := fun _ z => nomatch z
  fr := fun _ z => z.elim
theorem ints0 {K : PySem.W.Frag} {H : Hp} : ∀ ns : List Int, RelWs K r0 0 H (ns.map W.int) (ns.map V.int)
  | [] => by unfold RelWs; rfl
  | n :: ns => by
    show RelWs K r0 0 H (W.int n :: ns.map W.int) (V.int n :: ns.map V.int)
    unfold RelWs
    exact ⟨_, _, rfl, by unfold RelW; rfl, ints0 ns⟩
/-- the mirror answers True -/
def LawTrue (m : List W → M W) (ns : List Int) : Prop := ∃ s, m (ns.map W.int) S0 = .ok (.bl true) s
theorem post_true {T : List NdefX.NTab} {K : PySem.W.Frag} {mg : Str → Option Value} {r : Rm} {H : Hp} {m : List W → M W} {ns : List Int} {X : Wish} (h : LawTrue m ns) : PostE T K mg r S0 H (m (ns.map W.int) S0) (fun v _ => v = .bl true) X := by
  obtain ⟨s, e⟩ := h
  rw [e]
  intro r' H' v _ l
  unfold RelW at l
  exact l
theorem sp_end {T : List NdefX.NTab} {K : PySem.W.Frag} {mg : Str → Option Value} {m : List W → M W} {H : Hp} {a : Addr} {ns : List Int} (ht : NdefX.TabsN T H) (hS : SqL K H a (ns.map V.int)) (h : LawTrue m ns) : spLaw T K mg m [.ref a] H (fun v _ => v = .bl true) fun _ _ _ => False :=
  ⟨a, _, _, rfl, hS, r0, S0, mt0 ht, ints0 ns, post_true h⟩
theorem sp_endP {T : List NdefX.NTab} {K : PySem.W.Frag} {mg : Str → Option Value} {m : List W → M W} {H : Hp} {a : Addr} {ns : List Int} (ht : NdefX.TabsN T H) (hS : SqL K H a (ns.map V.int)) (h : LawTrue m ns) : spLawP T K mg m [.ref a] H (fun v _ => v = .bl true) fun _ _ _ => False :=
  ⟨a, _, _, rfl, hS, r0, S0, mt0 ht, rfl, ints0 ns, post_true h⟩
/-! ### what answers a truth alone: shown from the empty state -/
def fresh0 (pM : List W → M W) : List W → M W := fun _ s => match pM [] S0 with
  | .ok (.bl b) _ => .ok (.bl b) s
  | .ex c _ => .ex c s
  | _ => .bad
theorem Stp.over0 {T : List NdefX.NTab} {K : PySem.W.Frag} {mg : Str → Option Value} {r r' : Rm} {s s' : S} {H H' : Hp} (m : Mt T K mg r s H) (x : Stp T K mg r0 S0 H r' s' H') : Stp T K mg r s H r s H' := by
  have fr : ∀ p o, H p = some o → (∀ ps, o ≠ .tbl ps) → H' p = some o := fun p o e n => x.frm p o e (fun b hb => absurd hb (Nat.not_lt_zero b)) n
  have kp : Kp r s.nx H r s.nx H' := ⟨Nat.le_refl _, fun _ _ => rfl, x.kp.tup, fun _ h => h, fun p o f e => by
    obtain ⟨_, o', e', n'⟩ := m.fr p f
    rw [e'] at e
    cases e
    exact fr p _ e' n'⟩
  have mt : Mt T K mg r s H' := ⟨m.inj, fun a o e => by
    obtain ⟨h1, ho, h2, h3⟩ := m.ob a o e
    exact ⟨h1, ho, fr _ _ h2 h3.notup.2.1, h3.kp kp⟩, fun a h => by
    obtain ⟨ho, h2, h3⟩ := m.dom a h
    exact ⟨ho, fr _ _ h2 h3, h3⟩, x.mt.tab, m.lkb, fun p f => by
    obtain ⟨h1, o, h2, h3⟩ := m.fr p f
    exact ⟨h1, o, fr _ _ h2 h3, h3⟩⟩
  refine ⟨kp, mt, rfl, fun _ _ => rfl, fun a h => ⟨m.lkb a h, ?_⟩, fun p o e _ n => fr p o e n, x.tbl, fun a h1 h2 => absurd (Nat.lt_of_le_of_lt h1 h2) (Nat.lt_irrefl _), fun _ h => .inl h⟩
  obtain ⟨ho, h2, h3⟩ := m.dom a (m.lkb a h)
  rw [h2]
  exact fr _ _ h2 h3
theorem spR_fresh {T : List NdefX.NTab} {K : PySem.W.Frag} {mg : Str → Option Value} {pM : List W → M W} {vs : List V} {H : Hp} {Q : VK} {Ex : XK} (h : spR T K mg 0 (fresh0 pM) vs H Q Ex) : spR T K mg 0 pM vs H Q Ex := by
  obtain ⟨hl, r, s, ws, m, l, q⟩ := h
  cases vs with
  | cons _ _ => cases hl
  | nil =>
    refine ⟨rfl, r0, S0, [], mt0 m.tab, by unfold RelWs; rfl, ?_⟩
    unfold fresh0 at q
    cases e : pM [] S0 with
    | bad => rw [e] at q; exact q
    | ex c s' => rw [e] at q; exact fun r' H' x => q r H' (x.over0 m)
    | ok w s' =>
      rw [e] at q
      cases w <;> first | exact False.elim q | skip
      exact fun r' H' v x lv => q r H' v (x.over0 m) (by unfold RelW at lv ⊢; exact lv)
theorem fn_fresh {T : List NdefX.NTab} {P : Program} {w : World} {K : PySem.W.Frag} {mg : Str → Option Value} {base : Heap} {f : Addr} {fd : FuncData} {k : Nat} {pM : List W → M W} (F : FnOk P w K mg base (L2.CX P w) k f fd [] (spR T K mg 0 pM)) : FnOk P w K mg base (L2.CX P w) k f fd [] (spR T K mg 0 (fresh0 pM)) :=
  F.imp fun _ _ _ _ h => spR_fresh h
theorem cx_no {P : Program} {w : World} {H : Hp} {s s' : Shared} {e : Value} (z : L2.CX P w [] H s (fun _ _ _ => False) e s') : False := by
  obtain ⟨_, _, _, _, _, _, _, _, _, _, _, _, h⟩ := z
  exact h
/-! ### the dice, the same in each law -/
def dice_b : B := bSeq (bIf (tE (eChain ltV ltV (eBin subV (eK (.int 0)) (eK (.int 10))) (eVar 0) (eK (.int 10)))) (bSeq (bRet (eLst false (eCons (eBt fAbs (eCons (eVar 0) (eNil))) (eCons (eK (.int 0)) (eCons (eK (.int 2)) (eNil)))))) (bNil)) (bNil)) (bSeq (bRet (eLst false (eCons (eVar 0) (eCons (eBin addV (eK (.int 1)) (eBin modV (eBt fInt (eCons (eVar 0) (eNil))) (eK (.int 1009)))) (eCons (eBt fInt (eCons (eBin geV (eVar 0) (eBin powV (eK (.int 10)) (eK (.int 18)))) (eNil))) (eNil)))))) (bNil))
def diceM : List W → M W := bodyM 1 dice_b
def rollM : Nat → List W → M W
  | 0 => bodyM 3 bBad
  | d + 1 => bodyM 3 (bSeq (bIf (tOr (tE (eBin eqV (eBin ixV (eVar 0) (eK (.int 2))) (eK (.int 2)))) (tAnd (tE (eBin eqV (eBin ixV (eVar 0) (eK (.int 2))) (eK (.int 1)))) (tE (eBin gtV (eBin ixV (eVar 0) (eK (.int 0))) (eK (.int 0)))))) (bSeq (bAsg (eBin modV (eBt fInt (eCons (eBin ixV (eVar 0) (eK (.int 0))) (eNil))) (eVar 1)) (gN 2)) (bSeq (bAsg (eBin fdivV (eBin ixV (eVar 0) (eK (.int 0))) (eVar 1)) (gIx (eVar 0) (eK (.int 0)))) (bSeq (bRet (eVar 2)) (bNil)))) (bNil)) (bSeq (bAsg (eK (.int 0)) (gIx (eVar 0) (eK (.int 2)))) (bSeq (bIf (tE (eBin gtV (eVar 1) (eK (.int 100000000)))) (bSeq (bRet (eBin modV (eBt fInt (eCons (eBin addV (eBin mulV (eCall (rollM d) (eCons (eVar 0) (eCons (eBin addV (eBin fdivV (eVar 1) (eK (.int 100000000))) (eK (.int 1))) (eNil)))) (eK (.int 100000000))) (eCall (rollM d) (eCons (eVar 0) (eCons (eK (.int 100000000)) (eNil))))) (eNil))) (eVar 1))) (bNil)) (bNil)) (bSeq (bAsg (eBin modV (eBt fInt (eCons (eBin addV (eBin addV (eBin mulV (eBin ixV (eVar 0) (eK (.int 0))) (eK (.int 48271))) (eBin mulV (eBin ixV (eVar 0) (eK (.int 1))) (eK (.int 69621)))) (eK (.int 11))) (eNil))) (eK (.int 2147483647))) (gIx (eVar 0) (eK (.int 0)))) (bSeq (bAsg (eBin addV (eBin ixV (eVar 0) (eK (.int 1))) (eK (.int 1))) (gIx (eVar 0) (eK (.int 1)))) (bSeq (bRet (eBin modV (eBt fInt (eCons (eBin fdivV (eBin ixV (eVar 0) (eK (.int 0))) (eK (.int 7))) (eNil))) (eVar 1))) (bNil)))))))
def rounds_b : B := bSeq (bIf (tE (eBin eqV (eVar 2) (eLst true (eNil)))) (bSeq (bAsg (eLst true (eCons (eK (.int 0)) (eNil))) (gN 2)) (bNil)) (bNil)) (bSeq (bRet (eLc true (iE (eVar 2)) [3] (gN 3) (tYesW) (eCall diceM (eCons (eVar 3) (eNil))))) (bNil))
def roundsF : List W → Int → M W := roundsM rounds_b
end RS
set_option Elab.async false
set_option linter.all false
set_option maxRecDepth 100000
set_option maxHeartbeats 1000000
set_option autoImplicit false
/-! RS.P0: what a mirror answers, shown step by step: Pe, Ps, Br. -/
namespace RS
open PySem L2
def Pe {α : Type} (o : Out α) (Q : α → S → Prop) (X : Str → S → Prop) : Prop := match o with
  | .ok a s => Q a s
  | .ex c s => X c s
  | .bad => False
structure Pk where
  r : W → S → Prop
  k : Env → S → Prop
  b : Env → S → Prop
  x : Str → S → Prop
def Ps (o : OutS) (N : Env → S → Prop) (P : Pk) : Prop := match o with
  | .nx ρ s => N ρ s
  | .rt w s => P.r w s
  | .ct ρ s => P.k ρ s
  | .bk ρ s => P.b ρ s
  | .ex c s => P.x c s
  | .bad => False
/-- a branch: only its test is rewritten -/
def Br (c : Bool) (A B : Prop) : Prop := (c = true → A) ∧ (c = false → B)
section
variable {α β : Type} {o o' : Out α} {Q : α → S → Prop} {X : Str → S → Prop} {N : Env → S → Prop} {P : Pk} {ρ : Env} {s : S}
@[simp] theorem Br_true {A B : Prop} : Br true A B = A := propext ⟨fun h => h.1 rfl, fun h => ⟨fun _ => h, fun z => nomatch z⟩⟩
@[simp] theorem Br_false {A B : Prop} : Br false A B = B := propext ⟨fun h => h.2 rfl, fun h => ⟨fun z => absurd z (by decide), fun _ => h⟩⟩
@[simp] theorem Br_not {c : Bool} {A B : Prop} : Br (!c) A B = Br c B A := by cases c <;> simp
@[simp] theorem Pe_ok {a : α} : Pe (.ok a s) Q X = Q a s := rfl
@[simp] theorem Pe_ex {c : Str} : Pe (.ex c s : Out α) Q X = X c s := rfl
@[simp] theorem Pe_bad : Pe (.bad : Out α) Q X = False := rfl
@[simp] theorem Pe_bind {o : Out β} {f : β → M α} : Pe (o.bind f) Q X = Pe o (fun a s => Pe (f a s) Q X) X := by cases o <;> rfl
@[simp] theorem Ps_bindS {f : α → S → OutS} : Ps (o.bindS f) N P = Pe o (fun a s => Ps (f a s) N P) P.x := by cases o <;> rfl
@[simp] theorem Ps_then {o : OutS} {f : Env → S → OutS} : Ps (o.then f) N P = Ps o (fun ρ s => Ps (f ρ s) N P) P := by cases o <;> rfl
@[simp] theorem Ps_nx : Ps (.nx ρ s) N P = N ρ s := rfl
@[simp] theorem Ps_rt {w : W} : Ps (.rt w s) N P = P.r w s := rfl
@[simp] theorem Ps_ct : Ps (.ct ρ s) N P = P.k ρ s := rfl
@[simp] theorem Ps_bk : Ps (.bk ρ s) N P = P.b ρ s := rfl
@[simp] theorem Ps_ex {c : Str} : Ps (.ex c s) N P = P.x c s := rfl
@[simp] theorem Ps_bad : Ps .bad N P = False := rfl
theorem Pe_q {Q Q' : α → S → Prop} (h : ∀ a s, Q a s = Q' a s) : Pe o Q X = Pe o Q' X := by
  have e : Q = Q' := funext fun a => funext fun s => h a s
  subst e
  rfl
theorem Pe.mono {Q' : α → S → Prop} {X' : Str → S → Prop} (h : Pe o Q X) (hq : ∀ a s, Q a s → Q' a s) (hx : ∀ c s, X c s → X' c s) : Pe o Q' X' := by
  cases o with
  | ok a s => exact hq _ _ h
  | ex c s => exact hx _ _ h
  | bad => exact h
theorem Ps.mono {o : OutS} {N' : Env → S → Prop} (h : Ps o N P) (hn : ∀ ρ s, N ρ s → N' ρ s) : Ps o N' P := by
  cases o <;> first | exact hn _ _ h | exact h
/-! ### values by their words -/
def vE : Option (Option W) → S → Out W
  | some (some w), s => .ok w s
  | _, _ => .bad
def vI : Option W → S → Out W
  | some w, s => .ok w s
  | none, _ => .bad
@[simp] theorem vE_some {w : W} : vE (some (some w)) s = .ok w s := rfl
@[simp] theorem vI_some {w : W} : vI (some w) s = .ok w s := rfl
def gB {α : Type} (c : Bool) (o : Out α) : Out α := if c = true then o else .bad
@[simp] theorem gB_true : gB true o = o := rfl
@[simp] theorem Pe_gB {c : Bool} : Pe (gB c o) Q X = (c = true ∧ Pe o Q X) := by cases c <;> simp [gB]
/-! ### expressions -/
@[simp] theorem eVar_p {i : Nat} : eVar i ρ s = vE ρ[i]? s := by
  unfold eVar
  rcases ρ[i]? with _ | _ | w <;> rfl
@[simp] theorem eK_p {w : W} : eK w ρ s = .ok w s := rfl
@[simp] theorem eBin_p {f : W → W → M W} {a b : E} : eBin f a b ρ s = (a ρ s).bind fun x s1 => (b ρ s1).bind fun y s2 => f x y s2 := rfl
@[simp] theorem eUn_p {f : W → M W} {a : E} : eUn f a ρ s = (a ρ s).bind f := rfl
@[simp] theorem eCons_p {a : E} {b : Es} : eCons a b ρ s = (a ρ s).bind fun x s1 => (b ρ s1).bind fun xs s2 => .ok (x :: xs) s2 := rfl
@[simp] theorem eNil_p : eNil ρ s = .ok [] s := rfl
@[simp] theorem eTup_p {a : Es} : eTup a ρ s = (a ρ s).bind fun xs s1 => gB (decide (xs.length ≤ szL)) (.ok (.tup xs) s1) := by
  unfold eTup gB
  simp only [decide_eq_true_eq]
@[simp] theorem eLst_p {a : Es} {v : Bool} : eLst v a ρ s = (a ρ s).bind fun xs s1 => gB (decide (xs.length ≤ szL)) (mkL v xs s1) := by
  unfold eLst gB
  simp only [decide_eq_true_eq]
@[simp] theorem mkL_v {l : List W} : mkL true l s = .ok (.lst l) s := rfl
@[simp] theorem mkL_o {l : List W} : mkL false l s = .ok (.ref s.nx) (s.new (.lst l)) := rfl
/-- the truth that a test finds -/
def tB : W → S → Out Bool
  | .bl b, s => .ok b s
  | _, _ => .bad
@[simp] theorem tB_bl {b : Bool} : tB (.bl b) s = .ok b s := rfl
@[simp] theorem tE_p {a : E} : tE a ρ s = (a ρ s).bind tB := by
  unfold tE
  cases a ρ s with
  | ok w s => cases w <;> rfl
  | _ => rfl
theorem Pe_if {c : Bool} {a b : Out α} : Pe (if c = true then a else b) Q X = Br c (Pe a Q X) (Pe b Q X) := by cases c <;> simp
theorem Ps_if {c : Bool} {a b : OutS} : Ps (if c = true then a else b) N P = Br c (Ps a N P) (Ps b N P) := by cases c <;> simp
@[simp] theorem eIf_P {t : RS.T} {a b : E} {Q : W → S → Prop} : Pe (eIf t a b ρ s) Q X = Pe (t ρ s) (fun c s1 => Br c (Pe (a ρ s1) Q X) (Pe (b ρ s1) Q X)) X := by
  unfold eIf
  rw [Pe_bind]
  exact Pe_q fun c s1 => Pe_if
@[simp] theorem tOr_P {t u : RS.T} {Q : Bool → S → Prop} : Pe (tOr t u ρ s) Q X = Pe (t ρ s) (fun c s1 => Br c (Q true s1) (Pe (u ρ s1) Q X)) X := by
  unfold tOr
  rw [Pe_bind]
  exact Pe_q fun c s1 => Pe_if
@[simp] theorem tAnd_P {t u : RS.T} {Q : Bool → S → Prop} : Pe (tAnd t u ρ s) Q X = Pe (t ρ s) (fun c s1 => Br c (Pe (u ρ s1) Q X) (Q false s1)) X := by
  unfold tAnd
  rw [Pe_bind]
  exact Pe_q fun c s1 => Pe_if
@[simp] theorem tNot_P {t : RS.T} {Q : Bool → S → Prop} : Pe (tNot t ρ s) Q X = Pe (t ρ s) (fun c s1 => Q (!c) s1) X := by
  unfold tNot
  rw [Pe_bind]
  rfl
@[simp] theorem eNot_P {a : E} {Q : W → S → Prop} : Pe (eNot a ρ s) Q X = Pe (a ρ s) (fun x s1 => Pe (tB x s1) (fun c s2 => Q (.bl (!c)) s2) X) X := by
  unfold eNot
  rw [Pe_bind]
  refine Pe_q fun x s1 => ?_
  cases x <;> rfl
@[simp] theorem eAnd_P {a b : E} {Q : W → S → Prop} : Pe (eAnd a b ρ s) Q X = Pe (a ρ s) (fun x s1 => Pe (tB x s1) (fun c s2 => Br c (Pe (b ρ s2) Q X) (Q (.bl false) s2)) X) X := by
  unfold eAnd
  rw [Pe_bind]
  refine Pe_q fun x s1 => ?_
  cases x <;> first | rfl | exact Pe_if
@[simp] theorem eOr_P {a b : E} {Q : W → S → Prop} : Pe (eOr a b ρ s) Q X = Pe (a ρ s) (fun x s1 => Pe (tB x s1) (fun c s2 => Br c (Q (.bl true) s2) (Pe (b ρ s2) Q X)) X) X := by
  unfold eOr
  rw [Pe_bind]
  refine Pe_q fun x s1 => ?_
  cases x <;> first | rfl | exact Pe_if
@[simp] theorem eChain_P {f g : W → W → M W} {a b c : E} {Q : W → S → Prop} : Pe (eChain f g a b c ρ s) Q X = Pe (a ρ s) (fun x s1 => Pe (b ρ s1) (fun y s2 => Pe (f x y s2) (fun z s3 => Pe (tB z s3) (fun k s4 => Br k (Pe (c ρ s4) (fun w s5 => Pe (g y w s5) Q X) X) (Q (.bl false) s4)) X) X) X) X := by
  unfold eChain
  rw [Pe_bind]
  refine Pe_q fun x s1 => ?_
  rw [Pe_bind]
  refine Pe_q fun y s2 => ?_
  rw [Pe_bind]
  refine Pe_q fun z s3 => ?_
  cases z <;> first | rfl | (rename_i k; cases k <;> simp [tB])
@[simp] theorem eBt_p {g : List W → M W} {ms : Es} : eBt g ms ρ s = (ms ρ s).bind g := rfl
@[simp] theorem eCall_p {g : List W → M W} {ms : Es} : eCall g ms ρ s = (ms ρ s).bind g := rfl
/-! ### numbers -/
@[simp] theorem addI {v : Bool} {i j : Int} : addW v (.int i) (.int j) s = .ok (.int (i + j)) s := rfl
@[simp] theorem addSs {v : Bool} {x y : Str} : addW v (.str x) (.str y) s = gB (decide (x.length + y.length ≤ szL)) (.ok (.str (x ++ y)) s) := by
  unfold addW gB
  simp only [decide_eq_true_eq]
@[simp] theorem addL {v : Bool} {l m : List W} : addW v (.lst l) (.lst m) s = gB (decide (l.length + m.length ≤ szL)) (mkL v (l ++ m) s) := by
  unfold addW gB
  simp only [decide_eq_true_eq, lsW]
@[simp] theorem addTt {v : Bool} {l m : List W} : addW v (.tup l) (.tup m) s = gB (decide (l.length + m.length ≤ szL)) (.ok (.tup (l ++ m)) s) := by
  unfold addW gB
  simp only [decide_eq_true_eq]
@[simp] theorem subI {i j : Int} : subV (.int i) (.int j) s = .ok (.int (i - j)) s := rfl
@[simp] theorem mulI {v : Bool} {i j : Int} : mulW v (.int i) (.int j) s = gB (mulOk i j) (.ok (.int (i * j)) s) := rfl
theorem mulOk_l {i j : Int} (h : -(2 ^ 64) < i ∧ i < 2 ^ 64) : mulOk i j = true := by
  unfold mulOk
  rw [decide_eq_true h, Bool.true_or]
theorem mulOk_r {i j : Int} (h : -(2 ^ 64) < j ∧ j < 2 ^ 64) : mulOk i j = true := by
  unfold mulOk
  rw [decide_eq_true h, Bool.or_true]
@[simp] theorem fdivI {i j : Int} : fdivV (.int i) (.int j) s = gB (decide (0 < j ∧ j < 1073741824)) (.ok (.int (i / j)) s) := by
  unfold fdivV gB
  simp only [decide_eq_true_eq]
@[simp] theorem modI {i j : Int} : modV (.int i) (.int j) s = gB (decide (0 < j)) (.ok (.int (i % j)) s) := by
  unfold modV gB
  simp only [decide_eq_true_eq]
@[simp] theorem negI {i : Int} : negV (.int i) s = .ok (.int (-i)) s := rfl
@[simp] theorem ltI {i j : Int} : ltV (.int i) (.int j) s = .ok (.bl (decide (i < j))) s := rfl
@[simp] theorem leI {i j : Int} : leV (.int i) (.int j) s = .ok (.bl (decide (i ≤ j))) s := rfl
@[simp] theorem gtI {i j : Int} : gtV (.int i) (.int j) s = .ok (.bl (decide (j < i))) s := rfl
@[simp] theorem geI {i j : Int} : geV (.int i) (.int j) s = .ok (.bl (decide (j ≤ i))) s := rfl
@[simp] theorem best2 {mx : Bool} {i j : Int} : fBest mx [.int i, .int j] s = .ok (.int (if mx then max i j else min i j)) s := by
  unfold fBest
  cases mx <;> simp only [Bool.false_eq_true, if_false, if_true] <;> congr 2 <;> omega
@[simp] theorem best3 {mx : Bool} {i j k : Int} : fBest mx [.int i, .int j, .int k] s = .ok (.int (if mx then max i (max j k) else min i (min j k))) s := by
  unfold fBest
  cases mx <;> simp only [Bool.false_eq_true, if_false, if_true] <;> congr 2 <;> omega
@[simp] theorem best4 {i j k l : Int} : fBest false [.int i, .int j, .int k, .int l] s = .ok (.int (min i (min j (min k l)))) s := by
  unfold fBest min4
  simp only [Bool.false_eq_true, if_false]
  congr 2
  omega
@[simp] theorem fAbs_p {i : Int} : fAbs [.int i] s = .ok (.int i.natAbs) s := by
  unfold fAbs
  simp only
  congr 2
  omega
@[simp] theorem fInt_i {i : Int} : fInt [.int i] s = .ok (.int i) s := rfl
@[simp] theorem fInt_b {b : Bool} : fInt [.bl b] s = .ok (.int (if b then 1 else 0)) s := rfl
/-! ### statements -/
@[simp] theorem bNil_p : bNil ρ s = .nx ρ s := rfl
@[simp] theorem bSeq_p {a b : B} : bSeq a b ρ s = (a ρ s).then b := rfl
@[simp] theorem bIf_P {t : RS.T} {a b : B} : Ps (bIf t a b ρ s) N P = Pe (t ρ s) (fun c s1 => Br c (Ps (a ρ s1) N P) (Ps (b ρ s1) N P)) P.x := by
  unfold bIf
  rw [Ps_bindS]
  exact Pe_q fun c s1 => Ps_if
theorem Ps_g {o : OutS} : Ps o.g N P = Ps o N { P with r := fun _ _ => False, k := fun _ _ => False, b := fun _ _ => False } := by cases o <;> rfl
@[simp] theorem bAsg_P {e : E} {g : G} : Ps (bAsg e g ρ s) N P = Pe (e ρ s) (fun w s1 => Ps (g w ρ s1).g N P) P.x := by
  unfold bAsg
  rw [Ps_bindS]
@[simp] theorem g_nx : (OutS.nx ρ s).g = .nx ρ s := rfl
@[simp] theorem g_bindS {f : α → S → OutS} : (o.bindS f).g = o.bindS fun a s => (f a s).g := by cases o <;> rfl
@[simp] theorem g_then {o : OutS} {f : Env → S → OutS} : (o.then f).g = o.g.then fun ρ s => (f ρ s).g := by cases o <;> rfl
@[simp] theorem bRet_p {e : E} : bRet e ρ s = (e ρ s).bindS fun w s1 => .rt w s1 := rfl
@[simp] theorem bExpr_p {e : E} : bExpr e ρ s = (e ρ s).bindS fun _ s1 => .nx ρ s1 := rfl
@[simp] theorem bRaise_p {c : Str} : bRaise c ρ s = .ex c s := rfl
@[simp] theorem gN_p {i : Nat} {w : W} : gN i w ρ s = .nx (ρ.set i (some w)) s := rfl
end
end RS
set_option Elab.async false
set_option linter.all false
set_option maxRecDepth 100000
set_option maxHeartbeats 1000000
set_option autoImplicit false
/-! RS.P1: the heap as a list of objects; the dice. -/
namespace RS
open PySem L2
/-! ### the heap as a list -/
def Hl (l : List O) : S := ⟨l.length, fun a => l[a]?, []⟩
@[simp] theorem Hl_at {l : List O} {a : Nat} : (Hl l).at_ a = l[a]? := rfl
@[simp] theorem Hl_nx {l : List O} : (Hl l).nx = l.length := rfl
@[simp] theorem Hl_lk {l : List O} : (Hl l).lk = [] := rfl
@[simp] theorem Hl_set {l : List O} {a : Nat} {o : O} (h : a < l.length) : (Hl l).set a o = Hl (l.set a o) := by
  unfold S.set Hl
  simp only [List.length_set, S.mk.injEq, true_and, and_true]
  funext b
  rw [List.getElem?_set]
  by_cases e : b = a
  · subst e; simp [h]
  · rw [if_neg e, if_neg (Ne.symm e)]
@[simp] theorem Hl_new {l : List O} {o : O} : (Hl l).new o = Hl (l ++ [o]) := by
  unfold S.new Hl
  simp only [List.length_append, List.length_cons, List.length_nil, S.mk.injEq, true_and, and_true]
  funext b
  by_cases e : b = l.length
  · subst e; simp
  · rw [if_neg e]
    by_cases h : b < l.length
    · rw [List.getElem?_append_left h]
    · rw [List.getElem?_eq_none (by omega), List.getElem?_eq_none (by simp; omega)]
theorem S0_eq : S0 = Hl [] := by
  unfold S0 Hl
  simp
@[simp] theorem szL_n : szL = 16777216 := rfl
@[simp] theorem sizeLine_eq : PySem.sizeLine = 16777216 := rfl
/-! ### texts -/
theorem ofString_inj {a b : String} (h : Str.ofString a = Str.ofString b) : a = b := by
  rw [Str.ofString_eq_toList, Str.ofString_eq_toList] at h
  have h1 : a.toList.map Char.toNat = b.toList.map Char.toNat := by
    injection h with h
    have := congrArg Array.toList h
    simpa using this
  have h2 : a.toList = b.toList := by
    refine List.map_inj_right (f := Char.toNat) (fun x y e => ?_) |>.mp h1
    exact Char.ext (UInt32.toNat.inj e)
  exact String.toList_inj.mp h2
@[simp] theorem ofString_eq {a b : String} : (Str.ofString a = Str.ofString b) = (a = b) := propext ⟨ofString_inj, fun h => by rw [h]⟩
@[simp] theorem ofString_beq {a b : String} : (Str.ofString a == Str.ofString b) = (a == b) := by
  rw [Bool.eq_iff_iff]
  simp
/-! ### index, attributes -/
@[simp] theorem atI_0 {α : Type} {x : α} {l : List α} : atI (x :: l) 0 = some x := by
  unfold atI ixN
  simp
@[simp] theorem nth0 {α : Type} {a : α} {l : List α} : (a :: l)[0]? = some a := rfl
@[simp] theorem nth1 {α : Type} {a b : α} {l : List α} : (a :: b :: l)[1]? = some b := rfl
@[simp] theorem nth2 {α : Type} {a b c : α} {l : List α} : (a :: b :: c :: l)[2]? = some c := rfl
@[simp] theorem nth3 {α : Type} {a b c d : α} {l : List α} : (a :: b :: c :: d :: l)[3]? = some d := rfl
@[simp] theorem nth4 {α : Type} {a b c d e : α} {l : List α} : (a :: b :: c :: d :: e :: l)[4]? = some e := rfl
@[simp] theorem nth5 {α : Type} {a b c d e f : α} {l : List α} : (a :: b :: c :: d :: e :: f :: l)[5]? = some f := rfl
@[simp] theorem nth6 {α : Type} {a b c d e f g : α} {l : List α} : (a :: b :: c :: d :: e :: f :: g :: l)[6]? = some g := rfl
@[simp] theorem nth7 {α : Type} {a b c d e f g h : α} {l : List α} : (a :: b :: c :: d :: e :: f :: g :: h :: l)[7]? = some h := rfl
@[simp] theorem nth8 {α : Type} {a b c d e f g h i : α} {l : List α} : (a :: b :: c :: d :: e :: f :: g :: h :: i :: l)[8]? = some i := rfl
theorem atI_nat {α : Type} {l : List α} {n : Nat} : atI l (n : Int) = l[n]? := by
  unfold atI ixN
  by_cases h : n < l.length
  · simp [h]
  · simp only [Int.natCast_nonneg, if_true]
    rw [if_neg (by omega), List.getElem?_eq_none (by omega)]; rfl
@[simp] theorem atI_1 {α : Type} {l : List α} : atI l 1 = l[1]? := atI_nat (n := 1)
@[simp] theorem atI_2 {α : Type} {l : List α} : atI l 2 = l[2]? := atI_nat (n := 2)
@[simp] theorem atI_3 {α : Type} {l : List α} : atI l 3 = l[3]? := atI_nat (n := 3)
@[simp] theorem atI_4 {α : Type} {l : List α} : atI l 4 = l[4]? := atI_nat (n := 4)
@[simp] theorem atI_5 {α : Type} {l : List α} : atI l 5 = l[5]? := atI_nat (n := 5)
@[simp] theorem atI_6 {α : Type} {l : List α} : atI l 6 = l[6]? := atI_nat (n := 6)
@[simp] theorem atI_7 {α : Type} {l : List α} : atI l 7 = l[7]? := atI_nat (n := 7)
@[simp] theorem atI_8 {α : Type} {l : List α} : atI l 8 = l[8]? := atI_nat (n := 8)
@[simp] theorem atI_9 {α : Type} {l : List α} : atI l 9 = l[9]? := atI_nat (n := 9)
@[simp] theorem atI_10 {α : Type} {l : List α} : atI l 10 = l[10]? := atI_nat (n := 10)
@[simp] theorem atI_11 {α : Type} {l : List α} : atI l 11 = l[11]? := atI_nat (n := 11)
@[simp] theorem atI_12 {α : Type} {l : List α} : atI l 12 = l[12]? := atI_nat (n := 12)
@[simp] theorem atI_m1 {α : Type} {l : List α} : atI l (-1) = l.getLast? := by
  unfold atI ixN
  cases l with
  | nil => rfl
  | cons x t =>
    have h1 : ¬ (0 : Int) ≤ -1 := by omega
    have h2 : -(((x :: t).length : Nat) : Int) ≤ -1 := by simp; omega
    rw [if_neg h1, if_pos h2, List.getLast?_eq_getElem?]
    show (x :: t)[(-1 + ((x :: t).length : Int)).toNat]? = _
    congr 1
    omega
def oIx : Option O → W → S → Out W
  | some (.lst l), .int i, s => vI (atI l i) s
  | some (.dct l), k, s => vI (dget l k) s
  | _, _, _ => .bad
section
variable {α : Type} {Q : W → S → Prop} {X : Str → S → Prop} {N : Env → S → Prop} {P : Pk} {ρ : Env} {s : S}
@[simp] theorem oIx_l {l : List W} {i : Int} : oIx (some (.lst l)) (.int i) s = vI (atI l i) s := rfl
@[simp] theorem oIx_d {l : List (W × W)} {k : W} : oIx (some (.dct l)) k s = vI (dget l k) s := by unfold oIx; rfl
@[simp] theorem ix_ref {a : Nat} {k : W} : ixV (.ref a) k s = oIx (s.at_ a) k s := by
  unfold ixV oIx
  simp only
  rcases s.at_ a with _ | o
  · rfl
  · cases o <;> first | rfl | (cases k <;> first | rfl | (simp only; rename_i l i; cases atI l i <;> rfl)) | (simp only; rename_i l; cases dget l k <;> rfl)
@[simp] theorem ix_tup {l : List W} {i : Int} : ixV (.tup l) (.int i) s = vI (atI l i) s := by
  unfold ixV
  simp only
  cases atI l i <;> rfl
@[simp] theorem ix_lst {l : List W} {i : Int} : ixV (.lst l) (.int i) s = vI (atI l i) s := by
  unfold ixV
  simp only
  cases atI l i <;> rfl
@[simp] theorem ix_dct {ks : List Key} {l : List W} {k : W} : ixV (.dct ks l) k s = vI (dget (List.zip (ks.map kW) l) k) s := by
  unfold ixV
  cases k <;> simp only <;> (cases dget (List.zip (ks.map kW) l) _ <;> rfl)
@[simp] theorem dget_c {k v x : W} {r : List (W × W)} : dget ((k, v) :: r) x = if k = x then some v else dget r x := rfl
@[simp] theorem dget_n {x : W} : dget [] x = none := rfl
@[simp] theorem kW_i {i : Int} : kW (.inl i) = .int i := rfl
@[simp] theorem kW_s {x : Str} : kW (.inr x) = .str x := rfl
@[simp] theorem lookup_p {β : Type} {k a : Str} {b : β} {l : List (Str × β)} : List.lookup k ((a, b) :: l) = if k = a then some b else List.lookup k l := by
  rw [List.lookup_cons]
  by_cases h : k = a
  · rw [if_pos h]; simp [h]
  · rw [if_neg h]
    have : (k == a) = false := by simpa using h
    rw [this]
@[simp] theorem lookup_n {β : Type} {k : Str} : List.lookup k ([] : List (Str × β)) = none := rfl
def oFld (cs : List Str) (f : Str) : Option O → S → Out W
  | some (.ins c fs), s => gB (decide (c ∈ cs)) (vI (fs.lookup f) s)
  | _, _ => .bad
@[simp] theorem oFld_i {cs : List Str} {f c : Str} {fs : List (Str × W)} : oFld cs f (some (.ins c fs)) s = gB (decide (c ∈ cs)) (vI (fs.lookup f) s) := rfl
@[simp] theorem eFld_p {cs : List Str} {f : Str} {a : E} : eFld cs f a ρ s = (a ρ s).bind (fldV cs f) := rfl
@[simp] theorem fld_ref {cs : List Str} {f : Str} {a : Nat} : fldV cs f (.ref a) s = oFld cs f (s.at_ a) s := by
  unfold fldV oFld gB
  simp only
  rcases s.at_ a with _ | o
  · rfl
  · cases o <;> first | rfl | (simp only [decide_eq_true_eq]; rename_i c fs; cases fs.lookup f <;> rfl)
/-! ### stores -/
def oSet (o : Option O) (i w : W) (a : Nat) (s : S) : Option S := match o with
  | some (.lst l) => match i with
    | .int k => match ixN l.length k with
      | some j => some (s.set a (.lst (l.set j w)))
      | none => none
    | _ => none
  | some (.dct l) => if isKey i = true ∧ l.length < szL then some (s.set a (.dct (dput l i w))) else none
  | _ => none
@[simp] theorem set_ref {a : Nat} {i w : W} {l : List O} : setV (.ref a) i w (Hl l) = oSet l[a]? i w a (Hl l) := by
  unfold setV oSet
  simp only [Hl_lk, List.not_mem_nil, if_false]
  rfl
def jSet (j : Option Nat) (l : List W) (w : W) (a : Nat) (s : S) : Option S := match j with
  | some j => some (s.set a (.lst (l.set j w)))
  | none => none
@[simp] theorem jSet_s {j : Nat} {l : List W} {w : W} {a : Nat} : jSet (some j) l w a s = some (s.set a (.lst (l.set j w))) := rfl
@[simp] theorem oSet_l {l : List W} {k : Int} {w : W} {a : Nat} : oSet (some (.lst l)) (.int k) w a s = jSet (ixN l.length k) l w a s := rfl
theorem ixN_nat {n k : Nat} (h : k < n) : ixN n (k : Int) = some k := by
  unfold ixN
  rw [if_pos (by omega), if_pos (by omega)]; rfl
@[simp] theorem ixN_0 {n : Nat} : ixN (n + 1) 0 = some 0 := ixN_nat (k := 0) (by omega)
@[simp] theorem ixN_1 {n : Nat} : ixN (n + 2) 1 = some 1 := ixN_nat (k := 1) (by omega)
@[simp] theorem ixN_2 {n : Nat} : ixN (n + 3) 2 = some 2 := ixN_nat (k := 2) (by omega)
@[simp] theorem okS_s : okS ρ (some s) = .nx ρ s := rfl
@[simp] theorem gIx_p {o i : E} {w : W} : gIx o i w ρ s = (o ρ s).bindS fun x s1 => (i ρ s1).bindS fun y s2 => okS ρ (setV x y w s2) := rfl
@[simp] theorem bodyM_P {n : Nat} {b : B} {ws : List W} : Pe (bodyM n b ws s) Q X = Ps (b (env0 n ws) s) (fun _ s => Q .non s) ⟨Q, fun _ _ => False, fun _ _ => False, X⟩ := by
  unfold bodyM
  cases b (env0 n ws) s <;> rfl
@[simp] theorem env0_p {n : Nat} {ws : List W} : env0 n ws = ws.map some ++ List.replicate (n - ws.length) none := rfl
end
/-! ### the dice -/
abbrev Dice : Type := Int × Int × Int
def dO (D : Dice) : O := .lst [.int D.1, .int D.2.1, .int D.2.2]
def rollP : Nat → Dice → Int → Int × Dice
  | 0, D, _ => (0, D)
  | d + 1, D, m => if D.2.2 = 2 ∨ (D.2.2 = 1 ∧ 0 < D.1) then (D.1 % m, (D.1 / m, D.2.1, D.2.2)) else
    if 100000000 < m then
      (((rollP d (D.1, D.2.1, 0) (m / 100000000 + 1)).1 * 100000000 + (rollP d (rollP d (D.1, D.2.1, 0) (m / 100000000 + 1)).2 100000000).1) % m, (rollP d (rollP d (D.1, D.2.1, 0) (m / 100000000 + 1)).2 100000000).2)
    else (((D.1 * 48271 + D.2.1 * 69621 + 11) % 2147483647) / 7 % m, ((D.1 * 48271 + D.2.1 * 69621 + 11) % 2147483647, D.2.1 + 1, 0))
theorem rollP_ge {d : Nat} {D : Dice} {m : Int} (h : 0 < m) : 0 ≤ (rollP d D m).1 := by
  cases d with
  | zero => exact Int.le_refl 0
  | succ d =>
    unfold rollP
    split
    · exact Int.emod_nonneg _ (by omega)
    · split <;> exact Int.emod_nonneg _ (by omega)
theorem rollP_lt {d : Nat} {D : Dice} {m : Int} (h : 0 < m) : (rollP d D m).1 < m := by
  cases d with
  | zero => exact h
  | succ d =>
    unfold rollP
    split
    · exact Int.emod_lt_of_pos _ h
    · split <;> exact Int.emod_lt_of_pos _ h
theorem Pe.eq {α : Type} {o : Out α} {v : α} {t : S} (h : Pe o (fun a s' => a = v ∧ s' = t) (fun _ _ => False)) : o = .ok v t := by
  cases o with
  | ok a s => obtain ⟨rfl, rfl⟩ := h; rfl
  | ex c s => exact h.elim
  | bad => exact h.elim
theorem Br.intro {c : Bool} {A B : Prop} (h1 : c = true → A) (h2 : c = false → B) : Br c A B := ⟨h1, h2⟩
@[simp] theorem eqI {i j : Int} {s : S} : eqV (.int i) (.int j) s = .ok (.bl (decide (i = j))) s := by
  show (Out.ok (W.bl (PyData.eqv (.int i) (.int j))) s) = _
  congr 2
theorem dO_eq {D : Dice} : dO D = .lst [.int D.1, .int D.2.1, .int D.2.2] := rfl
theorem roll_eq {r : List O} : ∀ (d : Nat) (D : Dice) (m : Int), 0 < m → m < 1073741824 → (m ≤ 100000000 ∨ 0 < d) → rollM (d + 1) [.ref 0, .int m] (Hl (dO D :: r)) = .ok (.int (rollP (d + 1) D m).1) (Hl (dO (rollP (d + 1) D m).2 :: r)) := by
  intro d
  induction d with
  | zero =>
    intro D m h h2 h3
    apply Pe.eq
    generalize hR : rollP (0 + 1) D m = R
    unfold rollP at hR
    have ns : ¬ 100000000 < m := by omega
    rw [if_neg ns] at hR
    unfold rollM
    simp [dO_eq]
    refine .intro (fun c => ?_) (fun c => .intro (fun c2 => .intro (fun c3 => ?_) (fun c3 => ?_)) (fun c2 => ?_))
    · have c := of_decide_eq_true c
      rw [if_pos (.inl c)] at hR
      subst hR
      exact ⟨h, ⟨h, h2⟩, rfl, rfl⟩
    · have c2 := of_decide_eq_true c2
      have c3 := of_decide_eq_true c3
      rw [if_pos (.inr ⟨c2, c3⟩)] at hR
      subst hR
      exact ⟨h, ⟨h, h2⟩, rfl, rfl⟩
    all_goals
      have c := of_decide_eq_false c
      rw [if_neg (fun z => z.elim c fun z => by simp [z.1, z.2] at *)] at hR
      subst hR
      refine .intro (fun z => absurd (of_decide_eq_true z) ns) fun _ => ⟨mulOk_r (by decide), mulOk_r (by decide), h, rfl, rfl⟩
  | succ d ih =>
    intro D m h h2 h3
    apply Pe.eq
    generalize hR : rollP (d + 1 + 1) D m = R
    unfold rollP at hR
    unfold rollM
    simp [dO_eq]
    refine .intro (fun c => ?_) (fun c => .intro (fun c2 => .intro (fun c3 => ?_) (fun c3 => ?_)) (fun c2 => ?_))
    · have c := of_decide_eq_true c
      rw [if_pos (.inl c)] at hR
      subst hR
      exact ⟨h, ⟨h, h2⟩, rfl, rfl⟩
    · have c2 := of_decide_eq_true c2
      have c3 := of_decide_eq_true c3
      rw [if_pos (.inr ⟨c2, c3⟩)] at hR
      subst hR
      exact ⟨h, ⟨h, h2⟩, rfl, rfl⟩
    all_goals
      have c := of_decide_eq_false c
      rw [if_neg (fun z => z.elim c fun z => by simp [z.1, z.2] at *)] at hR
      refine .intro (fun z => ?_) fun z => ?_
      · have z := of_decide_eq_true z
        rw [if_pos z] at hR
        have e1 := ih (D.1, D.2.1, 0) (m / 100000000 + 1) (by omega) (by omega) (.inl (by omega))
        simp only [dO_eq] at e1
        rw [e1]
        generalize rollP (d + 1) (D.1, D.2.1, 0) (m / 100000000 + 1) = R1 at hR
        obtain ⟨v1, D1⟩ := R1
        have e2 := ih D1 100000000 (by omega) (by omega) (.inl (by omega))
        simp only [dO_eq] at e2
        simp [e2]
        subst hR
        exact ⟨mulOk_r (by decide), h, rfl, rfl⟩
      · rw [if_neg (of_decide_eq_false z)] at hR
        subst hR
        exact ⟨mulOk_r (by decide), mulOk_r (by decide), h, rfl, rfl⟩
def roN (D : Dice) (m : Int) : Int := (rollP 3 D m).1
def roD (D : Dice) (m : Int) : Dice := (rollP 3 D m).2
@[simp] theorem roll3 {r : List O} {D : Dice} {m : Int} (h : 0 < m) (h2 : m < 1073741824) : rollM 3 [.ref 0, .int m] (Hl (dO D :: r)) = .ok (.int (roN D m)) (Hl (dO (roD D m) :: r)) := roll_eq 2 D m h h2 (.inr (by decide))
theorem roN_ge {D : Dice} {m : Int} (h : 0 < m) : 0 ≤ roN D m := rollP_ge h
theorem roN_lt {D : Dice} {m : Int} (h : 0 < m) : roN D m < m := rollP_lt h
/-! ### the first cell's dice -/
theorem dice_eq (c : Int) : ∃ D, diceM [.int c] (Hl []) = .ok (.ref 0) (Hl [dO D]) := by
  by_cases h : -10 < c ∧ c < 10
  · refine ⟨(c.natAbs, 0, 2), Pe.eq ?_⟩
    unfold diceM dice_b
    simp [h.1, h.2, dO_eq]
  · refine ⟨(c, 1 + c % 1009, if 10 ^ 18 ≤ c then 1 else 0), Pe.eq ?_⟩
    unfold diceM dice_b
    simp [dO_eq, powV]
    exact .intro (fun a => .intro (fun b => absurd ⟨of_decide_eq_true a, of_decide_eq_true b⟩ h) fun _ => trivial) fun _ => trivial
theorem cut1 {α : Type} {l : List α} : cutW l none (some 1) = l.take 1 := by
  unfold cutW
  have h : HT.sIx l.length l.length (some ((1 : Nat) : Int)) = min 1 l.length := HT.sIx_nat _ _ 1
  rw [show (some (1 : Int)) = some ((1 : Nat) : Int) from rfl, h, HT.sIx_none, Nat.sub_zero, List.drop_zero]
  cases l with
  | nil => rfl
  | cons x t => simp
theorem rounds_eq (ns : List Int) : ∃ D, roundsF (ns.map W.int) 1 (Hl []) = .ok (.lst [.ref 0]) (Hl [dO D]) := by
  have go : ∀ c : Int, ∃ D, roundsM rounds_b [.int c] 1 (Hl []) = .ok (.lst [.ref 0]) (Hl [dO D]) := fun c => by
    obtain ⟨D, e⟩ := dice_eq c
    refine ⟨D, ?_⟩
    have e2 : rounds_b [none, some (.int 1), some (.lst ([W.int c].take 1)), none] (Hl []) = .rt (.lst [.ref 0]) (Hl [dO D]) := by
      show ((bRet (eLc true (iE (eVar 2)) [3] (gN 3) (tYesW) (eCall diceM (eCons (eVar 3) (eNil)))) [none, some (.int 1), some (.lst [.int c]), none] (Hl [])).then _) = _
      show ((Out.bindS (Out.bind (lcLoop (itS [.int c]) (gN 3) tYesW (eCall diceM (eCons (eVar 3) eNil)) [none, some (.int 1), some (.lst [.int c]), none] 2 0 [] (Hl [])) _) _).then _) = _
      have e3 : lcLoop (itS [.int c]) (gN 3) tYesW (eCall diceM (eCons (eVar 3) eNil)) [none, some (.int 1), some (.lst [.int c]), none] 2 0 [] (Hl []) = .ok [.ref 0] (Hl [dO D]) := by
        show (match diceM [.int c] (Hl []) with
          | .ok y s3 => if [].length < PySem.sizeLine then lcLoop (itS [.int c]) (gN 3) tYesW (eCall diceM (eCons (eVar 3) eNil)) [none, some (.int 1), some (.lst [.int c]), none] 1 1 ([] ++ [y]) s3 else .bad
          | _ => .bad) = _
        rw [e]
        simp only [List.length_nil]
        rw [if_pos (by decide)]
        rfl
      rw [e3]
      rfl
    unfold roundsM
    rw [cut1, e2]
  cases ns with
  | nil =>
    obtain ⟨D, e⟩ := go 0
    refine ⟨D, ?_⟩
    rw [← e]
    rfl
  | cons n t =>
    obtain ⟨D, e⟩ := go n
    refine ⟨D, ?_⟩
    rw [← e]
    show roundsM rounds_b (W.int n :: t.map W.int) 1 (Hl []) = _
    unfold roundsM
    rw [cut1, cut1]
    rfl
def isT : Out W → Bool
  | .ok (.bl true) _ => true
  | _ => false
theorem fresh_ok {pM : List W → M W} (h : isT (pM [] S0) = true) (s : S) : fresh0 pM [] s = .ok (.bl true) s := by
  unfold fresh0
  unfold isT at h
  split at h
  · rename_i e; rw [e]
  · cases h
/-- the law's walk: its body never ends the law -/
def BodyOk (b : B) (ρ : Env) : Prop := ∀ D : Dice, Ps (b ρ (Hl [dO D])) (fun _ _ => True) ⟨fun _ _ => False, fun _ _ => True, fun _ _ => False, fun _ _ => False⟩
theorem loop1 {b : B} {jd : Nat} {ρ : Env} {D : Dice} (h : BodyOk b (ρ.set jd (some (.ref 0)))) : ∃ ρ' s', fLoop (itS [.ref 0]) (gN jd) b 2 0 ρ (Hl [dO D]) = .nx ρ' s' := by
  have h := h D
  show ∃ ρ' s', (match b (ρ.set jd (some (.ref 0))) (Hl [dO D]) with
      | .nx ρ' s' => fLoop (itS [.ref 0]) (gN jd) b 1 1 ρ' s'
      | .ct ρ' s' => fLoop (itS [.ref 0]) (gN jd) b 1 1 ρ' s'
      | .bk ρ' s' => .nx ρ' s'
      | o => o) = .nx ρ' s'
  cases e : b (ρ.set jd (some (.ref 0))) (Hl [dO D]) with
  | nx ρ1 s1 => exact ⟨ρ1, s1, rfl⟩
  | ct ρ1 s1 => exact ⟨ρ1, s1, rfl⟩
  | bk ρ1 s1 => exact ⟨ρ1, s1, rfl⟩
  | rt w s1 => rw [e] at h; exact h.elim
  | ex c s1 => rw [e] at h; exact h.elim
  | bad => rw [e] at h; exact h.elim
theorem law_true {b : B} {pM : List W → M W} {n : Nat} (hp : isT (pM [] S0) = true) (hb : BodyOk b ((List.replicate n none).set 1 (some (.ref 0)))) (ns : List Int) : LawTrue (lawM roundsF b (fresh0 pM) n) ns := by
  obtain ⟨D, e⟩ := rounds_eq ns
  obtain ⟨ρ', s', e2⟩ := loop1 (D := D) hb
  refine ⟨s', ?_⟩
  rw [S0_eq]
  unfold lawM
  rw [e]
  simp only [List.length_cons, List.length_nil]
  rw [e2]
  exact fresh_ok hp s'
theorem law_trueP {b : B} {me : E} {j0 jd : Nat} {pM : List W → M W} {n : Nat} {w0 : W} (hm : me (List.replicate n none) (Hl []) = .ok w0 (Hl [])) (hp : isT (pM [] S0) = true) (hb : BodyOk b (((List.replicate n none).set j0 (some w0)).set jd (some (.ref 0)))) (ns : List Int) : LawTrue (lawMP roundsF me j0 jd b (fresh0 pM) n) ns := by
  obtain ⟨D, e⟩ := rounds_eq ns
  obtain ⟨ρ', s', e2⟩ := loop1 (D := D) hb
  refine ⟨s', ?_⟩
  rw [S0_eq]
  unfold lawMP
  rw [hm]
  simp only
  rw [e]
  simp only [List.length_cons, List.length_nil]
  rw [e2]
  exact fresh_ok hp s'
end RS
set_option Elab.async false
set_option linter.all false
set_option maxRecDepth 100000
set_option maxHeartbeats 1000000
set_option autoImplicit false
/-! RS.P2: loops, comprehensions. -/
namespace RS
open PySem L2
abbrev XF : Str → S → Prop := fun _ _ => False
abbrev PF : Pk := ⟨fun _ _ => False, fun _ _ => False, fun _ _ => False, XF⟩
theorem Ps.nx_of {o : OutS} {N : Env → S → Prop} (h : Ps o N PF) : ∃ ρ s, o = .nx ρ s ∧ N ρ s := by
  cases o <;> first | exact ⟨_, _, rfl, h⟩ | exact h.elim
theorem Pe.ok_of {α : Type} {o : Out α} {Q : α → S → Prop} (h : Pe o Q XF) : ∃ a s, o = .ok a s ∧ Q a s := by
  cases o <;> first | exact ⟨_, _, rfl, h⟩ | exact h.elim
section
variable {α : Type} {Q : W → S → Prop} {X : Str → S → Prop} {N : Env → S → Prop} {P : Pk} {ρ : Env} {s : S}
/-! ### for -/
@[simp] theorem bFor_P {m : It'} {g : G} {b : B} : Ps (bFor m g b ρ s) N P = Pe (m ρ s) (fun p s1 => Ps (fLoop p g b (p.n + 1) 0 ρ s1) N P) P.x := by
  unfold bFor
  rw [Ps_bindS]
@[simp] theorem iRg_p {es : Es} : iRg es ρ s = (es ρ s).bind rngI := rfl
@[simp] theorem rng1 {j : Int} : rngI [.int j] s = gB (b62 j) (.ok (itR 0 1 j.toNat) s) := rfl
@[simp] theorem rng2 {i j : Int} : rngI [.int i, .int j] s = gB (b62 i && b62 j) (.ok (itR i 1 (j - i).toNat) s) := by
  unfold rngI gB
  simp only [Bool.and_eq_true]
theorem b62_of {j : Int} (h1 : -(2 ^ 62) ≤ j) (h2 : j < 2 ^ 62) : b62 j = true := decide_eq_true ⟨h1, h2⟩
@[simp] theorem itR_n {lo c : Int} {n : Nat} : (itR lo c n).n = n := rfl
@[simp] theorem itS_n {l : List W} : (itS l).n = l.length := rfl
/-- any walk, by what holds ahead of each turn -/
theorem for_gen {p : PIt} {g : G} {b : B} {n : Nat} (I : Nat → Env → S → Prop)
    (hs : ∀ k, k < n → ∀ ρ s, I k ρ s → ∃ w, p.at' k s = some (some w) ∧ Ps ((g w ρ s).g) (fun ρ1 s1 => Ps (b ρ1 s1) (I (k + 1)) { P with k := I (k + 1), b := N }) P) (he : ∀ ρ s, I n ρ s → p.at' n s = some none ∧ N ρ s) :
    ∀ (j k f : Nat) (ρ : Env) (s : S), k + j = n → j < f → I k ρ s → Ps (fLoop p g b f k ρ s) N P
  | 0, k, 0, _, _, _, h, _ => absurd h (Nat.not_lt_zero _)
  | 0, k, f + 1, ρ, s, h1, h2, h3 => by
    rw [Nat.add_zero] at h1
    subst h1
    obtain ⟨e, q⟩ := he ρ s h3
    unfold fLoop
    rw [e]
    exact q
  | j + 1, k, 0, _, _, _, h, _ => absurd h (Nat.not_lt_zero _)
  | j + 1, k, f + 1, ρ, s, h1, h2, h3 => by
    obtain ⟨w, e, q⟩ := hs k (by omega) ρ s h3
    unfold fLoop
    rw [e]
    simp only [Ps_then]
    cases eg : (g w ρ s).g with
    | nx ρ1 s1 =>
      rw [eg] at q
      have q : Ps (b ρ1 s1) (I (k + 1)) { P with k := I (k + 1), b := N } := q
      show Ps (match b ρ1 s1 with
        | .nx ρ' s' => fLoop p g b f (k + 1) ρ' s'
        | .ct ρ' s' => fLoop p g b f (k + 1) ρ' s'
        | .bk ρ' s' => .nx ρ' s'
        | o => o) N P
      cases eb : b ρ1 s1 with
      | nx ρ2 s2 => rw [eb] at q; exact for_gen I hs he j (k + 1) f ρ2 s2 (by omega) (by omega) q
      | ct ρ2 s2 => rw [eb] at q; exact for_gen I hs he j (k + 1) f ρ2 s2 (by omega) (by omega) q
      | bk ρ2 s2 => rw [eb] at q; exact q
      | rt _ _ => rw [eb] at q; exact q
      | ex _ _ => rw [eb] at q; exact q
      | bad => rw [eb] at q; exact q
    | ct _ _ => rw [eg] at q; exact q
    | bk _ _ => rw [eg] at q; exact q
    | rt _ _ => rw [eg] at q; exact q
    | ex _ _ => rw [eg] at q; exact q
    | bad => rw [eg] at q; exact q
theorem for_rng {i f : Nat} {b : B} {n : Nat} (I : Nat → Env → S → Prop) (hf : n < f) (h0 : I 0 ρ s)
    (hs : ∀ k, k < n → ∀ ρ s, I k ρ s → Ps (b (ρ.set i (some (.int k))) s) (I (k + 1)) { P with k := I (k + 1), b := N }) (he : ∀ ρ s, I n ρ s → N ρ s) : Ps (fLoop (itR 0 1 n) (gN i) b f 0 ρ s) N P :=
  for_gen (p := itR 0 1 n) (g := gN i) (b := b) (n := n) I (fun k hk ρ s h => ⟨.int k, by
    show some (if k < n then some (W.int (0 + (k : Nat) * 1)) else none) = _
    rw [if_pos hk]
    congr 3
    omega, hs k hk ρ s h⟩) (fun ρ s h => ⟨by
    show some (if n < n then some (W.int (0 + (n : Nat) * 1)) else none) = _
    rw [if_neg (by omega)], he ρ s h⟩) n 0 f ρ s (by omega) hf h0
theorem for_lst {g : G} {b : B} {l : List W} {f : Nat} (I : Nat → Env → S → Prop) (hf : l.length < f) (h0 : I 0 ρ s)
    (hs : ∀ (k : Nat) (w : W), l[k]? = some w → ∀ ρ s, I k ρ s → Ps ((g w ρ s).g) (fun ρ1 s1 => Ps (b ρ1 s1) (I (k + 1)) { P with k := I (k + 1), b := N }) P) (he : ∀ ρ s, I l.length ρ s → N ρ s) : Ps (fLoop (itS l) g b f 0 ρ s) N P :=
  for_gen (p := itS l) (n := l.length) I (fun k hk ρ s h => ⟨l[k], by
    show some l[k]? = _
    rw [List.getElem?_eq_getElem hk], hs k _ (List.getElem?_eq_getElem hk) ρ s h⟩) (fun ρ s h => ⟨by
    show some l[l.length]? = _
    rw [List.getElem?_eq_none (by omega)], he ρ s h⟩) l.length 0 f ρ s (by omega) hf h0
/-! ### list comprehensions -/
@[simp] theorem eLc_P {v : Bool} {mi : It'} {own : List Nat} {g : G} {t : RS.T} {m : E} : Pe (eLc v mi own g t m ρ s) Q X = Pe (mi ρ s) (fun p s1 => Pe (lcLoop p g t m (wipeE ρ own) (p.n + 1) 0 [] s1) (fun ws s2 => Pe (mkL v ws s2) Q X) X) X := by
  unfold eLc
  rw [Pe_bind]
  refine Pe_q fun p s1 => ?_
  rw [Pe_bind]
/-- any list comprehension, by what holds ahead of each turn -/
theorem lc_gen {p : PIt} {g : G} {t : RS.T} {m : E} {ρ0 : Env} {n : Nat} {Q : List W → S → Prop} (I : Nat → List W → S → Prop) (hz : n < 16777216) (hI : ∀ k l s, I k l s → l.length ≤ k)
    (hs : ∀ k, k < n → ∀ acc s, I k acc s → ∃ w, p.at' k s = some (some w) ∧ Ps (g w ρ0 s) (fun ρ1 s1 => Pe (t ρ1 s1) (fun c s2 => (c = true → Pe (m ρ1 s2) (fun u s3 => I (k + 1) (acc ++ [u]) s3) XF) ∧ (c = false → I (k + 1) acc s2)) XF) PF) (he : ∀ acc s, I n acc s → p.at' n s = some none ∧ Q acc s) :
    ∀ (j k f : Nat) (acc : List W) (s : S), k + j = n → j < f → I k acc s → Pe (lcLoop p g t m ρ0 f k acc s) Q X
  | 0, k, 0, _, _, _, h, _ => absurd h (Nat.not_lt_zero _)
  | 0, k, f + 1, acc, s, h1, h2, h3 => by
    rw [Nat.add_zero] at h1
    subst h1
    obtain ⟨e, q⟩ := he acc s h3
    unfold lcLoop
    rw [e]
    exact q
  | j + 1, k, 0, _, _, _, h, _ => absurd h (Nat.not_lt_zero _)
  | j + 1, k, f + 1, acc, s, h1, h2, h3 => by
    obtain ⟨w, e, q⟩ := hs k (by omega) acc s h3
    unfold lcLoop
    rw [e]
    obtain ⟨ρ1, s1, eg, q⟩ := q.nx_of
    obtain ⟨c, s2, et, q1, q2⟩ := q.ok_of
    simp only [eg, et]
    cases c with
    | true =>
      obtain ⟨u, s3, em, q3⟩ := (q1 rfl).ok_of
      simp only [em]
      rw [if_pos (by have := hI _ _ _ h3; show acc.length < 2 ^ 24; omega)]
      exact lc_gen I hz hI hs he j (k + 1) f _ s3 (by omega) (by omega) q3
    | false => exact lc_gen I hz hI hs he j (k + 1) f _ s2 (by omega) (by omega) (q2 rfl)
/-- one that writes nothing, over a list that is told by a plain one -/
theorem lc_pure {α : Type} {p0 : PIt} {xs : List α} {g : G} {t : RS.T} {m : E} {ρ0 : Env} {Q : List W → S → Prop} {f : Nat} (enc : α → W) (hp0 : ∀ i, i ≤ xs.length → p0.at' i s = some (xs.map enc)[i]?) (p : α → Bool) (h : α → W) (hz : xs.length < 16777216) (hf : xs.length < f)
    (H : ∀ x ∈ xs, Ps (g (enc x) ρ0 s) (fun ρ1 s1 => Pe (t ρ1 s1) (fun c s2 => c = p x ∧ s2 = s ∧ (p x = true → Pe (m ρ1 s2) (fun u s3 => u = h x ∧ s3 = s) XF)) XF) PF) (q : Q ((xs.filter p).map h) s) :
    Pe (lcLoop p0 g t m ρ0 f 0 [] s) Q X := by
  refine lc_gen (p := p0) (n := xs.length) (fun k acc s' => s' = s ∧ acc = ((xs.take k).filter p).map h) hz (fun k l s' hh => ?_) (fun k hk acc s' hh => ?_) (fun acc s' hh => ?_) xs.length 0 _ [] s (by omega) hf ⟨rfl, rfl⟩
  · rw [hh.2, List.length_map]
    exact Nat.le_trans (List.length_filter_le _ _) (by rw [List.length_take]; omega)
  · obtain ⟨rfl, rfl⟩ := hh
    refine ⟨enc xs[k], by
      rw [hp0 k (by omega), List.getElem?_map, List.getElem?_eq_getElem hk]; rfl, ?_⟩
    have hx := H xs[k] (List.getElem_mem hk)
    obtain ⟨ρ1, s1, eg, q1⟩ := hx.nx_of
    rw [eg]
    obtain ⟨c, s2, et, rfl, rfl, q2⟩ := q1.ok_of
    show Pe (t ρ1 s1) _ _
    rw [et]
    have tk : xs.take (k + 1) = xs.take k ++ [xs[k]] := by rw [List.take_succ, List.getElem?_eq_getElem hk]; rfl
    refine ⟨fun z => ?_, fun z => ⟨rfl, ?_⟩⟩
    · obtain ⟨u, s3, em, rfl, rfl⟩ := (q2 z).ok_of
      rw [em]
      refine ⟨rfl, ?_⟩
      rw [tk, List.filter_append, List.map_append, List.filter_cons_of_pos z]
      rfl
    · rw [tk, List.filter_append, List.map_append, List.filter_cons_of_neg (by rw [z]; decide)]
      simp
  · obtain ⟨rfl, rfl⟩ := hh
    refine ⟨by
      rw [hp0 _ (Nat.le_refl _), List.getElem?_eq_none (by rw [List.length_map]; omega)], ?_⟩
    rw [List.take_length]
    exact q
end
end RS
set_option Elab.async false
set_option linter.all false
set_option maxRecDepth 100000
set_option maxHeartbeats 1000000
set_option autoImplicit false
/-! RS.P3: generator expressions. -/
namespace RS
open PySem L2
/-- one turn of a generator that writes nothing: J what is known of its names -/
def GTurn (g : G) (t : RS.T) (m : E) (J : Env → Prop) (s : S) (w : W) (c : Bool) (v : W) : Prop := ∀ ρ, J ρ → Ps (g w ρ s) (fun ρ1 s1 => Pe (t ρ1 s1) (fun b s2 => b = c ∧ s2 = s ∧ J ρ1 ∧ (c = true → Pe (m ρ1 s2) (fun u s3 => u = v ∧ s3 = s) XF)) XF) PF
section
variable {α : Type} {Q : W → S → Prop} {X : Str → S → Prop} {N : Env → S → Prop} {P : Pk} {ρ : Env} {s : S}
variable {g : G} {t : RS.T} {m : E} {J : Env → Prop} {l : List W} {p0 : PIt}
theorem gNext_skip {w v : W} {i f : Nat} (e : p0.at' i s = some (some w)) (h : GTurn g t m J s w false v) (hj : J ρ) : ∃ ρ1, J ρ1 ∧ gNext p0 g t m (f + 1) i ρ s = gNext p0 g t m f (i + 1) ρ1 s := by
  obtain ⟨ρ1, s1, eg, q1⟩ := (h ρ hj).nx_of
  obtain ⟨c, s2, et, rfl, rfl, hj1, q2⟩ := q1.ok_of
  refine ⟨ρ1, hj1, ?_⟩
  conv => lhs; unfold gNext
  rw [e]
  simp only [eg, et]
theorem gNext_hit {w v : W} {i f : Nat} (e : p0.at' i s = some (some w)) (h : GTurn g t m J s w true v) (hj : J ρ) : ∃ ρ1, J ρ1 ∧ gNext p0 g t m (f + 1) i ρ s = .y v f (i + 1) ρ1 s := by
  obtain ⟨ρ1, s1, eg, q1⟩ := (h ρ hj).nx_of
  obtain ⟨c, s2, et, rfl, rfl, hj1, q2⟩ := q1.ok_of
  obtain ⟨u, s3, em, rfl, e3⟩ := (q2 rfl).ok_of
  subst e3
  refine ⟨ρ1, hj1, ?_⟩
  unfold gNext
  rw [e]
  simp only [eg, et, em]
theorem gNext_stop {i f : Nat} (e : p0.at' i s = some none) : gNext p0 g t m (f + 1) i ρ s = .stop s := by
  unfold gNext
  rw [e]
variable {enc : α → W}
/-- what a generator's walk gives: from the place i on, the rest xs -/
theorem gAny_pure {b0 : Bool} {p b : α → Bool} (hp0 : ∀ i, i ≤ l.length → p0.at' i s = some l[i]?) : ∀ (xs : List α) (i : Nat) (ρ : Env) (f q : Nat), i ≤ l.length → l.drop i = xs.map enc → (∀ x ∈ xs, GTurn g t m J s (enc x) (p x) (.bl (b x))) → J ρ → xs.length < f → xs.length < q →
    gAny b0 p0 g t m q (f, i, ρ, s) = .ok (.bl (if (xs.filter p).any (fun x => b x == b0) then b0 else !b0)) s
  | [], i, ρ, f, q, hil, hd, _, hj, hf, hq => by
    cases q with
    | zero => exact absurd hq (Nat.not_lt_zero _)
    | succ q => cases f with
      | zero => exact absurd hf (Nat.not_lt_zero _)
      | succ f =>
        have hi : l.length ≤ i := by
          have := congrArg List.length hd
          rw [List.length_drop, List.map_nil, List.length_nil] at this
          omega
        have hle : i ≤ l.length := hil
        unfold gAny
        have e : gNextD p0 g t m (f + 1, i, ρ, s) = .stop s := gNext_stop (by rw [hp0 i hle, List.getElem?_eq_none hi])
        rw [e]
        simp
  | x :: xs, i, ρ, f, q, hil, hd, hT, hj, hf, hq => by
    cases q with
    | zero => exact absurd hq (Nat.not_lt_zero _)
    | succ q => cases f with
      | zero => exact absurd hf (Nat.not_lt_zero _)
      | succ f =>
        have hi : l[i]? = some (enc x) := by
          have := congrArg (·[0]?) hd
          simpa using this
        have hd' : l.drop (i + 1) = xs.map enc := by
          have := congrArg (List.drop 1) hd
          rw [List.drop_drop] at this
          simpa [Nat.add_comm] using this
        have hi' : p0.at' i s = some (some (enc x)) := by rw [hp0 i hil, hi]
        have hil' : i + 1 ≤ l.length := by
          have := (List.getElem?_eq_some_iff.mp hi).1
          omega
        have hx := hT x List.mem_cons_self
        simp only [List.length_cons] at hf hq
        cases hp : p x with
        | false =>
          rw [hp] at hx
          obtain ⟨ρ1, hj1, e⟩ := gNext_skip (f := f) hi' hx hj
          have ih := gAny_pure (b0 := b0) hp0 xs (i + 1) ρ1 f (q + 1) hil' hd' (fun y hy => hT y (List.mem_cons_of_mem _ hy)) hj1 (by omega) (by omega)
          rw [List.filter_cons_of_neg (by rw [hp]; decide), ← ih]
          have e : gNextD p0 g t m (f + 1, i, ρ, s) = gNextD p0 g t m (f, i + 1, ρ1, s) := e
          unfold gAny
          rw [e]
        | true =>
          rw [hp] at hx
          obtain ⟨ρ1, hj1, e⟩ := gNext_hit (f := f) hi' hx hj
          have e : gNextD p0 g t m (f + 1, i, ρ, s) = .y (.bl (b x)) f (i + 1) ρ1 s := e
          rw [List.filter_cons_of_pos hp, List.any_cons]
          unfold gAny
          rw [e]
          simp only
          by_cases hb : b x = b0
          · rw [if_pos hb, hb]; simp
          · rw [if_neg hb, gAny_pure hp0 xs (i + 1) ρ1 f q hil' hd' (fun y hy => hT y (List.mem_cons_of_mem _ hy)) hj1 (by omega) (by omega)]
            have : (b x == b0) = false := by simpa using hb
            rw [this, Bool.false_or]
theorem gCol_pure {p : α → Bool} {h : α → W} (hp0 : ∀ i, i ≤ l.length → p0.at' i s = some l[i]?) : ∀ (xs : List α) (i : Nat) (ρ : Env) (f q : Nat) (acc : List W), i ≤ l.length → l.drop i = xs.map enc → (∀ x ∈ xs, GTurn g t m J s (enc x) (p x) (h x)) → J ρ → xs.length < f → xs.length < q →
    gCol p0 g t m q acc (f, i, ρ, s) = .ok (acc ++ (xs.filter p).map h) s
  | [], i, ρ, f, q, acc, hil, hd, _, hj, hf, hq => by
    cases q with
    | zero => exact absurd hq (Nat.not_lt_zero _)
    | succ q => cases f with
      | zero => exact absurd hf (Nat.not_lt_zero _)
      | succ f =>
        have hi : l.length ≤ i := by
          have := congrArg List.length hd
          rw [List.length_drop, List.map_nil, List.length_nil] at this
          omega
        have hle : i ≤ l.length := hil
        unfold gCol
        have e : gNextD p0 g t m (f + 1, i, ρ, s) = .stop s := gNext_stop (by rw [hp0 i hle, List.getElem?_eq_none hi])
        rw [e]
        simp
  | x :: xs, i, ρ, f, q, acc, hil, hd, hT, hj, hf, hq => by
    cases q with
    | zero => exact absurd hq (Nat.not_lt_zero _)
    | succ q => cases f with
      | zero => exact absurd hf (Nat.not_lt_zero _)
      | succ f =>
        have hi : l[i]? = some (enc x) := by
          have := congrArg (·[0]?) hd
          simpa using this
        have hd' : l.drop (i + 1) = xs.map enc := by
          have := congrArg (List.drop 1) hd
          rw [List.drop_drop] at this
          simpa [Nat.add_comm] using this
        have hi' : p0.at' i s = some (some (enc x)) := by rw [hp0 i hil, hi]
        have hil' : i + 1 ≤ l.length := by
          have := (List.getElem?_eq_some_iff.mp hi).1
          omega
        have hx := hT x List.mem_cons_self
        simp only [List.length_cons] at hf hq
        cases hp : p x with
        | false =>
          rw [hp] at hx
          obtain ⟨ρ1, hj1, e⟩ := gNext_skip (f := f) hi' hx hj
          have ih := gCol_pure hp0 xs (i + 1) ρ1 f (q + 1) acc hil' hd' (fun y hy => hT y (List.mem_cons_of_mem _ hy)) hj1 (by omega) (by omega)
          rw [List.filter_cons_of_neg (by rw [hp]; decide), ← ih]
          have e : gNextD p0 g t m (f + 1, i, ρ, s) = gNextD p0 g t m (f, i + 1, ρ1, s) := e
          unfold gCol
          rw [e]
        | true =>
          rw [hp] at hx
          obtain ⟨ρ1, hj1, e⟩ := gNext_hit (f := f) hi' hx hj
          have e : gNextD p0 g t m (f + 1, i, ρ, s) = .y (h x) f (i + 1) ρ1 s := e
          rw [List.filter_cons_of_pos hp, List.map_cons]
          unfold gCol
          rw [e]
          simp only
          rw [gCol_pure hp0 xs (i + 1) ρ1 f q _ hil' hd' (fun y hy => hT y (List.mem_cons_of_mem _ hy)) hj1 (by omega) (by omega), List.append_assoc]
          rfl
theorem gSum_pure {p : α → Bool} {h : α → Int} {B : Int} (hp0 : ∀ i, i ≤ l.length → p0.at' i s = some l[i]?) : ∀ (xs : List α) (i : Nat) (ρ : Env) (f q : Nat) (a : Int), i ≤ l.length → l.drop i = xs.map enc → (∀ x ∈ xs, GTurn g t m J s (enc x) (p x) (.int (h x))) → J ρ → xs.length < f → xs.length < q → 0 ≤ B → (∀ x ∈ xs, -B ≤ h x ∧ h x ≤ B) → B < 2 ^ 62 →
    -(2 ^ 62) ≤ a - B * (xs.length : Int) → a + B * (xs.length : Int) ≤ 2 ^ 62 → gSum p0 g t m q a (f, i, ρ, s) = .ok (.int (a + ((xs.filter p).map h).sum)) s
  | [], i, ρ, f, q, a, hil, hd, _, hj, hf, hq, _, _, _, _, _ => by
    cases q with
    | zero => exact absurd hq (Nat.not_lt_zero _)
    | succ q => cases f with
      | zero => exact absurd hf (Nat.not_lt_zero _)
      | succ f =>
        have hi : l.length ≤ i := by
          have := congrArg List.length hd
          rw [List.length_drop, List.map_nil, List.length_nil] at this
          omega
        have hle : i ≤ l.length := hil
        unfold gSum
        have e : gNextD p0 g t m (f + 1, i, ρ, s) = .stop s := gNext_stop (by rw [hp0 i hle, List.getElem?_eq_none hi])
        rw [e]
        simp
  | x :: xs, i, ρ, f, q, a, hil, hd, hT, hj, hf, hq, hB, hb, hB2, h1, h2 => by
    cases q with
    | zero => exact absurd hq (Nat.not_lt_zero _)
    | succ q => cases f with
      | zero => exact absurd hf (Nat.not_lt_zero _)
      | succ f =>
        have hi : l[i]? = some (enc x) := by
          have := congrArg (·[0]?) hd
          simpa using this
        have hd' : l.drop (i + 1) = xs.map enc := by
          have := congrArg (List.drop 1) hd
          rw [List.drop_drop] at this
          simpa [Nat.add_comm] using this
        have hi' : p0.at' i s = some (some (enc x)) := by rw [hp0 i hil, hi]
        have hil' : i + 1 ≤ l.length := by
          have := (List.getElem?_eq_some_iff.mp hi).1
          omega
        have hx := hT x List.mem_cons_self
        simp only [List.length_cons] at hf hq
        have bx := hb x List.mem_cons_self
        have hm : B * ((x :: xs).length : Int) = B * (xs.length : Int) + B := by
          rw [List.length_cons, Int.natCast_add, Int.mul_add]; simp
        rw [hm] at h1 h2
        have hpos : 0 ≤ B * (xs.length : Int) := Int.mul_nonneg hB (by omega)
        cases hp : p x with
        | false =>
          rw [hp] at hx
          obtain ⟨ρ1, hj1, e⟩ := gNext_skip (f := f) hi' hx hj
          have ih := gSum_pure hp0 xs (i + 1) ρ1 f (q + 1) a hil' hd' (fun y hy => hT y (List.mem_cons_of_mem _ hy)) hj1 (by omega) (by omega) hB (fun y hy => hb y (List.mem_cons_of_mem _ hy)) hB2 (by omega) (by omega)
          rw [List.filter_cons_of_neg (by rw [hp]; decide), ← ih]
          have e : gNextD p0 g t m (f + 1, i, ρ, s) = gNextD p0 g t m (f, i + 1, ρ1, s) := e
          unfold gSum
          rw [e]
        | true =>
          rw [hp] at hx
          obtain ⟨ρ1, hj1, e⟩ := gNext_hit (f := f) hi' hx hj
          have e : gNextD p0 g t m (f + 1, i, ρ, s) = .y (.int (h x)) f (i + 1) ρ1 s := e
          rw [List.filter_cons_of_pos hp, List.map_cons, List.sum_cons]
          unfold gSum
          rw [e]
          simp only [numW]
          have c1 : inL (h x) = true := by
            unfold inL
            rw [Bool.and_eq_true, decide_eq_true_eq, decide_eq_true_eq]
            omega
          have c2 : inL (a + h x) = true := by
            unfold inL
            rw [Bool.and_eq_true, decide_eq_true_eq, decide_eq_true_eq]
            omega
          rw [if_pos ⟨c1, c2⟩, gSum_pure hp0 xs (i + 1) ρ1 f q _ hil' hd' (fun y hy => hT y (List.mem_cons_of_mem _ hy)) hj1 (by omega) (by omega) hB (fun y hy => hb y (List.mem_cons_of_mem _ hy)) hB2 (by omega) (by omega), Int.add_assoc]
/-! ### as steps -/
/-- the names but these are as they were -/
def Same (L : List Nat) (ρ0 ρ : Env) : Prop := ρ.length = ρ0.length ∧ ∀ j, j ∉ L → ρ[j]? = ρ0[j]?
theorem Same.refl {L : List Nat} {ρ0 : Env} : Same L ρ0 ρ0 := ⟨rfl, fun _ _ => rfl⟩
theorem Same.set {L : List Nat} {ρ0 ρ : Env} (h : Same L ρ0 ρ) {i : Nat} {x : Option W} (hi : i ∈ L) : Same L ρ0 (ρ.set i x) := ⟨by rw [List.length_set]; exact h.1, fun j hj => by
  rw [List.getElem?_set_ne (fun e : i = j => hj (by rw [← e]; exact hi))]; exact h.2 j hj⟩
@[simp] theorem Same_set {L : List Nat} {ρ0 ρ : Env} {i : Nat} {x : Option W} (hi : i ∈ L) : Same L ρ0 (ρ.set i x) = Same L ρ0 ρ := propext ⟨fun h => ⟨by have := h.1; rw [List.length_set] at this; exact this, fun j hj => by
  have := h.2 j hj
  rw [List.getElem?_set_ne (fun e : i = j => hj (by rw [← e]; exact hi))] at this
  exact this⟩, fun h => h.set hi⟩
theorem Same.get {L : List Nat} {ρ0 ρ : Env} (h : Same L ρ0 ρ) (j : Nat) (hj : j ∉ L := by decide) : ρ[j]? = ρ0[j]? := h.2 j hj
theorem set_get {ρ : Env} {i j : Nat} {x : Option W} : (ρ.set i x)[j]? = if i = j then (if i < ρ.length then some x else none) else ρ[j]? := by
  rw [List.getElem?_set]
@[simp] theorem eAny_P {b0 : Bool} {mi : It'} {own : List Nat} : Pe (eAny b0 mi own g t m ρ s) Q X = Pe (mi ρ s) (fun p s1 => Pe (gAny b0 p g t m (p.n + 1) (p.n + 1, 0, wipeE ρ own, s1)) Q X) X := by
  unfold eAny
  rw [Pe_bind]
@[simp] theorem eSumG_P {mi : It'} {own : List Nat} : Pe (eSumG mi own g t m ρ s) Q X = Pe (mi ρ s) (fun p s1 => Pe (gSum p g t m (p.n + 1) 0 (p.n + 1, 0, wipeE ρ own, s1)) Q X) X := by
  unfold eSumG
  rw [Pe_bind]
@[simp] theorem eTupG_P {mi : It'} {own : List Nat} : Pe (eTupG mi own g t m ρ s) Q X = Pe (mi ρ s) (fun p s1 => Pe (gCol p g t m (p.n + 1) [] (p.n + 1, 0, wipeE ρ own, s1)) (fun ws s2 => ws.length ≤ 16777216 ∧ Q (.tup ws) s2) X) X := by
  unfold eTupG
  rw [Pe_bind]
  refine Pe_q fun p s1 => ?_
  rw [Pe_bind]
  refine Pe_q fun ws s2 => ?_
  by_cases h : ws.length ≤ szL
  · rw [if_pos h]; simp [show ws.length ≤ 16777216 from h]
  · rw [if_neg h]; simp; intro z; exact absurd z h
/-- the list's order, if it is told -/
def oL (v : Bool) (o : Option (List W)) (s : S) : Out W := match o with
  | some l => mkL v l s
  | none => .bad
@[simp] theorem oL_s {v : Bool} {l : List W} : oL v (some l) s = mkL v l s := rfl
@[simp] theorem eSortG_P {v : Bool} {mi : It'} {own : List Nat} : Pe (eSortG v mi own g t m ρ s) Q X = Pe (mi ρ s) (fun p s1 => Pe (gCol p g t m (p.n + 1) [] (p.n + 1, 0, wipeE ρ own, s1)) (fun ws s2 => ws.length ≤ 16777216 ∧ Pe (oL v (sortW s2 ws) s2) Q X) X) X := by
  unfold eSortG
  rw [Pe_bind]
  refine Pe_q fun p s1 => ?_
  rw [Pe_bind]
  refine Pe_q fun ws s2 => ?_
  by_cases h : ws.length ≤ szL
  · rw [if_pos h]; simp [show ws.length ≤ 16777216 from h]; cases sortW s2 ws <;> rfl
  · rw [if_neg h]; simp; intro z; exact absurd z h
theorem any_pure {xs : List α} {b0 : Bool} {ρ0 : Env} {f q : Nat} (enc : α → W) (hp0 : ∀ i, i ≤ xs.length → p0.at' i s = some (xs.map enc)[i]?) (p b : α → Bool) (J : Env → Prop) (hJ : J ρ0) (hf : xs.length < f) (hq : xs.length < q) (H : ∀ x ∈ xs, GTurn g t m J s (enc x) (p x) (.bl (b x))) (k : Q (.bl (if (xs.filter p).any (fun x => b x == b0) then b0 else !b0)) s) :
    Pe (gAny b0 p0 g t m q (f, 0, ρ0, s)) Q X := by
  rw [gAny_pure (p := p) (b := b) (l := xs.map enc) (by rw [List.length_map]; exact hp0) xs 0 ρ0 f q (by omega) rfl H hJ hf hq]
  exact k
theorem col_pure {xs : List α} {ρ0 : Env} {f q : Nat} {Q : List W → S → Prop} (enc : α → W) (hp0 : ∀ i, i ≤ xs.length → p0.at' i s = some (xs.map enc)[i]?) (p : α → Bool) (h : α → W) (J : Env → Prop) (hJ : J ρ0) (hf : xs.length < f) (hq : xs.length < q) (H : ∀ x ∈ xs, GTurn g t m J s (enc x) (p x) (h x)) (k : Q ((xs.filter p).map h) s) :
    Pe (gCol p0 g t m q [] (f, 0, ρ0, s)) Q X := by
  rw [gCol_pure (p := p) (h := h) (l := xs.map enc) (by rw [List.length_map]; exact hp0) xs 0 ρ0 f q [] (by omega) rfl H hJ hf hq]
  exact k
theorem sum_pure {xs : List α} {ρ0 : Env} {f q : Nat} (enc : α → W) (hp0 : ∀ i, i ≤ xs.length → p0.at' i s = some (xs.map enc)[i]?) (p : α → Bool) (h : α → Int) (B : Int) (J : Env → Prop) (hJ : J ρ0) (hf : xs.length < f) (hq : xs.length < q) (H : ∀ x ∈ xs, GTurn g t m J s (enc x) (p x) (.int (h x))) (hB : 0 ≤ B) (hb : ∀ x ∈ xs, -B ≤ h x ∧ h x ≤ B) (hB2 : B < 2 ^ 62) (hB3 : B * (xs.length : Int) ≤ 2 ^ 62)
    (k : Q (.int ((xs.filter p).map h).sum) s) : Pe (gSum p0 g t m q 0 (f, 0, ρ0, s)) Q X := by
  rw [gSum_pure (p := p) (h := h) (l := xs.map enc) (by rw [List.length_map]; exact hp0) xs 0 ρ0 f q 0 (by omega) rfl H hJ hf hq hB hb hB2 (by omega) (by omega), Int.zero_add]
  exact k
end
end RS
set_option Elab.async false
set_option linter.all false
set_option maxRecDepth 100000
set_option maxHeartbeats 1000000
set_option autoImplicit false
/-! RS.P4: equality of data; lists; instances. -/
namespace RS
open PySem L2
/-- whole numbers, texts, None, tuples and lists of such -/
def datB : Nat → W → Bool
  | 0, _ => false
  | n + 1, w => match w with
    | .non => true
    | .int _ => true
    | .str _ => true
    | .tup l => l.all (datB n)
    | .lst l => l.all (datB n)
    | _ => false
/-- the same, as a law for simp -/
def Dt (n : Nat) (w : W) : Prop := datB n w = true
def DtA (n : Nat) (l : List W) : Prop := ∀ x ∈ l, Dt n x
@[simp] theorem DtA_n {n : Nat} : DtA n [] := fun _ h => nomatch h
@[simp] theorem DtA_c {n : Nat} {w : W} {l : List W} : DtA n (w :: l) = (Dt n w ∧ DtA n l) := propext List.forall_mem_cons
@[simp] theorem DtA_a {n : Nat} {l m : List W} : DtA n (l ++ m) = (DtA n l ∧ DtA n m) := propext List.forall_mem_append
@[simp] theorem DtA_m {n : Nat} {α : Type} {f : α → W} {l : List α} : DtA n (l.map f) = ∀ x ∈ l, Dt n (f x) := propext List.forall_mem_map
@[simp] theorem Dt_n1 : Dt 1 .non := rfl
@[simp] theorem Dt_i1 {i : Int} : Dt 1 (.int i) := rfl
@[simp] theorem Dt_s1 {x : Str} : Dt 1 (.str x) := rfl
@[simp] theorem Dt_n2 : Dt 2 .non := rfl
@[simp] theorem Dt_i2 {i : Int} : Dt 2 (.int i) := rfl
@[simp] theorem Dt_s2 {x : Str} : Dt 2 (.str x) := rfl
@[simp] theorem Dt_t2 {l : List W} : Dt 2 (.tup l) = DtA 1 l := propext (List.all_eq_true (p := datB 1))
@[simp] theorem Dt_l2 {l : List W} : Dt 2 (.lst l) = DtA 1 l := propext (List.all_eq_true (p := datB 1))
@[simp] theorem Dt_n3 : Dt 3 .non := rfl
@[simp] theorem Dt_i3 {i : Int} : Dt 3 (.int i) := rfl
@[simp] theorem Dt_s3 {x : Str} : Dt 3 (.str x) := rfl
@[simp] theorem Dt_t3 {l : List W} : Dt 3 (.tup l) = DtA 2 l := propext (List.all_eq_true (p := datB 2))
@[simp] theorem Dt_l3 {l : List W} : Dt 3 (.lst l) = DtA 2 l := propext (List.all_eq_true (p := datB 2))
@[simp] theorem Dt_n4 : Dt 4 .non := rfl
@[simp] theorem Dt_i4 {i : Int} : Dt 4 (.int i) := rfl
@[simp] theorem Dt_s4 {x : Str} : Dt 4 (.str x) := rfl
@[simp] theorem Dt_t4 {l : List W} : Dt 4 (.tup l) = DtA 3 l := propext (List.all_eq_true (p := datB 3))
@[simp] theorem Dt_l4 {l : List W} : Dt 4 (.lst l) = DtA 3 l := propext (List.all_eq_true (p := datB 3))
@[simp] theorem Dt_n5 : Dt 5 .non := rfl
@[simp] theorem Dt_i5 {i : Int} : Dt 5 (.int i) := rfl
@[simp] theorem Dt_s5 {x : Str} : Dt 5 (.str x) := rfl
@[simp] theorem Dt_t5 {l : List W} : Dt 5 (.tup l) = DtA 4 l := propext (List.all_eq_true (p := datB 4))
@[simp] theorem Dt_l5 {l : List W} : Dt 5 (.lst l) = DtA 4 l := propext (List.all_eq_true (p := datB 4))
@[simp] theorem Dt_n6 : Dt 6 .non := rfl
@[simp] theorem Dt_i6 {i : Int} : Dt 6 (.int i) := rfl
@[simp] theorem Dt_s6 {x : Str} : Dt 6 (.str x) := rfl
@[simp] theorem Dt_t6 {l : List W} : Dt 6 (.tup l) = DtA 5 l := propext (List.all_eq_true (p := datB 5))
@[simp] theorem Dt_l6 {l : List W} : Dt 6 (.lst l) = DtA 5 l := propext (List.all_eq_true (p := datB 5))
@[simp] theorem Dt_n7 : Dt 7 .non := rfl
@[simp] theorem Dt_i7 {i : Int} : Dt 7 (.int i) := rfl
@[simp] theorem Dt_s7 {x : Str} : Dt 7 (.str x) := rfl
@[simp] theorem Dt_t7 {l : List W} : Dt 7 (.tup l) = DtA 6 l := propext (List.all_eq_true (p := datB 6))
@[simp] theorem Dt_l7 {l : List W} : Dt 7 (.lst l) = DtA 6 l := propext (List.all_eq_true (p := datB 6))
@[simp] theorem Dt_n8 : Dt 8 .non := rfl
@[simp] theorem Dt_i8 {i : Int} : Dt 8 (.int i) := rfl
@[simp] theorem Dt_s8 {x : Str} : Dt 8 (.str x) := rfl
@[simp] theorem Dt_t8 {l : List W} : Dt 8 (.tup l) = DtA 7 l := propext (List.all_eq_true (p := datB 7))
@[simp] theorem Dt_l8 {l : List W} : Dt 8 (.lst l) = DtA 7 l := propext (List.all_eq_true (p := datB 7))
@[simp] theorem Dt_n9 : Dt 9 .non := rfl
@[simp] theorem Dt_i9 {i : Int} : Dt 9 (.int i) := rfl
@[simp] theorem Dt_s9 {x : Str} : Dt 9 (.str x) := rfl
@[simp] theorem Dt_t9 {l : List W} : Dt 9 (.tup l) = DtA 8 l := propext (List.all_eq_true (p := datB 8))
@[simp] theorem Dt_l9 {l : List W} : Dt 9 (.lst l) = DtA 8 l := propext (List.all_eq_true (p := datB 8))
@[simp] theorem Dt_n10 : Dt 10 .non := rfl
@[simp] theorem Dt_i10 {i : Int} : Dt 10 (.int i) := rfl
@[simp] theorem Dt_s10 {x : Str} : Dt 10 (.str x) := rfl
@[simp] theorem Dt_t10 {l : List W} : Dt 10 (.tup l) = DtA 9 l := propext (List.all_eq_true (p := datB 9))
@[simp] theorem Dt_l10 {l : List W} : Dt 10 (.lst l) = DtA 9 l := propext (List.all_eq_true (p := datB 9))
@[simp] theorem Dt_n11 : Dt 11 .non := rfl
@[simp] theorem Dt_i11 {i : Int} : Dt 11 (.int i) := rfl
@[simp] theorem Dt_s11 {x : Str} : Dt 11 (.str x) := rfl
@[simp] theorem Dt_t11 {l : List W} : Dt 11 (.tup l) = DtA 10 l := propext (List.all_eq_true (p := datB 10))
@[simp] theorem Dt_l11 {l : List W} : Dt 11 (.lst l) = DtA 10 l := propext (List.all_eq_true (p := datB 10))
@[simp] theorem Dt_n12 : Dt 12 .non := rfl
@[simp] theorem Dt_i12 {i : Int} : Dt 12 (.int i) := rfl
@[simp] theorem Dt_s12 {x : Str} : Dt 12 (.str x) := rfl
@[simp] theorem Dt_t12 {l : List W} : Dt 12 (.tup l) = DtA 11 l := propext (List.all_eq_true (p := datB 11))
@[simp] theorem Dt_l12 {l : List W} : Dt 12 (.lst l) = DtA 11 l := propext (List.all_eq_true (p := datB 11))
theorem toDs_some {s : S} {n : Nat} (ih : ∀ a, datB n a = true → ∃ x, toD s n a = some x) : ∀ l : List W, l.all (datB n) = true → ∃ ds, l.mapM (toD s n) = some ds
  | [], _ => ⟨[], rfl⟩
  | w :: l, h => by
    rw [List.all_cons, Bool.and_eq_true] at h
    obtain ⟨x, e1⟩ := ih w h.1
    obtain ⟨ds, e2⟩ := toDs_some ih l h.2
    exact ⟨x :: ds, by rw [List.mapM_cons, e1, e2]; rfl⟩
theorem toD_some {s : S} : ∀ (n : Nat) (a : W), datB n a = true → ∃ x, toD s n a = some x
  | 0, _, h => by cases h
  | n + 1, .non, _ => ⟨_, rfl⟩
  | n + 1, .int _, _ => ⟨_, rfl⟩
  | n + 1, .str _, _ => ⟨_, rfl⟩
  | n + 1, .tup l, h => by
    obtain ⟨ds, e⟩ := toDs_some (s := s) (n := n) (toD_some n) l h
    exact ⟨.tuple ds, by show (l.mapM (toD s n)).map PyData.tuple = _; rw [e]; rfl⟩
  | n + 1, .lst l, h => by
    obtain ⟨ds, e⟩ := toDs_some (s := s) (n := n) (toD_some n) l h
    exact ⟨.list ds, by show (l.mapM (toD s n)).map PyData.list = _; rw [e]; rfl⟩
  | n + 1, .bl _, h => by cases h
  | n + 1, .ref _, h => by cases h
  | n + 1, .dct _ _, h => by cases h
theorem mapM_c {s : S} {n : Nat} {w : W} {l : List W} {ds : List PyData} (h : (w :: l).mapM (toD s n) = some ds) : ∃ d t, toD s n w = some d ∧ l.mapM (toD s n) = some t ∧ ds = d :: t := toDs_cons h
theorem eqvAll_dat {s : S} {n : Nat} (ih : ∀ a b x y, datB n a = true → datB n b = true → toD s n a = some x → toD s n b = some y → PyData.eqv x y = decide (a = b)) :
    ∀ (l m : List W) (xs ys : List PyData), l.all (datB n) = true → m.all (datB n) = true → l.mapM (toD s n) = some xs → m.mapM (toD s n) = some ys → PyData.eqvAll xs ys = decide (l = m)
  | [], [], xs, ys, _, _, h1, h2 => by cases h1; cases h2; rfl
  | [], w :: m, xs, ys, _, _, h1, h2 => by
    cases h1
    obtain ⟨d, t, _, _, rfl⟩ := mapM_c h2
    rw [decide_eq_false (by simp)]; rfl
  | w :: l, [], xs, ys, _, _, h1, h2 => by
    cases h2
    obtain ⟨d, t, _, _, rfl⟩ := mapM_c h1
    rw [decide_eq_false (by simp)]; rfl
  | w :: l, u :: m, xs, ys, a1, a2, h1, h2 => by
    obtain ⟨d, t, e1, e2, rfl⟩ := mapM_c h1
    obtain ⟨d', t', e3, e4, rfl⟩ := mapM_c h2
    rw [List.all_cons, Bool.and_eq_true] at a1 a2
    show (PyData.eqv d d' && PyData.eqvAll t t') = _
    rw [ih w u d d' a1.1 a2.1 e1 e3, eqvAll_dat ih l m t t' a1.2 a2.2 e2 e4, ← Bool.decide_and]
    congr 1
    simp
theorem eqv_dat {s : S} : ∀ (n : Nat) (a b : W) (x y : PyData), datB n a = true → datB n b = true → toD s n a = some x → toD s n b = some y → PyData.eqv x y = decide (a = b)
  | 0, _, _, _, _, h, _, _, _ => by cases h
  | n + 1, a, b, x, y, h1, h2, e1, e2 => by
    have go := eqvAll_dat (s := s) (n := n) (eqv_dat n)
    cases a <;> first | exact Bool.noConfusion (show false = true from h1) | skip
    all_goals cases b <;> first | exact Bool.noConfusion (show false = true from h2) | skip
    all_goals simp only [toD] at e1 e2
    all_goals first
      | (cases e1; cases e2; first | (simp [PyData.eqv]; done) | (simp [PyData.eqv]; rfl))
      | (obtain ⟨xs, e3, rfl⟩ := Option.map_eq_some_iff.mp e1
         obtain ⟨ys, e4, rfl⟩ := Option.map_eq_some_iff.mp e2
         rename_i l m
         show PyData.eqvAll xs ys = _
         rw [go l m xs ys h1 h2 e3 e4]
         congr 1
         simp)
      | (cases e1
         obtain ⟨ys, e4, rfl⟩ := Option.map_eq_some_iff.mp e2
         simp [PyData.eqv])
      | (cases e2
         obtain ⟨ys, e4, rfl⟩ := Option.map_eq_some_iff.mp e1
         simp [PyData.eqv])
      | (obtain ⟨xs, e3, rfl⟩ := Option.map_eq_some_iff.mp e1
         obtain ⟨ys, e4, rfl⟩ := Option.map_eq_some_iff.mp e2
         simp [PyData.eqv])
theorem eqD_dat {s : S} {a b : W} (h1 : datB 12 a = true) (h2 : datB 12 b = true) : eqD s a b = some (decide (a = b)) := by
  obtain ⟨x, e1⟩ := toD_some (s := s) 12 a h1
  obtain ⟨y, e2⟩ := toD_some (s := s) 12 b h2
  unfold eqD
  rw [e1, e2]
  simp only
  rw [eqv_dat 12 a b x y h1 h2 e1 e2]
@[simp] theorem neD {s : S} {a b : W} (h1 : Dt 12 a) (h2 : Dt 12 b) : neV a b s = .ok (.bl (!decide (a = b))) s := by
  unfold neV
  rw [eqD_dat h1 h2]
@[simp] theorem eqDd {s : S} {a b : W} (h1 : Dt 12 a) (h2 : Dt 12 b) : eqV a b s = .ok (.bl (decide (a = b))) s := by
  obtain ⟨x, e1⟩ := toD_some (s := s) 12 a h1
  obtain ⟨y, e2⟩ := toD_some (s := s) 12 b h2
  unfold eqV
  have : eqW s 40 a b = some (decide (a = b)) := by
    show (match toD s 12 a, toD s 12 b with
    | some x, some y => some (PyData.eqv x y)
    | _, _ => _) = _
    rw [e1, e2]
    simp only
    rw [eqv_dat 12 a b x y h1 h2 e1 e2]
  rw [this]
theorem toDs_all {s : S} {l : List W} (h : l.all (datB 12) = true) : ∃ ds, toDs s 12 l = some ds := toDs_some (toD_some 12) l h
theorem any_dat {s : S} {k : W} {x : PyData} (hk : datB 12 k = true) (ek : toD s 12 k = some x) : ∀ (l : List W) (ds : List PyData), l.all (datB 12) = true → toDs s 12 l = some ds → (ds.any fun y => PyData.eqv y x) = decide (k ∈ l)
  | [], ds, _, e => by cases e; simp
  | w :: l, ds, h, e => by
    obtain ⟨d, t, e1, e2, rfl⟩ := toDs_cons e
    rw [List.all_cons, Bool.and_eq_true] at h
    rw [List.any_cons, any_dat hk ek l t h.2 e2, eqv_dat 12 w k d x h.1 hk e1 ek, ← Bool.decide_or]
    congr 1
    rw [List.mem_cons, propext (eq_comm (a := k) (b := w))]
theorem count_dat {s : S} {k : W} {x : PyData} (hk : datB 12 k = true) (ek : toD s 12 k = some x) : ∀ (l : List W) (ds : List PyData), l.all (datB 12) = true → toDs s 12 l = some ds → (ds.countP fun y => PyData.eqv y x) = l.countP (fun w => decide (w = k))
  | [], ds, _, e => by cases e; rfl
  | w :: l, ds, h, e => by
    obtain ⟨d, t, e1, e2, rfl⟩ := toDs_cons e
    rw [List.all_cons, Bool.and_eq_true] at h
    rw [List.countP_cons, List.countP_cons, count_dat hk ek l t h.2 e2, eqv_dat 12 w k d x h.1 hk e1 ek]
section
variable {α : Type} {Q : W → S → Prop} {X : Str → S → Prop} {N : Env → S → Prop} {P : Pk} {ρ : Env} {s : S}
@[simp] theorem inT {neg : Bool} {k : W} {l : List W} (hk : Dt 12 k) (hl' : DtA 12 l) : inW neg k (.tup l) s = .ok (.bl (if neg then !decide (k ∈ l) else decide (k ∈ l))) s := by
  have hl : l.all (datB 12) = true := List.all_eq_true.mpr hl'
  obtain ⟨x, e1⟩ := toD_some (s := s) 12 k hk
  obtain ⟨ds, e2⟩ := toDs_all (s := s) hl
  unfold inW
  simp only [e1, e2, any_dat hk e1 l ds hl e2]
@[simp] theorem inL' {neg : Bool} {k : W} {l : List W} (hk : Dt 12 k) (hl' : DtA 12 l) : inW neg k (.lst l) s = .ok (.bl (if neg then !decide (k ∈ l) else decide (k ∈ l))) s := by
  have hl : l.all (datB 12) = true := List.all_eq_true.mpr hl'
  obtain ⟨x, e1⟩ := toD_some (s := s) 12 k hk
  obtain ⟨ds, e2⟩ := toDs_all (s := s) hl
  unfold inW
  simp only [e1, e2, any_dat hk e1 l ds hl e2]
@[simp] theorem count_l {k : W} {l : List W} (hk : Dt 12 k) (hl' : DtA 12 l) : fCount [.lst l, k] s = .ok (.int (l.countP fun w => decide (w = k))) s := by
  have hl : l.all (datB 12) = true := List.all_eq_true.mpr hl'
  obtain ⟨x, e1⟩ := toD_some (s := s) 12 k hk
  obtain ⟨ds, e2⟩ := toDs_all (s := s) hl
  unfold fCount
  simp only [lsW, e1, e2]
  rw [← count_dat hk e1 l ds hl e2]
/-! ### lists -/
@[simp] theorem fLen_l {l : List W} : fLen [.lst l] s = .ok (.int l.length) s := rfl
@[simp] theorem fLen_t {l : List W} : fLen [.tup l] s = .ok (.int l.length) s := rfl
def oLen : Option O → S → Out W
  | some (.lst l), s => .ok (.int l.length) s
  | some (.dct l), s => .ok (.int l.length) s
  | _, _ => .bad
@[simp] theorem oLen_l {l : List W} : oLen (some (.lst l)) s = .ok (.int l.length) s := rfl
@[simp] theorem oLen_d {l : List (W × W)} : oLen (some (.dct l)) s = .ok (.int l.length) s := rfl
@[simp] theorem fLen_r {a : Nat} : fLen [.ref a] s = oLen (s.at_ a) s := by
  unfold fLen oLen
  simp only
  rcases s.at_ a with _ | o
  · rfl
  · cases o <;> rfl
@[simp] theorem fTuple_l {l : List W} : fTuple [.lst l] s = .ok (.tup l) s := rfl
@[simp] theorem fTuple_t {l : List W} : fTuple [.tup l] s = .ok (.tup l) s := rfl
@[simp] theorem fList_l {v : Bool} {l : List W} : fList v [.lst l] s = mkL v l s := rfl
@[simp] theorem fList_t {v : Bool} {l : List W} : fList v [.tup l] s = mkL v l s := rfl
@[simp] theorem fList_d {v : Bool} {ks : List Key} {l : List W} : fList v [.dct ks l] s = mkL v ((List.zip (ks.map kW) l).map (·.1)) s := rfl
def oTup : Option O → S → Out W
  | some (.lst l), s => .ok (.tup l) s
  | _, _ => .bad
@[simp] theorem oTup_l {l : List W} : oTup (some (.lst l)) s = .ok (.tup l) s := rfl
@[simp] theorem fTuple_r {a : Nat} : fTuple [.ref a] s = oTup (s.at_ a) s := by
  unfold fTuple oTup
  simp only
  rcases s.at_ a with _ | o
  · rfl
  · cases o <;> rfl
def oIt : Option O → Nat → S → Out PIt
  | some (.lst l), a, s => .ok (itL a l.length) s
  | some (.dct l), a, s => if a ∈ s.lk then .ok (itK a l.length) s else .bad
  | some (.dtt l), a, s => if a ∈ s.lk then .ok (itK a l.length) s else .bad
  | _, _, _ => .bad
/-- what is walked -/
def wIt : W → S → Out PIt
  | .tup l, s1 => .ok (itS l) s1
  | .lst l, s1 => .ok (itS l) s1
  | .dct ks _, s1 => .ok (itS (ks.map kW)) s1
  | .ref a, s1 => oIt (s1.at_ a) a s1
  | .str x, s1 => .ok (itS (chrs x)) s1
  | _, _ => .bad
@[simp] theorem wIt_t {l : List W} : wIt (.tup l) s = .ok (itS l) s := rfl
@[simp] theorem wIt_l {l : List W} : wIt (.lst l) s = .ok (itS l) s := rfl
@[simp] theorem wIt_d {ks : List Key} {l : List W} : wIt (.dct ks l) s = .ok (itS (ks.map kW)) s := rfl
@[simp] theorem wIt_r {a : Nat} : wIt (.ref a) s = oIt (s.at_ a) a s := rfl
@[simp] theorem oIt_l {l : List W} {a : Nat} : oIt (some (.lst l)) a s = .ok (itL a l.length) s := rfl
@[simp] theorem iE_p {m : E} : iE m ρ s = (m ρ s).bind wIt := by
  unfold iE
  congr; funext w s1
  cases w <;> first | rfl | skip
  simp only [wIt, oIt]
  rcases s1.at_ _ with _ | o
  · rfl
  · cases o <;> rfl
/-! ### methods, classes -/
def oMeth (c f : Str) (k : Out W) : Option O → Out W
  | some (.ins c' fs) => gB (decide (c' = c ∧ fs.lookup f = none)) k
  | _ => .bad
theorem eMeth_p {c f : Str} {m : List W → M W} {o : E} {ms : Es} : eMeth c f m o ms ρ s = (o ρ s).bind fun x s1 => match x with
  | .ref a => oMeth c f ((ms ρ s1).bind fun ws s2 => m (.ref a :: ws) s2) (s1.at_ a)
  | _ => .bad := by
  unfold eMeth
  congr; funext x s1
  cases x <;> first | rfl | skip
  simp only
  rcases s1.at_ _ with _ | o
  · rfl
  · cases o <;> first | rfl | skip
    unfold oMeth gB
    simp only [decide_eq_true_eq]
def wMeth (c f : Str) (k : Nat → Out W) : W → S → Out W
  | .ref a, s1 => oMeth c f (k a) (s1.at_ a)
  | _, _ => .bad
@[simp] theorem eMeth_P {c f : Str} {m : List W → M W} {o : E} {ms : Es} : Pe (eMeth c f m o ms ρ s) Q X = Pe (o ρ s) (fun x s1 => Pe (wMeth c f (fun a => (ms ρ s1).bind fun ws s2 => m (.ref a :: ws) s2) x s1) Q X) X := by
  rw [eMeth_p, Pe_bind]
  refine Pe_q fun x s1 => ?_
  cases x <;> rfl
@[simp] theorem wMeth_r {c f : Str} {k : Nat → Out W} {a : Nat} : wMeth c f k (.ref a) s = oMeth c f (k a) (s.at_ a) := rfl
@[simp] theorem oMeth_P {c f c' : Str} {k : Out W} {fs : List (Str × W)} : Pe (oMeth c f k (some (.ins c' fs))) Q X = ((c' = c ∧ fs.lookup f = none) ∧ Pe k Q X) := by
  show Pe (gB _ k) Q X = _
  rw [Pe_gB, decide_eq_true_eq]
def nonK (a : Nat) : W → S → Out W
  | .non, s => .ok (.ref a) s
  | _, _ => .bad
@[simp] theorem nonK_n {a : Nat} : nonK a .non s = .ok (.ref a) s := rfl
@[simp] theorem eMake_p {c : Str} {m : List W → M W} {ms : Es} : eMake c m ms ρ s = (ms ρ s).bind fun ws s1 => (m (.ref s1.nx :: ws) (s1.new (.ins c []))).bind (nonK s1.nx) := by
  unfold eMake
  congr; funext ws s1; congr; funext w s2
  cases w <;> rfl
def oPut (cs : List Str) (f : Str) (w : W) (a : Nat) (s : S) : Option O → Option S
  | some (.ins c fs) => if c ∈ cs ∧ fs.length < 1000 then some (s.set a (.ins c (putFW f w fs))) else none
  | _ => none
@[simp] theorem oPut_i {cs : List Str} {f c : Str} {w : W} {a : Nat} {fs : List (Str × W)} : oPut cs f w a s (some (.ins c fs)) = if c ∈ cs ∧ fs.length < 1000 then some (s.set a (.ins c (putFW f w fs))) else none := rfl
@[simp] theorem setF_ref {cs : List Str} {f : Str} {a : Nat} {w : W} {l : List O} : setFV cs f (.ref a) w (Hl l) = oPut cs f w a (Hl l) l[a]? := by
  unfold setFV oPut
  simp only [Hl_lk, List.not_mem_nil, if_false]
  rfl
@[simp] theorem bFld_p {cs : List Str} {f : Str} {o e : E} : bFld cs f o e ρ s = (e ρ s).bindS fun w s1 => (o ρ s1).bindS fun x s2 => okS ρ (setFV cs f x w s2) := rfl
@[simp] theorem putFW_n {f : Str} {v : W} : putFW f v [] = [(f, v)] := rfl
@[simp] theorem putFW_c {f g : Str} {v x : W} {r : List (Str × W)} : putFW f v ((g, x) :: r) = if g = f then (g, v) :: r else (g, x) :: putFW f v r := rfl
def oApp (y : W) (a : Nat) (s : S) : Option O → Out W
  | some (.lst l) => gB (decide (l.length < 16777216)) (.ok .non (s.set a (.lst (l ++ [y]))))
  | _ => .bad
@[simp] theorem oApp_l {y : W} {a : Nat} {l : List W} : oApp y a s (some (.lst l)) = gB (decide (l.length < 16777216)) (.ok .non (s.set a (.lst (l ++ [y])))) := rfl
@[simp] theorem app_ref {a : Nat} {y : W} {l : List O} : fAppend [.ref a, y] (Hl l) = oApp y a (Hl l) l[a]? := by
  unfold fAppend oApp gB
  simp only [Hl_lk, List.not_mem_nil, if_false, decide_eq_true_eq]
  rfl
@[simp] theorem eBm_P {ty : String} {g : List W → M W} {mo : E} {ms : Es} : Pe (eBm ty g mo ms ρ s) Q X = Pe (mo ρ s) (fun w s1 => isTy ty w s1 = true ∧ Pe (ms ρ s1) (fun ws s2 => Pe (g (w :: ws) s2) Q X) X) X := by
  unfold eBm
  rw [Pe_bind]
  refine Pe_q fun w s1 => ?_
  by_cases h : isTy ty w s1 = true
  · rw [if_pos h]; simp [h]
  · rw [if_neg h]; simp [h]
def oTy (ty : String) : Option O → Bool
  | some (.lst _) => ty == "list"
  | some (.dct _) => ty == "dict"
  | _ => false
@[simp] theorem isTy_s {ty : String} {x : Str} : isTy ty (.str x) s = (ty == "str") := rfl
@[simp] theorem isTy_l {ty : String} {l : List W} : isTy ty (.lst l) s = (ty == "list") := rfl
@[simp] theorem isTy_d {ty : String} {ks : List Key} {l : List W} : isTy ty (.dct ks l) s = (ty == "dict") := rfl
@[simp] theorem isTy_r {ty : String} {a : Nat} : isTy ty (.ref a) s = oTy ty (s.at_ a) := by
  show (match s.at_ a with
    | some (.lst _) => ty == "list"
    | some (.dct _) => ty == "dict"
    | _ => false) = _
  rcases s.at_ a with _ | o
  · rfl
  · cases o <;> rfl
@[simp] theorem oTy_l {ty : String} {l : List W} : oTy ty (some (.lst l)) = (ty == "list") := rfl
@[simp] theorem oTy_d {ty : String} {l : List (W × W)} : oTy ty (some (.dct l)) = (ty == "dict") := rfl
@[simp] theorem eTold_P {e ret : Str} {mb : E} : Pe (eTold e ret mb ρ s) Q X = Pe (mb ρ s) Q (fun c s' => c = e ∧ Q (.str ret) s') := by
  unfold eTold
  cases mb ρ s with
  | ok w s' => rfl
  | bad => rfl
  | ex c s' =>
    simp only
    by_cases h : c = e
    · rw [if_pos h]; simp [h]
    · rw [if_neg h]; simp [h]
/-! ### targets -/
@[simp] theorem gSeq_t {n : Nat} {gs : Gs} {l : List W} : gSeq n gs (.tup l) ρ s = if l.length = n then gs l ρ s else .bad := rfl
@[simp] theorem gSeq_l {n : Nat} {gs : Gs} {l : List W} : gSeq n gs (.lst l) ρ s = if l.length = n then gs l ρ s else .bad := rfl
@[simp] theorem gsNil_p : gsNil [] ρ s = .nx ρ s := rfl
@[simp] theorem gsCons_p {g : G} {gs : Gs} {w : W} {t : List W} : gsCons g gs (w :: t) ρ s = (g w ρ s).then (gs t) := rfl
@[simp] theorem wipeE_n : wipeE ρ [] = ρ := rfl
@[simp] theorem wipeE_c {v : Nat} {vs : List Nat} : wipeE ρ (v :: vs) = (wipeE ρ vs).set v none := rfl
@[simp] theorem tYesW_p : tYesW ρ s = .ok true s := rfl
@[simp] theorem oNone_p : oNone ρ s = .ok none s := rfl
def soK : W → S → Out (Option Int)
  | .int i, s => .ok (some i) s
  | _, _ => .bad
@[simp] theorem soK_i {i : Int} : soK (.int i) s = .ok (some i) s := rfl
@[simp] theorem oSome_p {a : E} : oSome a ρ s = (a ρ s).bind soK := by
  unfold oSome
  congr; funext x s1
  cases x <;> rfl
@[simp] theorem eSl_p {v : Bool} {a : E} {lo hi : EO} : eSl v a lo hi ρ s = (a ρ s).bind fun x s1 => (lo ρ s1).bind fun l s2 => (hi ρ s2).bind fun u s3 => slV v x l u s3 := rfl
@[simp] theorem slV_t {v : Bool} {l : List W} {lo hi : Option Int} : slV v (.tup l) lo hi s = .ok (.tup (cutW l lo hi)) s := rfl
@[simp] theorem slV_l {v : Bool} {l : List W} {lo hi : Option Int} : slV v (.lst l) lo hi s = mkL v (cutW l lo hi) s := rfl
def par2 (i j : Nat) : List W → Env → S → OutS
  | [v, w], ρ, s1 => .nx ((ρ.set i (some v)).set j (some w)) s1
  | _, _, _ => .bad
@[simp] theorem bPar2_p {i j : Nat} {ms : Es} : bPar2 i j ms ρ s = (ms ρ s).bindS fun ws s1 => par2 i j ws ρ s1 := by
  unfold bPar2
  congr; funext ws s1
  unfold par2
  rcases ws with _ | ⟨a, _ | ⟨b, _ | ⟨c, t⟩⟩⟩ <;> rfl
@[simp] theorem par2_p {i j : Nat} {v w : W} : par2 i j [v, w] ρ s = .nx ((ρ.set i (some v)).set j (some w)) s := rfl
def par3 (i j k : Nat) : List W → Env → S → OutS
  | [u, v, w], ρ, s1 => .nx (((ρ.set i (some u)).set j (some v)).set k (some w)) s1
  | _, _, _ => .bad
@[simp] theorem bPar3_p {i j k : Nat} {ms : Es} : bPar3 i j k ms ρ s = (ms ρ s).bindS fun ws s1 => par3 i j k ws ρ s1 := by
  unfold bPar3
  congr; funext ws s1
  unfold par3
  rcases ws with _ | ⟨a, _ | ⟨b, _ | ⟨c, _ | ⟨d, t⟩⟩⟩⟩ <;> rfl
@[simp] theorem par3_p {i j k : Nat} {u v w : W} : par3 i j k [u, v, w] ρ s = .nx (((ρ.set i (some u)).set j (some v)).set k (some w)) s := rfl
end
end RS
set_option Elab.async false
set_option linter.all false
set_option maxRecDepth 100000
set_option maxHeartbeats 1000000
set_option autoImplicit false
/-! RS.P5: displays, dicts, walks by pairs, texts, order. -/
namespace RS
open PySem L2
section
variable {α : Type} {Q : W → S → Prop} {X : Str → S → Prop} {N : Env → S → Prop} {P : Pk} {ρ : Env} {s : S}
def keysB : List (W × W) → Bool
  | [] => true
  | p :: l => isKey p.1 && keysB l
@[simp] theorem keysB_n : keysB [] = true := rfl
@[simp] theorem keysB_c {p : W × W} {l : List (W × W)} : keysB (p :: l) = (isKey p.1 && keysB l) := rfl
theorem keysB_eq : ∀ l : List (W × W), keysB l = l.all fun p => isKey p.1
  | [] => rfl
  | p :: l => by rw [keysB_c, List.all_cons, keysB_eq l]
@[simp] theorem eDisp_P {v : Bool} {ps : List (E × E)} : Pe (eDisp v ps ρ s) Q X = Pe (dps ps ρ s) (fun l s1 => (keysB l = true ∧ l.length ≤ 15) ∧ Pe (mkD v (mergeW [] l) s1) Q X) X := by
  unfold eDisp
  rw [Pe_bind]
  refine Pe_q fun l s1 => ?_
  rw [keysB_eq]
  by_cases h : (l.all fun p => isKey p.1) = true ∧ l.length ≤ 15
  · rw [if_pos h]; simp only [h, and_self, true_and]
  · rw [if_neg h]; simp only [h, Pe_bad, false_and]
@[simp] theorem dps_n : dps [] ρ s = .ok [] s := rfl
@[simp] theorem dps_c {k v : E} {r : List (E × E)} : dps ((k, v) :: r) ρ s = (k ρ s).bind fun x s1 => (v ρ s1).bind fun y s2 => (dps r ρ s2).bind fun l s3 => .ok ((x, y) :: l) s3 := rfl
@[simp] theorem mkD_v {l : List (W × W)} : mkD true l s = .ok (.dct (l.map fun p => toKey p.1) (l.map (·.2))) s := rfl
@[simp] theorem mkD_o {l : List (W × W)} : mkD false l s = .ok (.ref s.nx) (s.new (.dct l)) := rfl
@[simp] theorem mergeW_n {l : List (W × W)} : mergeW l [] = l := rfl
@[simp] theorem mergeW_c {l r : List (W × W)} {k v : W} : mergeW l ((k, v) :: r) = mergeW (dput l k v) r := rfl
@[simp] theorem dhas_n {x : W} : dhas [] x = false := rfl
@[simp] theorem dhas_c {k v x : W} {r : List (W × W)} : dhas ((k, v) :: r) x = (decide (k = x) || dhas r x) := by
  unfold dhas
  rw [dget_c]
  by_cases h : k = x
  · rw [if_pos h, decide_eq_true h]; rfl
  · rw [if_neg h, decide_eq_false h]; rfl
@[simp] theorem dput_p {l : List (W × W)} {x y : W} : dput l x y = if dhas l x = true then l.map (fun p => if p.1 = x then (p.1, y) else p) else l ++ [(x, y)] := rfl
@[simp] theorem toKey_i {i : Int} : toKey (.int i) = .inl i := rfl
@[simp] theorem toKey_s {x : Str} : toKey (.str x) = .inr x := rfl
@[simp] theorem isKey_i {i : Int} : isKey (.int i) = true := rfl
@[simp] theorem isKey_s {x : Str} : isKey (.str x) = true := rfl
theorem key_back {w : W} (h : isKey w = true) : kW (toKey w) = w := by
  cases w <;> first | rfl | cases h
theorem zip_back : ∀ {l : List (W × W)}, (∀ p ∈ l, isKey p.1 = true) → List.zip ((l.map fun p => toKey p.1).map kW) (l.map (·.2)) = l
  | [], _ => rfl
  | (k, v) :: l, h => by
    show (kW (toKey k), v) :: _ = _
    rw [key_back (h (k, v) List.mem_cons_self)]
    congr 1
    exact zip_back fun p hp => h p (List.mem_cons_of_mem _ hp)
@[simp] theorem eDc_P {v : Bool} {mi : It'} {own : List Nat} {g : G} {t : RS.T} {mk m : E} : Pe (eDc v mi own g t mk m ρ s) Q X = Pe (mi ρ s) (fun p s1 => Pe (dcLoop p g t mk m (wipeE ρ own) (p.n + 1) 0 [] s1) (fun ws s2 => Pe (mkD v ws s2) Q X) X) X := by
  unfold eDc
  rw [Pe_bind]
  refine Pe_q fun p s1 => ?_
  rw [Pe_bind]
theorem dput_len {l : List (W × W)} {x y : W} : (dput l x y).length ≤ l.length + 1 := by
  rw [dput_p]
  split
  · simp
  · simp
theorem mergeW_len : ∀ (r l : List (W × W)), (mergeW l r).length ≤ l.length + r.length
  | [], l => by simp
  | (k, v) :: r, l => by
    rw [mergeW_c]
    have h1 := mergeW_len r (dput l k v)
    have h2 := dput_len (l := l) (x := k) (y := v)
    rw [List.length_cons]
    omega
theorem mergeW_app {l r : List (W × W)} {k v : W} : mergeW l (r ++ [(k, v)]) = dput (mergeW l r) k v := by
  unfold mergeW
  rw [List.foldl_append]
  rfl
theorem dc_go {p0 : PIt} {xs : List α} {g : G} {t : RS.T} {mk m : E} {ρ0 : Env} {enc : α → W} (hp0 : ∀ i, i ≤ xs.length → p0.at' i s = some (xs.map enc)[i]?) {p : α → Bool} {kf vf : α → W} (hz : xs.length < 16777216)
    (H : ∀ x ∈ xs, Ps (g (enc x) ρ0 s) (fun ρ1 s1 => Pe (t ρ1 s1) (fun c s2 => c = p x ∧ s2 = s ∧ (p x = true → isKey (kf x) = true ∧ Pe (mk ρ1 s2) (fun u s3 => u = kf x ∧ s3 = s ∧ Pe (m ρ1 s3) (fun z s4 => z = vf x ∧ s4 = s) XF) XF)) XF) PF) :
    ∀ (j k f : Nat), k + j = xs.length → j < f → dcLoop p0 g t mk m ρ0 f k (mergeW [] (((xs.take k).filter p).map fun x => (kf x, vf x))) s = .ok (mergeW [] ((xs.filter p).map fun x => (kf x, vf x))) s
  | 0, k, 0, _, h => absurd h (Nat.not_lt_zero _)
  | 0, k, f + 1, h1, h2 => by
    rw [Nat.add_zero] at h1
    subst h1
    unfold dcLoop
    rw [hp0 _ (Nat.le_refl _), List.getElem?_eq_none (by rw [List.length_map]; omega), List.take_length]
  | j + 1, k, 0, _, h => absurd h (Nat.not_lt_zero _)
  | j + 1, k, f + 1, h1, h2 => by
    have hk : k < xs.length := by omega
    obtain ⟨ρ1, s1, eg, q1⟩ := (H xs[k] (List.getElem_mem hk)).nx_of
    obtain ⟨c, s2, et, ec, es, q2⟩ := q1.ok_of
    rw [es] at et q2
    have tk : xs.take (k + 1) = xs.take k ++ [xs[k]] := by rw [List.take_succ, List.getElem?_eq_getElem hk]; rfl
    unfold dcLoop
    rw [hp0 k (by omega), List.getElem?_map, List.getElem?_eq_getElem hk]
    simp only [Option.map_some, eg, et]
    cases hp : p xs[k] with
    | true =>
      rw [hp] at ec
      subst ec
      obtain ⟨ik, q3⟩ := q2 hp
      obtain ⟨u, s3, em, eu, e3, q4⟩ := q3.ok_of
      rw [e3, eu] at em
      rw [e3] at q4
      obtain ⟨z, s4, ev, ez, e4⟩ := q4.ok_of
      rw [e4, ez] at ev
      simp only [em, ev]
      have hl : (mergeW [] (((xs.take k).filter p).map fun x => (kf x, vf x))).length < PySem.sizeLine := by
        have := mergeW_len (((xs.take k).filter p).map fun x => (kf x, vf x)) []
        rw [List.length_map] at this
        have h3 := List.length_filter_le p (xs.take k)
        rw [List.length_take] at h3
        simp only [List.length_nil] at this
        rw [sizeLine_eq]
        omega
      rw [if_pos ⟨ik, hl⟩]
      have ih := dc_go hp0 hz H j (k + 1) f (by omega) (by omega)
      rw [tk, List.filter_append, List.filter_cons_of_pos hp, List.map_append] at ih
      rw [show ([] : List α).filter p = [] from rfl] at ih
      rw [show List.map (fun x => (kf x, vf x)) [xs[k]] = [(kf xs[k], vf xs[k])] from rfl, mergeW_app] at ih
      exact ih
    | false =>
      rw [hp] at ec
      subst ec
      simp only
      have ih := dc_go hp0 hz H j (k + 1) f (by omega) (by omega)
      rw [tk, List.filter_append, List.filter_cons_of_neg (by rw [hp]; decide)] at ih
      rw [show ([] : List α).filter p = [] from rfl, List.append_nil] at ih
      exact ih
theorem dc_pure {p0 : PIt} {xs : List α} {g : G} {t : RS.T} {mk m : E} {ρ0 : Env} {f : Nat} {Q : List (W × W) → S → Prop} (enc : α → W) (hp0 : ∀ i, i ≤ xs.length → p0.at' i s = some (xs.map enc)[i]?) (p : α → Bool) (kf vf : α → W) (hz : xs.length < 16777216) (hf : xs.length < f)
    (H : ∀ x ∈ xs, Ps (g (enc x) ρ0 s) (fun ρ1 s1 => Pe (t ρ1 s1) (fun c s2 => c = p x ∧ s2 = s ∧ (p x = true → isKey (kf x) = true ∧ Pe (mk ρ1 s2) (fun u s3 => u = kf x ∧ s3 = s ∧ Pe (m ρ1 s3) (fun z s4 => z = vf x ∧ s4 = s) XF) XF)) XF) PF)
    (q : Q (mergeW [] ((xs.filter p).map fun x => (kf x, vf x))) s) : Pe (dcLoop p0 g t mk m ρ0 f 0 [] s) Q X := by
  have h := dc_go (s := s) (kf := kf) (vf := vf) hp0 hz H xs.length 0 f (by omega) hf
  rw [List.take_zero] at h
  have h : dcLoop p0 g t mk m ρ0 f 0 [] s = _ := h
  rw [h]
  exact q
/-! ### walks by pairs -/
def zpK : List W → S → Out PIt
  | [.tup l, .tup m], s1 => .ok (itZT l m) s1
  | [.lst l, .lst m], s1 => .ok (itZT l m) s1
  | [x, y], s1 => match lsW s1 x, lsW s1 y with
    | some l, some _ => .ok (itZW x y l.length) s1
    | _, _ => .bad
  | _, _ => .bad
@[simp] theorem iZp_p {es : Es} : iZp es ρ s = (es ρ s).bind zpK := by
  unfold iZp
  congr; funext ws s1
  unfold zpK
  rcases ws with _ | ⟨a, _ | ⟨b, _ | ⟨c, t⟩⟩⟩ <;> first | rfl | (cases a <;> rfl) | (cases a <;> cases b <;> rfl)
@[simp] theorem zpK_t {l m : List W} : zpK [.tup l, .tup m] s = .ok (itZT l m) s := rfl
@[simp] theorem zpK_l {l m : List W} : zpK [.lst l, .lst m] s = .ok (itZT l m) s := rfl
def enK : List W → S → Out PIt
  | [.tup l], s1 => .ok (itET l) s1
  | [.lst l], s1 => .ok (itET l) s1
  | [.dct ks _], s1 => .ok (itET (ks.map kW)) s1
  | [.ref a], s1 => match s1.at_ a with
    | some (.lst l) => .ok (itEn a l.length) s1
    | _ => .bad
  | _, _ => .bad
@[simp] theorem iEn_p {es : Es} : iEn es ρ s = (es ρ s).bind enK := by
  unfold iEn
  congr; funext ws s1
  unfold enK
  rcases ws with _ | ⟨a, _ | ⟨b, t⟩⟩ <;> first | rfl | (cases a <;> rfl)
@[simp] theorem enK_t {l : List W} : enK [.tup l] s = .ok (itET l) s := rfl
@[simp] theorem enK_l {l : List W} : enK [.lst l] s = .ok (itET l) s := rfl
@[simp] theorem enK_d {ks : List Key} {l : List W} : enK [.dct ks l] s = .ok (itET (ks.map kW)) s := rfl
@[simp] theorem itZT_n {l m : List W} : (itZT l m).n = l.length := rfl
@[simp] theorem itET_n {l : List W} : (itET l).n = l.length := rfl
@[simp] theorem itL_n {a n : Nat} : (itL a n).n = n := rfl
theorem at_S {xs : List α} {enc : α → W} : ∀ i, i ≤ xs.length → (itS (xs.map enc)).at' i s = some (xs.map enc)[i]? := fun _ _ => rfl
theorem at_L {xs : List α} {enc : α → W} {a n : Nat} (h : s.at_ a = some (.lst (xs.map enc))) : ∀ i, i ≤ xs.length → (itL a n).at' i s = some (xs.map enc)[i]? := fun i _ => by
  show (match s.at_ a with
    | some (.lst l) => some l[i]?
    | _ => none) = _
  rw [h]
theorem at_E {xs : List α} {enc : α → W} : ∀ i, i ≤ xs.zipIdx.length → (itET (xs.map enc)).at' i s = some (xs.zipIdx.map fun p => W.tup [.int (p.2 : Nat), enc p.1])[i]? := fun i hi => by
  rw [List.length_zipIdx] at hi
  show (if i ≤ (xs.map enc).length then some ((xs.map enc)[i]?.map fun w => W.tup [.int (i : Nat), w]) else none) = _
  rw [if_pos (by rw [List.length_map]; exact hi), List.getElem?_map, List.getElem?_map, List.getElem?_zipIdx]
  cases xs[i]? <;> simp
theorem at_Z {β : Type} {xs : List α} {ys : List β} {enc : α → W} {enc2 : β → W} : ∀ i, i ≤ (xs.zip ys).length → (itZT (xs.map enc) (ys.map enc2)).at' i s = some ((xs.zip ys).map fun p => W.tup [enc p.1, enc2 p.2])[i]? := fun i _ => by
  show some (zipO (xs.map enc)[i]? (ys.map enc2)[i]?) = _
  rw [List.getElem?_map, List.getElem?_map, List.getElem?_map, List.zip, List.getElem?_zipWith]
  cases xs[i]? <;> cases ys[i]? <;> rfl
/-! ### texts -/
@[simp] theorem eJoin_p {ms : List E} : eJoin ms ρ s = jsL ms Str.empty ρ s := rfl
@[simp] theorem jsL_n {acc : Str} : jsL [] acc ρ s = .ok (.str acc) s := rfl
def jsK (ms : List E) (acc : Str) (ρ : Env) : W → S → Out W
  | .str y, s1 => gB (decide ((acc ++ y).length ≤ 16777216)) (jsL ms (acc ++ y) ρ s1)
  | _, _ => .bad
@[simp] theorem jsK_s {ms : List E} {acc y : Str} : jsK ms acc ρ (.str y) s = gB (decide ((acc ++ y).length ≤ 16777216)) (jsL ms (acc ++ y) ρ s) := rfl
@[simp] theorem jsL_c {m : E} {ms : List E} {acc : Str} : jsL (m :: ms) acc ρ s = (m ρ s).bind (jsK ms acc ρ) := by
  show (m ρ s).bind _ = _
  congr; funext w s1
  cases w <;> first | rfl | skip
  simp only [jsK_s, gB, decide_eq_true_eq]
  rfl
def fmK : W → S → Out W
  | .str y, s1 => gB (decide (y.length ≤ 16777216)) (.ok (.str y) s1)
  | .int i, s1 => gB (decide (i.natAbs.log2 < 1920)) (.ok (.str (toString i)) s1)
  | _, _ => .bad
@[simp] theorem fmK_s {y : Str} : fmK (.str y) s = gB (decide (y.length ≤ 16777216)) (.ok (.str y) s) := rfl
@[simp] theorem fmK_i {i : Int} : fmK (.int i) s = gB (decide (i.natAbs.log2 < 1920)) (.ok (.str (toString i)) s) := rfl
@[simp] theorem eFmt_p {m : E} : eFmt m ρ s = (m ρ s).bind fmK := by
  unfold eFmt
  congr; funext w s1
  cases w <;> first | rfl | (simp only [fmK, gB, decide_eq_true_eq]; done) | (simp only [fmK, gB, decide_eq_true_eq]; rfl)
@[simp] theorem fStr_i {i : Int} : fStr [.int i] s = gB (decide (i.natAbs.log2 < 1920)) (.ok (.str (toString i)) s) := by
  unfold fStr gB
  simp only [decide_eq_true_eq]
@[simp] theorem fStr_s {x : Str} : fStr [.str x] s = .ok (.str x) s := rfl
theorem log_ok {i : Int} (h1 : -(2 ^ 64) < i) (h2 : i < 2 ^ 64) : i.natAbs.log2 < 1920 := by
  by_cases z : i.natAbs = 0
  · rw [z]; decide
  · have : i.natAbs.log2 < 64 := (Nat.log2_lt z).mpr (by omega)
    omega
theorem len_app {x y : Str} : (x ++ y).length = x.length + y.length := by
  show (x.cps ++ y.cps).size = _
  rw [Array.size_append]; rfl
@[simp] theorem empty_app {x : Str} : Str.empty ++ x = x := by
  cases x
  show Str.append _ _ = _
  unfold Str.append Str.empty
  simp
theorem app_assoc {x y z : Str} : (x ++ y) ++ z = x ++ (y ++ z) := by
  show Str.append (Str.append x y) z = Str.append x (Str.append y z)
  unfold Str.append
  simp [Array.append_assoc]
theorem len_of (x : String) : (Str.ofString x).length = x.length := by
  rw [Str.ofString_eq_toList]
  show (x.toList.map Char.toNat).toArray.size = _
  rw [List.size_toArray, List.length_map, String.length_toList]
/-! ### order -/
def dW (w : W) : PyData := (toD S0 12 w).getD .none
theorem toDs_st {s : S} {n : Nat} (ih : ∀ a, datB n a = true → toD s n a = toD S0 n a) : ∀ l : List W, l.all (datB n) = true → l.mapM (toD s n) = l.mapM (toD S0 n)
  | [], _ => rfl
  | w :: l, h => by
    rw [List.all_cons, Bool.and_eq_true] at h
    rw [List.mapM_cons, List.mapM_cons, ih w h.1, toDs_st ih l h.2]
theorem toD_st {s : S} : ∀ (n : Nat) (a : W), datB n a = true → toD s n a = toD S0 n a
  | 0, _, h => by cases h
  | n + 1, .non, _ => rfl
  | n + 1, .int _, _ => rfl
  | n + 1, .str _, _ => rfl
  | n + 1, .tup l, h => by
    show (l.mapM (toD s n)).map PyData.tuple = (l.mapM (toD S0 n)).map PyData.tuple
    rw [toDs_st (toD_st n) l h]
  | n + 1, .lst l, h => by
    show (l.mapM (toD s n)).map PyData.list = (l.mapM (toD S0 n)).map PyData.list
    rw [toDs_st (toD_st n) l h]
  | n + 1, .bl _, h => by cases h
  | n + 1, .ref _, h => by cases h
  | n + 1, .dct _ _, h => by cases h
theorem toDs_dW {s : S} : ∀ l : List W, l.all (datB 12) = true → toDs s 12 l = some (l.map dW)
  | [], _ => rfl
  | w :: l, h => by
    rw [List.all_cons, Bool.and_eq_true] at h
    obtain ⟨x, e⟩ := toD_some (s := S0) 12 w h.1
    unfold toDs
    rw [List.mapM_cons, toD_st 12 w h.1, e]
    have ih : l.mapM (toD s 12) = some (l.map dW) := toDs_dW l h.2
    rw [ih]
    show some (x :: _) = _
    rw [List.map_cons]
    congr 2
    unfold dW
    rw [e]
    rfl
/-- Python's order of data -/
def leW (a b : W) : Bool := PySem.W.dataLe false dW a b
def srtW (l : List W) : List W := l.mergeSort leW
theorem leW_trans (a b c : W) (h1 : leW a b = true) (h2 : leW b c = true) : leW a c = true := (PySem.W.sortLe_total (PyProof.Rows.listOrd PyProof.Rows.itemOrd) false (fun w => PySem.W.keyToks (dW w))).trans _ _ _ h1 h2
theorem leW_total (a b : W) : (leW a b || leW b a) = true := Bool.or_eq_true_iff.mpr <| (PySem.W.sortLe_total (PyProof.Rows.listOrd PyProof.Rows.itemOrd) false (fun w => PySem.W.keyToks (dW w))).total _ _
theorem sortW_rows {l : List W} (hd' : DtA 12 l) (h1 : ∀ a ∈ l, ∀ b ∈ l, PySem.W.alike (dW a) (dW b) = true) (h2 : (∀ a ∈ l, isRow (dW a) = true) ∨ ∀ a ∈ l, isAtom (dW a) = true) : sortW s l = some (srtW l) := by
  have hd : l.all (datB 12) = true := List.all_eq_true.mpr hd'
  unfold sortW
  rw [toDs_dW l hd]
  have c1 : alikeD (l.map dW) = true := by
    unfold alikeD
    rw [List.all_eq_true]
    intro d hd
    rw [List.all_eq_true]
    intro e he
    obtain ⟨a, ha, rfl⟩ := List.mem_map.mp hd
    obtain ⟨b, hb, rfl⟩ := List.mem_map.mp he
    exact h1 a ha b hb
  have c2 : ((l.map dW).all isRow || (l.map dW).all isAtom) = true := by
    rw [Bool.or_eq_true, List.all_eq_true, List.all_eq_true]
    refine h2.imp (fun h d hd => ?_) fun h d hd => ?_ <;>
    · obtain ⟨a, ha, rfl⟩ := List.mem_map.mp hd
      exact h a ha
  simp only [c1, c2, Bool.and_self, if_true]
  rw [msr_eq _ _ (Nat.le_refl _)]
  congr 1
  have e : ∀ l : List W, l.zip (l.map dW) = l.map fun w => (w, dW w) := fun l => by
    induction l with
    | nil => rfl
    | cons w t ih => rw [List.map_cons, List.zip_cons_cons, ih]; rfl
  have e2 : (l.map fun w => (w, dW w)).mergeSort (PySem.W.dataLe false (·.2)) = (l.mergeSort leW).map fun w => (w, dW w) := (List.map_mergeSort (r := leW) (s := PySem.W.dataLe false (·.2)) (f := fun w => (w, dW w)) (fun a _ b _ => rfl)).symm
  rw [e, e2, List.map_map]
  exact List.map_id _
/-! ### slices, neighbours -/
theorem cut_lo {l : List α} {k : Nat} : cutW l (some (k : Int)) none = l.drop k := by
  unfold cutW
  rw [HT.sIx_nat, HT.sIx_none]
  by_cases h : k ≤ l.length
  · rw [Nat.min_eq_left h, List.take_of_length_le (by rw [List.length_drop]; omega)]
  · rw [Nat.min_eq_right (by omega), List.drop_of_length_le (Nat.le_refl _), List.drop_of_length_le (by omega), List.take_nil]
theorem cut_hi {l : List α} {k : Nat} : cutW l none (some (k : Int)) = l.take k := by
  unfold cutW
  rw [HT.sIx_nat, HT.sIx_none, List.drop_zero, Nat.sub_zero]
  by_cases h : k ≤ l.length
  · rw [Nat.min_eq_left h]
  · rw [Nat.min_eq_right (by omega), List.take_of_length_le (Nat.le_refl _), List.take_of_length_le (by omega)]
@[simp] theorem cut_lo1 {l : List α} : cutW l (some 1) none = l.drop 1 := cut_lo (k := 1)
@[simp] theorem cut_hi1 {l : List α} : cutW l none (some 1) = l.take 1 := cut_hi (k := 1)
@[simp] theorem cut_lo2 {l : List α} : cutW l (some 2) none = l.drop 2 := cut_lo (k := 2)
@[simp] theorem cut_hi2 {l : List α} : cutW l none (some 2) = l.take 2 := cut_hi (k := 2)
theorem pw_zip {R : α → α → Prop} {xs : List α} (h : xs.Pairwise R) : ∀ p ∈ xs.zip (xs.drop 1), R p.1 p.2 := by
  intro p hp
  obtain ⟨i, hi, e⟩ := List.mem_iff_getElem.mp hp
  rw [List.length_zip, List.length_drop] at hi
  rw [List.getElem_zip] at e
  rw [← e]
  show R xs[i] ((xs.drop 1)[i]'(by rw [List.length_drop]; omega))
  rw [List.getElem_drop]
  exact List.pairwise_iff_getElem.mp h i (1 + i) (by omega) (by omega) (by omega)
@[simp] theorem filter_tt {l : List α} : (l.filter fun _ => true) = l := List.filter_eq_self.mpr fun _ _ => rfl
@[simp] theorem mulL {v : Bool} {l : List W} {k : Int} : mulW v (.lst l) (.int k) s = gB (decide (-(2 ^ 63) ≤ k ∧ k < 2 ^ 63 ∧ l.length * k.toNat ≤ 16777216)) (mkL v (List.replicate k.toNat l).flatten s) := by
  unfold mulW gB
  simp only [lsW, decide_eq_true_eq]
@[simp] theorem isN_n : isN .non .non s = .ok (.bl true) s := rfl
@[simp] theorem isN_s {x : Str} : isN (.str x) .non s = .ok (.bl false) s := rfl
@[simp] theorem isN_i {x : Int} : isN (.int x) .non s = .ok (.bl false) s := rfl
@[simp] theorem isN_t {x : List W} : isN (.tup x) .non s = .ok (.bl false) s := rfl
@[simp] theorem neB {a b : Bool} : neV (.bl a) (.bl b) s = .ok (.bl (!decide (a = b))) s := by
  unfold neV
  have : eqD s (.bl a) (.bl b) = some (decide (a = b)) := by
    show some (PyData.eqv (.bool a) (.bool b)) = _
    cases a <;> cases b <;> rfl
  rw [this]
def oNe : Option O → List W → S → Out W
  | some (.lst l), m, s => .ok (.bl (!decide (l = m))) s
  | _, _, _ => .bad
@[simp] theorem oNe_l {l m : List W} : oNe (some (.lst l)) m s = .ok (.bl (!decide (l = m))) s := rfl
theorem toD_rf {a : Nat} {l : List W} (h : s.at_ a = some (.lst l)) (hl : DtA 11 l) : toD s 12 (.ref a) = toD s 12 (.lst l) := by
  show (match s.at_ a with
      | some (.lst l) => (l.mapM (toD s 11)).map PyData.list
      | _ => none) = _
  rw [h]
  rfl
theorem neR {a : Nat} {l m : List W} (h : s.at_ a = some (.lst l)) (hl : DtA 11 l) (hm : DtA 11 m) : neV (.ref a) (.lst m) s = .ok (.bl (!decide (l = m))) s := by
  have hl' : Dt 12 (.lst l) := by rw [Dt_l12]; exact hl
  have hm' : Dt 12 (.lst m) := by rw [Dt_l12]; exact hm
  have e : eqD s (.ref a) (.lst m) = eqD s (.lst l) (.lst m) := by
    unfold eqD
    rw [toD_rf h hl]
  unfold neV
  rw [e, eqD_dat hl' hm']
  simp
def oFSum : Option (List Int) → S → Out W
  | some ns, s => .ok (.int ns.sum) s
  | none, _ => .bad
theorem intsW_m {α : Type} {f : α → Int} : ∀ xs : List α, intsW (xs.map fun x => .int (f x)) = some (xs.map f)
  | [] => rfl
  | x :: xs => by
    show (intsW (xs.map fun x => .int (f x))).map (f x :: ·) = _
    rw [intsW_m xs]
    rfl
@[simp] theorem fSum_t {α : Type} {f : α → Int} {xs : List α} : fSum [.tup (xs.map fun x => .int (f x))] s = .ok (.int (xs.map f).sum) s := by
  unfold fSum
  simp only [intsW_m]
@[simp] theorem fSum_m {α : Type} {f : α → Int} {xs : List α} : fSum [.lst (xs.map fun x => .int (f x))] s = .ok (.int (xs.map f).sum) s := by
  unfold fSum
  simp only [lsW, intsW_m]
end
end RS
set_option Elab.async false
set_option linter.all false
set_option maxRecDepth 100000
set_option maxHeartbeats 1000000
set_option autoImplicit false
/-! RS.P6: names of a dict, order of rows. -/
namespace RS
open PySem L2
abbrev sW (x : String) : W := .str (Str.ofString x)
section
variable {α : Type} {Q : W → S → Prop} {X : Str → S → Prop} {N : Env → S → Prop} {P : Pk} {ρ : Env} {s : S}
theorem dhas_mem : ∀ {l : List (W × W)} {x : W}, dhas l x = decide (x ∈ l.map (·.1))
  | [], x => by simp
  | (k, v) :: l, x => by
    rw [dhas_c, dhas_mem, ← Bool.decide_or]
    congr 1
    simp [eq_comm]
theorem dput_keys {l : List (W × W)} {x y : W} : (dput l x y).map (·.1) = if x ∈ l.map (·.1) then l.map (·.1) else l.map (·.1) ++ [x] := by
  rw [dput_p, dhas_mem]
  by_cases h : x ∈ l.map (·.1)
  · rw [if_pos (by simpa using h), if_pos h, List.map_map]
    refine List.map_congr_left fun p _ => ?_
    show (if p.1 = x then (p.1, y) else p).1 = p.1
    split <;> rfl
  · rw [if_neg (by simpa using h), if_neg h]
    simp
/-- without what stood already -/
def ded (xs : List String) : List String := xs.foldl (fun acc x => if x ∈ acc then acc else acc ++ [x]) []
theorem ded_go {v : String → W} : ∀ (xs acc : List String) (l : List (W × W)), l.map (·.1) = acc.map sW → (mergeW l (xs.map fun x => (sW x, v x))).map (·.1) = (xs.foldl (fun acc x => if x ∈ acc then acc else acc ++ [x]) acc).map sW
  | [], acc, l, h => h
  | x :: xs, acc, l, h => by
    show (mergeW (dput l (sW x) (v x)) (xs.map fun x => (sW x, v x))).map (·.1) = _
    rw [List.foldl_cons]
    refine ded_go xs _ _ ?_
    rw [dput_keys, h]
    have e : (sW x ∈ acc.map sW) = (x ∈ acc) := by simp
    simp only [e]
    split <;> simp
theorem ded_eq {v : String → W} (xs : List String) : (mergeW [] (xs.map fun x => (sW x, v x))).map (·.1) = (ded xs).map sW := ded_go xs [] [] rfl
theorem key_map : ∀ {l : List (W × W)}, (∀ k ∈ l.map (·.1), isKey k = true) → (l.map fun p => toKey p.1).map kW = l.map (·.1)
  | [], _ => rfl
  | (k, v) :: l, h => by
    show kW (toKey k) :: _ = k :: _
    rw [key_back (h k (by simp))]
    congr 1
    exact key_map fun z hz => h z (by simp at hz ⊢; exact .inr hz)
theorem ded_keys {v : String → W} (xs : List String) : ((mergeW [] (xs.map fun x => (sW x, v x))).map fun p => toKey p.1).map kW = (ded xs).map sW := by
  rw [key_map, ded_eq]
  intro k hk
  rw [ded_eq] at hk
  obtain ⟨x, _, rfl⟩ := List.mem_map.mp hk
  rfl
theorem ded_mem {x : String} : ∀ (xs acc : List String), x ∈ xs.foldl (fun acc x => if x ∈ acc then acc else acc ++ [x]) acc → x ∈ acc ∨ x ∈ xs
  | [], acc, h => .inl h
  | y :: xs, acc, h => by
    rw [List.foldl_cons] at h
    rcases ded_mem xs _ h with h | h
    · split at h
      · exact .inl h
      · rcases List.mem_append.mp h with h | h
        · exact .inl h
        · exact .inr (by rw [List.mem_singleton.mp h]; exact List.mem_cons_self)
    · exact .inr (List.mem_cons_of_mem _ h)
theorem ded_len : ∀ (xs acc : List String), (xs.foldl (fun acc x => if x ∈ acc then acc else acc ++ [x]) acc).length ≤ acc.length + xs.length
  | [], acc => Nat.le_refl _
  | y :: xs, acc => by
    rw [List.foldl_cons]
    have h := ded_len xs (if y ∈ acc then acc else acc ++ [y])
    have : (if y ∈ acc then acc else acc ++ [y]).length ≤ acc.length + 1 := by split <;> simp
    rw [List.length_cons]
    omega
theorem pairs_m {kf vf : α → W} : ∀ xs : List α, (∀ x ∈ xs, isKey (kf x) = true) → pairsW (xs.map fun x => .tup [kf x, vf x]) = some (xs.map fun x => (kf x, vf x))
  | [], _ => rfl
  | x :: xs, h => by
    show (if isKey (kf x) = true then (pairsW (xs.map fun x => .tup [kf x, vf x])).map ((kf x, vf x) :: ·) else none) = _
    rw [if_pos (h x List.mem_cons_self), pairs_m xs fun y hy => h y (List.mem_cons_of_mem _ hy)]
    rfl
theorem fDict_m {v : Bool} {kf vf : α → W} {xs : List α} (h : ∀ x ∈ xs, isKey (kf x) = true) : fDict v [.lst (xs.map fun x => .tup [kf x, vf x])] s = mkD v (mergeW [] (xs.map fun x => (kf x, vf x))) s := by
  unfold fDict dictOf
  simp only [lsW]
  rw [pairs_m xs h]
  rfl
/-! ### sorted -/
def oSo (v : Bool) : Option O → S → Out W
  | some (.lst l), s => oL v (sortW s l) s
  | some (.dct l), s => oL v (sortW s (l.map (·.1))) s
  | _, _ => .bad
@[simp] theorem oSo_l {v : Bool} {l : List W} : oSo v (some (.lst l)) s = oL v (sortW s l) s := rfl
@[simp] theorem oSo_d {v : Bool} {l : List (W × W)} : oSo v (some (.dct l)) s = oL v (sortW s (l.map (·.1))) s := rfl
@[simp] theorem fSorted_l {v : Bool} {l : List W} : fSorted v [.lst l] s = oL v (sortW s l) s := by
  unfold fSorted
  simp only [lsW]
  cases sortW s l <;> rfl
@[simp] theorem fSorted_d {v : Bool} {ks : List Key} {l : List W} : fSorted v [.dct ks l] s = oL v (sortW s ((List.zip (ks.map kW) l).map (·.1))) s := by
  unfold fSorted
  simp only [lsW, dcW]
  cases sortW s ((List.zip (ks.map kW) l).map (·.1)) <;> rfl
@[simp] theorem fSorted_r {v : Bool} {a : Nat} : fSorted v [.ref a] s = oSo v (s.at_ a) s := by
  unfold fSorted oSo
  simp only [lsW, dcW]
  rcases s.at_ a with _ | o
  · rfl
  · cases o <;> first | rfl | (simp only; rename_i l; cases sortW s l <;> rfl) | (simp only; rename_i l; cases sortW s (l.map (·.1)) <;> rfl)
def srtE (enc : α → W) (xs : List α) : List α := xs.mergeSort fun a b => leW (enc a) (enc b)
theorem srt_map {enc : α → W} {xs : List α} : srtW (xs.map enc) = (srtE enc xs).map enc := (List.map_mergeSort (r := fun a b => leW (enc a) (enc b)) (s := leW) (f := enc) (fun a _ b _ => rfl)).symm
theorem leW_anti {a b : W} (h1 : leW a b = true) (h2 : leW b a = true) : PySem.W.keyToks (dW a) = PySem.W.keyToks (dW b) := by
  have h1 : (!(PyProof.Rows.listOrd PyProof.Rows.itemOrd).blt (PySem.W.keyToks (dW b)) (PySem.W.keyToks (dW a))) = true := h1
  have h2 : (!(PyProof.Rows.listOrd PyProof.Rows.itemOrd).blt (PySem.W.keyToks (dW a)) (PySem.W.keyToks (dW b))) = true := h2
  rw [Bool.not_eq_true'] at h1 h2
  exact (PyProof.Rows.listOrd PyProof.Rows.itemOrd).total _ _ h2 h1
theorem srt_filter {enc : α → W} {xs : List α} {p : α → Bool} (inj : ∀ a ∈ xs, ∀ b ∈ xs, PySem.W.keyToks (dW (enc a)) = PySem.W.keyToks (dW (enc b)) → a = b) : srtE enc (xs.filter p) = (srtE enc xs).filter p := by
  refine List.Perm.eq_of_pairwise (le := fun a b => leW (enc a) (enc b) = true) (fun a b ha hb h1 h2 => ?_) (List.pairwise_mergeSort (le := fun a b => leW (enc a) (enc b)) (fun a b c => leW_trans (enc a) (enc b) (enc c)) (fun a b => leW_total (enc a) (enc b)) _) ((List.pairwise_mergeSort (le := fun a b => leW (enc a) (enc b)) (fun a b c => leW_trans (enc a) (enc b) (enc c)) (fun a b => leW_total (enc a) (enc b)) xs).filter p) ?_
  · refine inj a ?_ b ?_ (leW_anti h1 h2)
    · exact (List.mem_filter.mp ((List.mergeSort_perm _ _).mem_iff.mp ha)).1
    · exact (List.mergeSort_perm _ _).mem_iff.mp (List.mem_filter.mp hb).1
  · exact (List.mergeSort_perm _ _).trans ((List.mergeSort_perm xs _).filter p).symm
theorem srtE_mem {enc : α → W} {xs : List α} {x : α} : x ∈ srtE enc xs ↔ x ∈ xs := (List.mergeSort_perm _ _).mem_iff
theorem srtE_len {enc : α → W} {xs : List α} : (srtE enc xs).length = xs.length := List.length_mergeSort _
theorem zipIdx_mem {xs : List α} {p : α × Nat} (h : p ∈ xs.zipIdx) : p.1 ∈ xs := by
  obtain ⟨i, hi, e⟩ := List.mem_iff_getElem.mp h
  rw [List.getElem_zipIdx] at e
  rw [← e]
  exact List.getElem_mem _
theorem mergeW_nd : ∀ (l acc : List (W × W)), ((acc ++ l).map (·.1)).Nodup → mergeW acc l = acc ++ l
  | [], acc, _ => by simp
  | (k, v) :: l, acc, h => by
    rw [mergeW_c]
    have hk : k ∉ acc.map (·.1) := by
      rw [List.map_append, List.map_cons] at h
      have := (List.nodup_append.mp h).2.2
      intro z
      exact this k z k List.mem_cons_self rfl
    have e : dput acc k v = acc ++ [(k, v)] := by
      rw [dput_p, dhas_mem, if_neg (by simpa using hk)]
    rw [e, mergeW_nd l (acc ++ [(k, v)]) (by simpa using h)]
    simp
def liK (v : Bool) (w : W) (s : S) : Out W := match dcW s w with
  | some l => mkL v (l.map fun kv => .tup [kv.1, kv.2]) s
  | none => .bad
@[simp] theorem liK_d {v : Bool} {ks : List Key} {l : List W} : liK v (.dct ks l) s = mkL v ((List.zip (ks.map kW) l).map fun kv => .tup [kv.1, kv.2]) s := rfl
@[simp] theorem eLItems_p {v : Bool} {m : E} : eLItems v m ρ s = (m ρ s).bind (liK v) := rfl
@[simp] theorem bAug_P {i : Nat} {f : W → W → M W} {e : E} : Ps (bAug i f e ρ s) N P = Pe (vE ρ[i]? s) (fun x _ => Pe (e ρ s) (fun y s1 => Pe (f x y s1) (fun z s2 => N (ρ.set i (some z)) s2) P.x) P.x) P.x := by
  unfold bAug
  rcases ρ[i]? with _ | _ | w
  · rfl
  · rfl
  · simp only [vE_some, Pe_ok]
    rw [Ps_bindS]
    exact Pe_q fun y s1 => Ps_bindS
def oIad (a : Nat) (m : List W) (s : S) : Option O → Out W
  | some (.lst l) => gB (decide (l.length + m.length ≤ 16777216)) (.ok (.ref a) (s.set a (.lst (l ++ m))))
  | _ => .bad
@[simp] theorem oIad_l {a : Nat} {l m : List W} : oIad a m s (some (.lst l)) = gB (decide (l.length + m.length ≤ 16777216)) (.ok (.ref a) (s.set a (.lst (l ++ m)))) := rfl
@[simp] theorem iadd_r {a : Nat} {m : List W} {l : List O} : iaddV (.ref a) (.lst m) (Hl l) = oIad a m (Hl l) l[a]? := by
  unfold iaddV oIad gB
  simp only [Hl_lk, List.not_mem_nil, if_false, lsW, Hl_at, decide_eq_true_eq]
  rcases l[a]? with _ | o
  · rfl
  · cases o <;> rfl
@[simp] theorem iadd_i {i j : Int} : iaddV (.int i) (.int j) s = .ok (.int (i + j)) s := rfl
@[simp] theorem best_t2 {i j : Int} : fBest false [.tup [.int i, .int j]] s = .ok (.int (min i j)) s := by
  show (match bestW false s [.int i, .int j] with
    | some w => Out.ok w s
    | none => .bad) = _
  have e : bestW false s [.int i, .int j] = some (.int (min i j)) := by
    unfold bestW
    show (if (alikeD [PyData.int i, .int j] && [PyData.int i, .int j].all notNone) = true then [W.int i, .int j][argBest _ 1]? else none) = _
    rw [if_pos (by rfl)]
    show [W.int i, .int j][if PySem.W.dataLt (PyData.int j) (.int i) = true then 1 else 0]? = _
    rw [PySem.W.dataLt_int]
    by_cases h : j < i
    · rw [if_pos (by simpa using h), show min i j = j by omega]; rfl
    · rw [if_neg (by simpa using h), show min i j = i by omega]; rfl
  rw [e]
end
end RS
set_option Elab.async false
set_option linter.all false
set_option maxRecDepth 100000
set_option maxHeartbeats 4000000
set_option autoImplicit false
namespace K14
open PySem PySem.Spec PyProof.Rows L2 RS
def top (i : Nat) : Stmt := PySem.Challenge.pw_rentstack_k14_wishes_taken_back.main.body.getD i (.Pass ⟨0, 0, 0, 0⟩)
def inC (i j : Nat) : Stmt := (match top i with
  | .ClassDef _ _ _ b _ _ _ _ _ _ _ => b
  | _ => []).getD j (.Pass ⟨0, 0, 0, 0⟩)
def forBody (st : Stmt) : List Stmt := ((defBody st).findSome? fun s => match s with
  | .For _ _ b _ _ => some b
  | _ => none).getD []
def preE (st : Stmt) : Expr := match defBody st with
  | .Assign _ e _ :: _ => e
  | _ => .Name "" ⟨0, 0, 0, 0⟩
abbrev s_change_price : Stmt := top 7
abbrev s_voucher_for : Stmt := top 8
abbrev s_waiting_order : Stmt := top 9
abbrev s__law_dice : Stmt := top 11
abbrev s__law_roll : Stmt := top 12
abbrev s__law_rounds : Stmt := top 13
abbrev s__law_part : Stmt := top 15
abbrev s__law_back : Stmt := top 16
abbrev s_CancelBook___init__ : Stmt := inC 6 0
abbrev s_CancelBook_counts_of : Stmt := inC 6 3
abbrev s_CancelBook_kept_of_all : Stmt := inC 6 2
abbrev s_CancelBook_never_part : Stmt := inC 6 4
abbrev s_CancelBook_note_one : Stmt := inC 6 1
abbrev s_CancelBook_worst_ones : Stmt := inC 6 5
abbrev s_CancelRules___init__ : Stmt := inC 5 0
abbrev s_CancelRules_part_ahead : Stmt := inC 5 1
abbrev s_CancelRules_given_back : Stmt := inC 5 2
abbrev s_CancelRules_best_moment : Stmt := inC 5 4
abbrev s_CancelRules_last_for : Stmt := inC 5 3
abbrev s_CancelRules_rule_lines : Stmt := inC 5 5
abbrev s__law_plain : Stmt := top 17
abbrev s_law : Stmt := top 18
/-! ### the mirrors -/
namespace Mi
/-- turns of a while, more than any makes -/
def FUEL : Nat := 1000000
def change_price_b : B := bSeq (bIf (tE (eBin ltV (eBt (fBest false) (eCons (eVar 0) (eCons (eVar 1) (eCons (eVar 2) (eCons (eVar 3) (eNil)))))) (eK (.int 0)))) (bSeq (bRaise "CancelError") (bNil)) (bNil)) (bSeq (bAsg (eBin addV (eBin subV (eVar 1) (eVar 2)) (eVar 3)) (gN 4)) (bSeq (bRet (eIf (tE (eBin geV (eVar 1) (eVar 0))) (eBt (fBest true) (eCons (eVar 4) (eCons (eVar 3) (eNil)))) (eVar 4))) (bNil)))
def change_price : List W → M W := bodyM 5 change_price_b
def voucher_for_b : B := bSeq (bIf (tOr (tE (eBin ltV (eVar 0) (eK (.int 1)))) (tOr (tE (eBin ltV (eVar 1) (eK (.int 0)))) (tE (eBin ltV (eVar 2) (eK (.int 1)))))) (bSeq (bRaise "CancelError") (bNil)) (bNil)) (bSeq (bRet (eTup (eCons (eBin addV (eVar 0) (eBin fdivV (eBin mulV (eVar 0) (eVar 1)) (eK (.int 1000)))) (eCons (eBin subV (eBin addV (eVar 3) (eBin mulV (eK (.int 30)) (eVar 2))) (eK (.int 1))) (eNil))))) (bNil))
def voucher_for : List W → M W := bodyM 4 voucher_for_b
def waiting_order_s1 : B := bIf (tOr (tE (eBin ltV (eVar 1) (eK (.int 0)))) (tE (eAny true (iE (eVar 0)) [2] (gN 2) (tYesW) (eBin ltV (eBt (fBest false) (eCons (eSl true (eVar 2) (oSome (eK (.int 1))) oNone) (eNil))) (eK (.int 1)))))) (bSeq (bRaise "CancelError") (bNil)) (bNil)
def waiting_order_s2 : B := bAsg (eSortG true (iEn (eCons (eVar 0) (eNil))) [4, 2] (gSeq 2 (gsCons (gN 4) (gsCons (gN 2) (gsNil)))) (tYesW) (eTup (eCons (eBin ixV (eVar 2) (eK (.int 0))) (eCons (eBin subV (eK (.int 0)) (eBin ixV (eVar 2) (eK (.int 1)))) (eCons (eVar 4) (eNil)))))) (gN 3)
def waiting_order_s3 : B := bPar2 5 6 (eCons (eVar 1) (eCons (eLst false (eNil)) (eNil)))
def waiting_order_s5 : B := bIf (tE (eBin leV (eBin ixV (eBin ixV (eVar 0) (eVar 4)) (eK (.int 2))) (eVar 5))) (bSeq (bAug 5 subV (eBin ixV (eBin ixV (eVar 0) (eVar 4)) (eK (.int 2)))) (bSeq (bExpr (eBm "list" fAppend (eVar 6) (eCons (eVar 4) (eNil)))) (bNil))) (bNil)
def waiting_order_s4_b : B := bSeq waiting_order_s5 bNil
def waiting_order_s4 : B := bFor (iE (eVar 3)) (gSeq 3 (gsCons (gN 7) (gsCons (gN 8) (gsCons (gN 4) (gsNil))))) waiting_order_s4_b
def waiting_order_s6 : B := bRet (eBt fTuple (eCons (eVar 6) (eNil)))
def waiting_order_b : B := bSeq waiting_order_s1 (bSeq waiting_order_s2 (bSeq waiting_order_s3 (bSeq waiting_order_s4 (bSeq waiting_order_s6 bNil))))
def waiting_order : List W → M W := bodyM 9 waiting_order_b
def _law_dice_b : B := dice_b
def _law_dice : List W → M W := diceM
def _law_roll : Nat → List W → M W := rollM
def _law_rounds_b : B := rounds_b
def _law_rounds : List W → Int → M W := roundsF
def _law_part_b : B := bSeq (bRet (eBin ixV (eBin addV (eLst true (eCons (eK (.int 0)) (eNil))) (eLc true (iE (eBin ixV (eVar 0) (eK (.str "steps")))) [2, 3] (gSeq 2 (gsCons (gN 2) (gsCons (gN 3) (gsNil)))) (tE (eBin leV (eVar 2) (eVar 1))) (eVar 3))) (eUn negV (eK (.int 1))))) (bNil)
def _law_part : List W → M W := bodyM 4 _law_part_b
def _law_back_b : B := bSeq (bIf (tE (eBin (inW false) (eVar 1) (eLst true (eCons (eK (.str "house")) (eCons (eK (.str "never")) (eNil)))))) (bSeq (bRet (eBin mulV (eVar 2) (eBt fInt (eCons (eBin eqV (eVar 1) (eK (.str "house"))) (eNil))))) (bNil)) (bNil)) (bSeq (bAsg (eIf (tE (eBin eqV (eVar 1) (eK (.str "force")))) (eVar 2) (eBin fdivV (eBin mulV (eBt (fBest true) (eCons (eK (.int 0)) (eCons (eBin subV (eVar 2) (eBin ixV (eVar 0) (eK (.str "never")))) (eNil)))) (eCall Mi._law_part (eCons (eVar 0) (eCons (eVar 3) (eNil))))) (eK (.int 1000)))) (gN 4)) (bSeq (bRet (eBt (fBest true) (eCons (eK (.int 0)) (eCons (eBin subV (eVar 4) (eBin ixV (eVar 0) (eK (.str "fee")))) (eNil))))) (bNil)))
def _law_back : List W → M W := bodyM 5 _law_back_b
def CancelBook___init___b : B := bSeq (bFld ["CancelBook"] "rows" (eVar 0) (eLst false (eNil))) (bNil)
def CancelBook___init__ : List W → M W := bodyM 1 CancelBook___init___b
def CancelBook_counts_of_b : B := bSeq (bAsg (eLc true (iE (eFld ["CancelBook"] "rows" (eVar 0))) [3] (gN 3) (tE (eBin eqV (eBin ixV (eVar 3) (eK (.int 0))) (eVar 1))) (eBin ixV (eVar 3) (eK (.int 1)))) (gN 2)) (bSeq (bRet (eDc true (iE (eK (.tup [(.str "one"), (.str "house"), (.str "never"), (.str "force")]))) [4] (gN 4) (tE (eBin (inW false) (eVar 4) (eVar 2))) (eVar 4) (eBm "list" fCount (eVar 2) (eCons (eVar 4) (eNil))))) (bNil))
def CancelBook_counts_of : List W → M W := bodyM 5 CancelBook_counts_of_b
def CancelBook_kept_of_all_b : B := bSeq (bRet (eSumG (iE (eFld ["CancelBook"] "rows" (eVar 0))) [1] (gN 1) (tYesW) (eBin subV (eBin ixV (eVar 1) (eK (.int 2))) (eBin ixV (eVar 1) (eK (.int 3)))))) (bNil)
def CancelBook_kept_of_all : List W → M W := bodyM 2 CancelBook_kept_of_all_b
def CancelBook_never_part_b : B := bSeq (bIf (tE (eBin ltV (eVar 1) (eBt (fBest true) (eCons (eK (.int 1)) (eCons (eBt fLen (eCons (eFld ["CancelBook"] "rows" (eVar 0)) (eNil))) (eNil)))))) (bSeq (bRaise "CancelError") (bNil)) (bNil)) (bSeq (bRet (eBin fdivV (eBin mulV (eK (.int 1000)) (eBt fLen (eCons (eLc true (iE (eFld ["CancelBook"] "rows" (eVar 0))) [2] (gN 2) (tE (eBin eqV (eBin ixV (eVar 2) (eK (.int 1))) (eK (.str "never")))) (eK (.int 1))) (eNil)))) (eVar 1))) (bNil))
def CancelBook_never_part : List W → M W := bodyM 3 CancelBook_never_part_b
def CancelBook_note_one_b : B := bSeq (bIf (tOr (tE (eBin eqV (eVar 1) (eK (.str "")))) (tOr (tE (eBin (inW true) (eVar 2) (eK (.tup [(.str "one"), (.str "house"), (.str "never"), (.str "force")])))) (tNot (tE (eChain leV leV (eK (.int 0)) (eVar 4) (eVar 3)))))) (bSeq (bRaise "CancelError") (bNil)) (bNil)) (bSeq (bExpr (eBm "list" fAppend (eFld ["CancelBook"] "rows" (eVar 0)) (eCons (eTup (eCons (eVar 1) (eCons (eVar 2) (eCons (eVar 3) (eCons (eVar 4) (eNil)))))) (eNil)))) (bNil))
def CancelBook_note_one : List W → M W := bodyM 5 CancelBook_note_one_b
def CancelBook_worst_ones_s1 : B := bIf (tE (eBin ltV (eVar 1) (eK (.int 1)))) (bSeq (bRaise "CancelError") (bNil)) (bNil)
def CancelBook_worst_ones_s2 : B := bAsg (eLc true (iE (eFld ["CancelBook"] "rows" (eVar 0))) [3] (gN 3) (tE (eBin eqV (eBin ixV (eVar 3) (eK (.int 1))) (eK (.str "never")))) (eBin ixV (eVar 3) (eK (.int 0)))) (gN 2)
def CancelBook_worst_ones_s3 : B := bAsg (eLst false (eNil)) (gN 4)
def CancelBook_worst_ones_s5 : B := bAug 4 iaddV (eIf (tE (eBin geV (eBm "list" fCount (eVar 2) (eCons (eVar 6) (eNil))) (eVar 1))) (eLst true (eCons (eTup (eCons (eBin subV (eK (.int 0)) (eBm "list" fCount (eVar 2) (eCons (eVar 6) (eNil)))) (eCons (eVar 5) (eCons (eVar 6) (eNil))))) (eNil))) (eLst true (eNil)))
def CancelBook_worst_ones_s4_b : B := bSeq CancelBook_worst_ones_s5 bNil
def CancelBook_worst_ones_s4 : B := bFor (iEn (eCons (eDc true (iE (eVar 2)) [6] (gN 6) (tYesW) (eVar 6) (eK (.bl true))) (eNil))) (gSeq 2 (gsCons (gN 5) (gsCons (gN 6) (gsNil)))) CancelBook_worst_ones_s4_b
def CancelBook_worst_ones_s6 : B := bRet (eTupG (iE (eBt (fSorted true) (eCons (eVar 4) (eNil)))) [7, 5, 6] (gSeq 3 (gsCons (gN 7) (gsCons (gN 5) (gsCons (gN 6) (gsNil))))) (tYesW) (eVar 6))
def CancelBook_worst_ones_b : B := bSeq CancelBook_worst_ones_s1 (bSeq CancelBook_worst_ones_s2 (bSeq CancelBook_worst_ones_s3 (bSeq CancelBook_worst_ones_s4 (bSeq CancelBook_worst_ones_s6 bNil))))
def CancelBook_worst_ones : List W → M W := bodyM 8 CancelBook_worst_ones_b
def CancelRules___init___b : B := bSeq (bIf (tOr (tE (eBin eqV (eBt fLen (eCons (eVar 1) (eNil))) (eK (.int 0)))) (tOr (tE (eBin neV (eBin ixV (eBin ixV (eVar 1) (eK (.int 0))) (eK (.int 0))) (eK (.int 0)))) (tE (eAny true (iE (eVar 1)) [4, 5] (gSeq 2 (gsCons (gN 4) (gsCons (gN 5) (gsNil)))) (tYesW) (eNot (eChain leV leV (eK (.int 0)) (eVar 5) (eK (.int 1000)))))))) (bSeq (bRaise "CancelError") (bNil)) (bNil)) (bSeq (bIf (tE (eAny true (iZp (eCons (eVar 1) (eCons (eSl true (eVar 1) (oSome (eK (.int 1))) oNone) (eNil)))) [6, 7] (gSeq 2 (gsCons (gN 6) (gsCons (gN 7) (gsNil)))) (tYesW) (eOr (eBin leV (eBin ixV (eVar 7) (eK (.int 0))) (eBin ixV (eVar 6) (eK (.int 0)))) (eBin ltV (eBin ixV (eVar 7) (eK (.int 1))) (eBin ixV (eVar 6) (eK (.int 1))))))) (bSeq (bRaise "CancelError") (bNil)) (bNil)) (bSeq (bIf (tE (eBin ltV (eBt (fBest false) (eCons (eVar 2) (eCons (eVar 3) (eNil)))) (eK (.int 0)))) (bSeq (bRaise "CancelError") (bNil)) (bNil)) (bSeq (bFld ["CancelRules"] "steps" (eVar 0) (eBt fTuple (eCons (eVar 1) (eNil)))) (bSeq (bFld ["CancelRules"] "fee" (eVar 0) (eVar 2)) (bSeq (bFld ["CancelRules"] "never" (eVar 0) (eVar 3)) (bNil))))))
def CancelRules___init__ : List W → M W := bodyM 8 CancelRules___init___b
def CancelRules_part_ahead_b : B := bSeq (bAsg (eLc true (iE (eFld ["CancelRules"] "steps" (eVar 0))) [3, 4] (gSeq 2 (gsCons (gN 3) (gsCons (gN 4) (gsNil)))) (tE (eBin leV (eVar 3) (eVar 1))) (eVar 4)) (gN 2)) (bSeq (bRet (eIf (tE (eBin neV (eVar 2) (eLst true (eNil)))) (eBin ixV (eVar 2) (eUn negV (eK (.int 1)))) (eK (.int 0)))) (bNil))
def CancelRules_part_ahead : List W → M W := bodyM 5 CancelRules_part_ahead_b
def CancelRules_given_back_b : B := bSeq (bIf (tOr (tE (eBin (inW true) (eVar 1) (eK (.tup [(.str "one"), (.str "house"), (.str "never"), (.str "force")])))) (tE (eBin ltV (eVar 2) (eK (.int 0))))) (bSeq (bRaise "CancelError") (bNil)) (bNil)) (bSeq (bIf (tE (eBin eqV (eVar 1) (eK (.str "house")))) (bSeq (bRet (eVar 2)) (bNil)) (bNil)) (bSeq (bIf (tE (eBin eqV (eVar 1) (eK (.str "never")))) (bSeq (bRet (eK (.int 0))) (bNil)) (bNil)) (bSeq (bIf (tE (eBin eqV (eVar 1) (eK (.str "force")))) (bSeq (bRet (eBt (fBest true) (eCons (eK (.int 0)) (eCons (eBin subV (eVar 2) (eFld ["CancelRules"] "fee" (eVar 0))) (eNil))))) (bNil)) (bNil)) (bSeq (bRet (eBt (fBest true) (eCons (eK (.int 0)) (eCons (eBin subV (eBin fdivV (eBin mulV (eBt (fBest true) (eCons (eK (.int 0)) (eCons (eBin subV (eVar 2) (eFld ["CancelRules"] "never" (eVar 0))) (eNil)))) (eMeth "CancelRules" "part_ahead" Mi.CancelRules_part_ahead (eVar 0) (eCons (eVar 3) (eNil)))) (eK (.int 1000))) (eFld ["CancelRules"] "fee" (eVar 0))) (eNil))))) (bNil)))))
def CancelRules_given_back : List W → M W := bodyM 4 CancelRules_given_back_b
def CancelRules_best_moment_b : B := bSeq (bIf (tOr (tE (eBin ltV (eBt (fBest false) (eCons (eVar 1) (eCons (eVar 2) (eNil)))) (eK (.int 0)))) (tNot (tE (eChain leV leV (eK (.int 0)) (eVar 3) (eK (.int 1000)))))) (bSeq (bRaise "CancelError") (bNil)) (bNil)) (bSeq (bAsg (eLc true (iE (eFld ["CancelRules"] "steps" (eVar 0))) [5, 6] (gSeq 2 (gsCons (gN 5) (gsCons (gN 6) (gsNil)))) (tE (eBin leV (eVar 5) (eVar 2))) (eVar 5)) (gN 4)) (bSeq (bAsg (eIf (tE (eBin neV (eVar 4) (eLst true (eNil)))) (eBin subV (eBin ixV (eVar 4) (eUn negV (eK (.int 1)))) (eK (.int 1))) (eK (.int 0))) (gN 7)) (bSeq (bAsg (eMeth "CancelRules" "given_back" Mi.CancelRules_given_back (eVar 0) (eCons (eK (.str "one")) (eCons (eVar 1) (eCons (eVar 7) (eNil))))) (gN 8)) (bSeq (bRet (eTup (eCons (eMeth "CancelRules" "given_back" Mi.CancelRules_given_back (eVar 0) (eCons (eK (.str "one")) (eCons (eVar 1) (eCons (eVar 2) (eNil))))) (eCons (eBin fdivV (eBin addV (eBin mulV (eVar 3) (eVar 1)) (eBin mulV (eBin subV (eK (.int 1000)) (eVar 3)) (eVar 8))) (eK (.int 1000))) (eNil))))) (bNil)))))
def CancelRules_best_moment : List W → M W := bodyM 9 CancelRules_best_moment_b
def CancelRules_last_for_b : B := bSeq (bIf (tNot (tE (eChain leV leV (eK (.int 0)) (eVar 1) (eK (.int 1000))))) (bSeq (bRaise "CancelError") (bNil)) (bNil)) (bSeq (bAsg (eLc true (iE (eFld ["CancelRules"] "steps" (eVar 0))) [3, 4] (gSeq 2 (gsCons (gN 3) (gsCons (gN 4) (gsNil)))) (tE (eBin geV (eVar 4) (eVar 1))) (eVar 3)) (gN 2)) (bSeq (bRet (eIf (tE (eBin neV (eVar 2) (eLst true (eNil)))) (eBin ixV (eVar 2) (eK (.int 0))) (eK .non))) (bNil)))
def CancelRules_last_for : List W → M W := bodyM 5 CancelRules_last_for_b
def CancelRules_rule_lines_b : B := bSeq (bRet (eBt fTuple (eCons (eLc true (iE (eFld ["CancelRules"] "steps" (eVar 0))) [1, 2] (gSeq 2 (gsCons (gN 1) (gsCons (gN 2) (gsNil)))) (tYesW) (eJoin [eFmt (eVar 1), eK (.str " "), eFmt (eVar 2)])) (eNil)))) (bNil)
def CancelRules_rule_lines : List W → M W := bodyM 3 CancelRules_rule_lines_b
def _law_plain_b : B := bSeq (bAsg (eTup (eCons (eMake "CancelRules" Mi.CancelRules___init__ (eCons (eTup (eCons (eTup (eCons (eK (.int 0)) (eCons (eK (.int 0)) (eNil)))) (eCons (eTup (eCons (eK (.int 1440)) (eCons (eK (.int 500)) (eNil)))) (eCons (eTup (eCons (eK (.int 4320)) (eCons (eK (.int 1000)) (eNil)))) (eNil))))) (eCons (eK (.int 100)) (eCons (eK (.int 200)) (eNil))))) (eCons (eMake "CancelBook" Mi.CancelBook___init__ eNil) (eNil)))) (gSeq 2 (gsCons (gN 0) (gsCons (gN 1) (gsNil))))) (bSeq (bAsg (eLst true (eCons (eMeth "CancelRules" "part_ahead" Mi.CancelRules_part_ahead (eVar 0) (eCons (eUn negV (eK (.int 5))) (eNil))) (eCons (eMeth "CancelRules" "part_ahead" Mi.CancelRules_part_ahead (eVar 0) (eCons (eK (.int 1440)) (eNil))) (eCons (eMeth "CancelRules" "given_back" Mi.CancelRules_given_back (eVar 0) (eCons (eK (.str "one")) (eCons (eK (.int 1000)) (eCons (eK (.int 2000)) (eNil))))) (eCons (eMeth "CancelRules" "given_back" Mi.CancelRules_given_back (eVar 0) (eCons (eK (.str "one")) (eCons (eK (.int 1000)) (eCons (eK (.int 5000)) (eNil))))) (eNil)))))) (gN 2)) (bSeq (bAsg (eBin addV (eVar 2) (eLst true (eCons (eMeth "CancelRules" "given_back" Mi.CancelRules_given_back (eVar 0) (eCons (eK (.str "one")) (eCons (eK (.int 100)) (eCons (eK (.int 5000)) (eNil))))) (eCons (eMeth "CancelRules" "given_back" Mi.CancelRules_given_back (eVar 0) (eCons (eK (.str "house")) (eCons (eK (.int 1000)) (eCons (eK (.int 0)) (eNil))))) (eCons (eMeth "CancelRules" "given_back" Mi.CancelRules_given_back (eVar 0) (eCons (eK (.str "never")) (eCons (eK (.int 1000)) (eCons (eK (.int 9999)) (eNil))))) (eNil)))))) (gN 2)) (bSeq (bAsg (eBin addV (eVar 2) (eLst true (eCons (eMeth "CancelRules" "given_back" Mi.CancelRules_given_back (eVar 0) (eCons (eK (.str "force")) (eCons (eK (.int 1000)) (eCons (eK (.int 0)) (eNil))))) (eCons (eMeth "CancelRules" "given_back" Mi.CancelRules_given_back (eVar 0) (eCons (eK (.str "force")) (eCons (eK (.int 50)) (eCons (eK (.int 0)) (eNil))))) (eCons (eMeth "CancelRules" "last_for" Mi.CancelRules_last_for (eVar 0) (eCons (eK (.int 600)) (eNil))) (eCons (eMeth "CancelRules" "last_for" Mi.CancelRules_last_for (eVar 0) (eCons (eK (.int 0)) (eNil))) (eNil))))))) (gN 2)) (bSeq (bAsg (eBin addV (eVar 2) (eLst true (eCons (eMeth "CancelRules" "best_moment" Mi.CancelRules_best_moment (eVar 0) (eCons (eK (.int 1000)) (eCons (eK (.int 2000)) (eCons (eK (.int 500)) (eNil))))) (eCons (eMeth "CancelRules" "rule_lines" Mi.CancelRules_rule_lines (eVar 0) eNil) (eCons (eMeth "CancelBook" "note_one" Mi.CancelBook_note_one (eVar 1) (eCons (eK (.str "a")) (eCons (eK (.str "never")) (eCons (eK (.int 100)) (eCons (eK (.int 0)) (eNil)))))) (eCons (eMeth "CancelBook" "note_one" Mi.CancelBook_note_one (eVar 1) (eCons (eK (.str "b")) (eCons (eK (.str "one")) (eCons (eK (.int 100)) (eCons (eK (.int 60)) (eNil)))))) (eNil))))))) (gN 2)) (bSeq (bAsg (eBin addV (eVar 2) (eLst true (eCons (eMeth "CancelBook" "note_one" Mi.CancelBook_note_one (eVar 1) (eCons (eK (.str "a")) (eCons (eK (.str "never")) (eCons (eK (.int 50)) (eCons (eK (.int 0)) (eNil)))))) (eCons (eMeth "CancelBook" "kept_of_all" Mi.CancelBook_kept_of_all (eVar 1) eNil) (eCons (eMeth "CancelBook" "counts_of" Mi.CancelBook_counts_of (eVar 1) (eCons (eK (.str "a")) (eNil))) (eCons (eMeth "CancelBook" "never_part" Mi.CancelBook_never_part (eVar 1) (eCons (eK (.int 10)) (eNil))) (eCons (eMeth "CancelBook" "worst_ones" Mi.CancelBook_worst_ones (eVar 1) (eCons (eK (.int 1)) (eNil))) (eCons (eMeth "CancelBook" "worst_ones" Mi.CancelBook_worst_ones (eVar 1) (eCons (eK (.int 3)) (eNil))) (eNil))))))))) (gN 2)) (bSeq (bAsg (eBin addV (eVar 2) (eLst true (eCons (eCall Mi.change_price (eCons (eK (.int 500)) (eCons (eK (.int 700)) (eCons (eK (.int 500)) (eCons (eK (.int 30)) (eNil)))))) (eCons (eCall Mi.change_price (eCons (eK (.int 500)) (eCons (eK (.int 300)) (eCons (eK (.int 500)) (eCons (eK (.int 30)) (eNil)))))) (eCons (eCall Mi.change_price (eCons (eK (.int 100)) (eCons (eK (.int 200)) (eCons (eK (.int 900)) (eCons (eK (.int 30)) (eNil)))))) (eCons (eCall Mi.voucher_for (eCons (eK (.int 1000)) (eCons (eK (.int 100)) (eCons (eK (.int 2)) (eCons (eK (.int 5)) (eNil)))))) (eNil))))))) (gN 2)) (bSeq (bAsg (eBin addV (eVar 2) (eLst true (eCons (eCall Mi.waiting_order (eCons (eTup (eCons (eTup (eCons (eK (.int 1)) (eCons (eK (.int 5)) (eCons (eK (.int 2)) (eNil))))) (eCons (eTup (eCons (eK (.int 1)) (eCons (eK (.int 9)) (eCons (eK (.int 2)) (eNil))))) (eCons (eTup (eCons (eK (.int 2)) (eCons (eK (.int 1)) (eCons (eK (.int 1)) (eNil))))) (eNil))))) (eCons (eK (.int 3)) (eNil)))) (eCons (eMeth "CancelRules" "last_for" Mi.CancelRules_last_for (eMake "CancelRules" Mi.CancelRules___init__ (eCons (eTup (eCons (eTup (eCons (eK (.int 0)) (eCons (eK (.int 0)) (eNil)))) (eNil))) (eCons (eK (.int 0)) (eCons (eK (.int 0)) (eNil))))) (eCons (eK (.int 1)) (eNil))) (eNil))))) (gN 2)) (bFree 3 4 (bBadIf "CancelError" "CancelError" [eMake "CancelRules" Mi.CancelRules___init__ (eCons (eTup (eNil)) (eCons (eK (.int 0)) (eCons (eK (.int 0)) (eNil)))), eMake "CancelRules" Mi.CancelRules___init__ (eCons (eTup (eCons (eTup (eCons (eK (.int 1)) (eCons (eK (.int 0)) (eNil)))) (eNil))) (eCons (eK (.int 0)) (eCons (eK (.int 0)) (eNil)))), eMake "CancelRules" Mi.CancelRules___init__ (eCons (eTup (eCons (eTup (eCons (eK (.int 0)) (eCons (eK (.int 1001)) (eNil)))) (eNil))) (eCons (eK (.int 0)) (eCons (eK (.int 0)) (eNil)))), eMake "CancelRules" Mi.CancelRules___init__ (eCons (eTup (eCons (eTup (eCons (eK (.int 0)) (eCons (eK (.int 0)) (eNil)))) (eCons (eTup (eCons (eK (.int 0)) (eCons (eK (.int 1)) (eNil)))) (eNil)))) (eCons (eK (.int 0)) (eCons (eK (.int 0)) (eNil)))), eMake "CancelRules" Mi.CancelRules___init__ (eCons (eTup (eCons (eTup (eCons (eK (.int 0)) (eCons (eK (.int 5)) (eNil)))) (eCons (eTup (eCons (eK (.int 1)) (eCons (eK (.int 4)) (eNil)))) (eNil)))) (eCons (eK (.int 0)) (eCons (eK (.int 0)) (eNil)))), eMake "CancelRules" Mi.CancelRules___init__ (eCons (eTup (eCons (eTup (eCons (eK (.int 0)) (eCons (eK (.int 0)) (eNil)))) (eNil))) (eCons (eUn negV (eK (.int 1))) (eCons (eK (.int 0)) (eNil)))), eMake "CancelRules" Mi.CancelRules___init__ (eCons (eTup (eCons (eTup (eCons (eK (.int 0)) (eCons (eK (.int 0)) (eNil)))) (eNil))) (eCons (eK (.int 0)) (eCons (eUn negV (eK (.int 1))) (eNil)))), eMeth "CancelRules" "given_back" Mi.CancelRules_given_back (eVar 0) (eCons (eK (.str "odd")) (eCons (eK (.int 1)) (eCons (eK (.int 1)) (eNil)))), eMeth "CancelRules" "given_back" Mi.CancelRules_given_back (eVar 0) (eCons (eK (.str "one")) (eCons (eUn negV (eK (.int 1))) (eCons (eK (.int 1)) (eNil)))), eMeth "CancelRules" "last_for" Mi.CancelRules_last_for (eVar 0) (eCons (eUn negV (eK (.int 1))) (eNil)), eMeth "CancelRules" "last_for" Mi.CancelRules_last_for (eVar 0) (eCons (eK (.int 1001)) (eNil)), eMeth "CancelRules" "best_moment" Mi.CancelRules_best_moment (eVar 0) (eCons (eUn negV (eK (.int 1))) (eCons (eK (.int 1)) (eCons (eK (.int 1)) (eNil)))), eMeth "CancelRules" "best_moment" Mi.CancelRules_best_moment (eVar 0) (eCons (eK (.int 1)) (eCons (eUn negV (eK (.int 1))) (eCons (eK (.int 1)) (eNil)))), eMeth "CancelRules" "best_moment" Mi.CancelRules_best_moment (eVar 0) (eCons (eK (.int 1)) (eCons (eK (.int 1)) (eCons (eK (.int 1001)) (eNil)))), eMeth "CancelBook" "note_one" Mi.CancelBook_note_one (eVar 1) (eCons (eK (.str "")) (eCons (eK (.str "one")) (eCons (eK (.int 1)) (eCons (eK (.int 0)) (eNil))))), eMeth "CancelBook" "note_one" Mi.CancelBook_note_one (eVar 1) (eCons (eK (.str "a")) (eCons (eK (.str "odd")) (eCons (eK (.int 1)) (eCons (eK (.int 0)) (eNil))))), eMeth "CancelBook" "note_one" Mi.CancelBook_note_one (eVar 1) (eCons (eK (.str "a")) (eCons (eK (.str "one")) (eCons (eK (.int 1)) (eCons (eK (.int 2)) (eNil))))), eMeth "CancelBook" "note_one" Mi.CancelBook_note_one (eVar 1) (eCons (eK (.str "a")) (eCons (eK (.str "one")) (eCons (eK (.int 1)) (eCons (eUn negV (eK (.int 1))) (eNil))))), eMeth "CancelBook" "never_part" Mi.CancelBook_never_part (eVar 1) (eCons (eK (.int 2)) (eNil)), eMeth "CancelBook" "never_part" Mi.CancelBook_never_part (eMake "CancelBook" Mi.CancelBook___init__ eNil) (eCons (eK (.int 0)) (eNil)), eMeth "CancelBook" "worst_ones" Mi.CancelBook_worst_ones (eVar 1) (eCons (eK (.int 0)) (eNil)), eCall Mi.change_price (eCons (eUn negV (eK (.int 1))) (eCons (eK (.int 1)) (eCons (eK (.int 1)) (eCons (eK (.int 1)) (eNil))))), eCall Mi.change_price (eCons (eK (.int 1)) (eCons (eUn negV (eK (.int 1))) (eCons (eK (.int 1)) (eCons (eK (.int 1)) (eNil))))), eCall Mi.change_price (eCons (eK (.int 1)) (eCons (eK (.int 1)) (eCons (eUn negV (eK (.int 1))) (eCons (eK (.int 1)) (eNil))))), eCall Mi.change_price (eCons (eK (.int 1)) (eCons (eK (.int 1)) (eCons (eK (.int 1)) (eCons (eUn negV (eK (.int 1))) (eNil))))), eCall Mi.voucher_for (eCons (eK (.int 0)) (eCons (eK (.int 1)) (eCons (eK (.int 1)) (eCons (eK (.int 1)) (eNil))))), eCall Mi.voucher_for (eCons (eK (.int 1)) (eCons (eUn negV (eK (.int 1))) (eCons (eK (.int 1)) (eCons (eK (.int 1)) (eNil))))), eCall Mi.voucher_for (eCons (eK (.int 1)) (eCons (eK (.int 1)) (eCons (eK (.int 0)) (eCons (eK (.int 1)) (eNil))))), eCall Mi.waiting_order (eCons (eTup (eNil)) (eCons (eUn negV (eK (.int 1))) (eNil))), eCall Mi.waiting_order (eCons (eTup (eCons (eTup (eCons (eK (.int 1)) (eCons (eK (.int 0)) (eCons (eK (.int 1)) (eNil))))) (eNil))) (eCons (eK (.int 1)) (eNil))), eCall Mi.waiting_order (eCons (eTup (eCons (eTup (eCons (eK (.int 1)) (eCons (eK (.int 1)) (eCons (eK (.int 0)) (eNil))))) (eNil))) (eCons (eK (.int 1)) (eNil)))] (tNo) (bSeq (bRet (eK (.bl false))) (bNil)) (bSeq (bIf (tE (eBin neV (eK (.tup [(.str "one"), (.str "house"), (.str "never"), (.str "force")])) (eTup (eCons (eK (.str "one")) (eCons (eK (.str "house")) (eCons (eK (.str "never")) (eCons (eK (.str "force")) (eNil)))))))) (bSeq (bRet (eK (.bl false))) (bNil)) (bNil)) (bSeq (bRet (eBin eqV (eVar 2) (eLst true (eCons (eK (.int 0)) (eCons (eK (.int 500)) (eCons (eK (.int 300)) (eCons (eK (.int 700)) (eCons (eK (.int 0)) (eCons (eK (.int 1000)) (eCons (eK (.int 0)) (eCons (eK (.int 900)) (eCons (eK (.int 0)) (eCons (eK (.int 4320)) (eCons (eK (.int 0)) (eCons (eTup (eCons (eK (.int 300)) (eCons (eK (.int 500)) (eNil)))) (eCons (eTup (eCons (eK (.str "0 0")) (eCons (eK (.str "1440 500")) (eCons (eK (.str "4320 1000")) (eNil))))) (eCons (eK .non) (eCons (eK .non) (eCons (eK .non) (eCons (eK (.int 190)) (eCons (eDisp true ((eK (.str "never"), eK (.int 2)) :: [])) (eCons (eK (.int 200)) (eCons (eTup (eCons (eK (.str "a")) (eNil))) (eCons (eTup (eNil)) (eCons (eK (.int 230)) (eCons (eUn negV (eK (.int 170))) (eCons (eK (.int 30)) (eCons (eTup (eCons (eK (.int 1100)) (eCons (eK (.int 64)) (eNil)))) (eCons (eTup (eCons (eK (.int 1)) (eCons (eK (.int 2)) (eNil)))) (eCons (eK .non) (eNil))))))))))))))))))))))))))))))) (bNil))))))))))))
def _law_plain : List W → M W := bodyM 5 _law_plain_b
def law_s1 : B := bAsg (eLst true (eCons (eTup (eCons (eK (.int 0)) (eCons (eCall (Mi._law_roll 3) (eCons (eVar 2) (eCons (eK (.int 300)) (eNil)))) (eNil)))) (eNil))) (gN 3)
def law_s3 : B := bAsg (eBin addV (eVar 3) (eLst true (eCons (eTup (eCons (eBin addV (eBin addV (eBin ixV (eBin ixV (eVar 3) (eUn negV (eK (.int 1)))) (eK (.int 0))) (eK (.int 1))) (eCall (Mi._law_roll 3) (eCons (eVar 2) (eCons (eK (.int 900)) (eNil))))) (eCons (eBt (fBest false) (eCons (eK (.int 1000)) (eCons (eBin addV (eBin ixV (eBin ixV (eVar 3) (eUn negV (eK (.int 1)))) (eK (.int 1))) (eCall (Mi._law_roll 3) (eCons (eVar 2) (eCons (eK (.int 400)) (eNil))))) (eNil)))) (eNil)))) (eNil)))) (gN 3)
def law_s2_b : B := bSeq law_s3 bNil
def law_s2 : B := bFor (iRg (eCons (eCall (Mi._law_roll 3) (eCons (eVar 2) (eCons (eK (.int 4)) (eNil)))) (eNil))) (gN 4) law_s2_b
def law_s4 : B := bAsg (eDisp true ((eK (.str "steps"), eVar 3) :: (eK (.str "fee"), eCall (Mi._law_roll 3) (eCons (eVar 2) (eCons (eK (.int 90)) (eNil)))) :: (eK (.str "never"), eCall (Mi._law_roll 3) (eCons (eVar 2) (eCons (eK (.int 200)) (eNil)))) :: [])) (gN 5)
def law_s5 : B := bAsg (eMake "CancelRules" Mi.CancelRules___init__ (eCons (eVar 3) (eCons (eBin ixV (eVar 5) (eK (.str "fee"))) (eCons (eBin ixV (eVar 5) (eK (.str "never"))) (eNil))))) (gN 6)
def law_s7 : B := bAsg (eTup (eCons (eBin ixV (eVar 1) (eCall (Mi._law_roll 3) (eCons (eVar 2) (eCons (eK (.int 4)) (eNil))))) (eCons (eCall (Mi._law_roll 3) (eCons (eVar 2) (eCons (eK (.int 2000)) (eNil)))) (eCons (eBin subV (eCall (Mi._law_roll 3) (eCons (eVar 2) (eCons (eK (.int 3000)) (eNil)))) (eK (.int 100))) (eNil))))) (gSeq 3 (gsCons (gN 37) (gsCons (gN 27) (gsCons (gN 18) (gsNil)))))
def law_s8 : B := bAsg (eMeth "CancelRules" "given_back" Mi.CancelRules_given_back (eVar 6) (eCons (eVar 37) (eCons (eVar 27) (eCons (eVar 18) (eNil))))) (gN 15)
def law_s9 : B := bIf (tOr (tE (eBin neV (eVar 15) (eCall Mi._law_back (eCons (eVar 5) (eCons (eVar 37) (eCons (eVar 27) (eCons (eVar 18) (eNil)))))))) (tNot (tE (eChain leV leV (eK (.int 0)) (eVar 15) (eVar 27))))) (bSeq (bRet (eK (.bl false))) (bNil)) (bNil)
def law_s10 : B := bIf (tE (eBin neV (eMeth "CancelRules" "part_ahead" Mi.CancelRules_part_ahead (eVar 6) (eCons (eVar 18) (eNil))) (eCall Mi._law_part (eCons (eVar 5) (eCons (eVar 18) (eNil)))))) (bSeq (bRet (eK (.bl false))) (bNil)) (bNil)
def law_s6_b : B := bSeq law_s7 (bSeq law_s8 (bSeq law_s9 (bSeq law_s10 bNil)))
def law_s6 : B := bFor (iRg (eCons (eK (.int 8)) (eNil))) (gN 4) law_s6_b
def law_s11 : B := bAsg (eTup (eCons (eCall (Mi._law_roll 3) (eCons (eVar 2) (eCons (eK (.int 1001)) (eNil)))) (eCons (eCall (Mi._law_roll 3) (eCons (eVar 2) (eCons (eK (.int 1001)) (eNil)))) (eCons (eBt (fBest true) (eCons (eK (.int 0)) (eCons (eVar 18) (eNil)))) (eNil))))) (gSeq 3 (gsCons (gN 16) (gsCons (gN 17) (gsCons (gN 18) (gsNil)))))
def law_s12 : B := bAsg (eLc true (iE (eVar 3)) [24, 40] (gSeq 2 (gsCons (gN 24) (gsCons (gN 40) (gsNil)))) (tE (eBin geV (eVar 40) (eVar 16))) (eVar 24)) (gN 7)
def law_s13 : B := bAsg (eBin subV (eBin ixV (eLc true (iE (eVar 3)) [24, 40] (gSeq 2 (gsCons (gN 24) (gsCons (gN 40) (gsNil)))) (tE (eBin leV (eVar 24) (eVar 18))) (eVar 24)) (eUn negV (eK (.int 1)))) (eK (.int 1))) (gN 8)
def law_s14 : B := bAsg (eBin fdivV (eBin addV (eBin mulV (eVar 17) (eVar 27)) (eBin mulV (eBin subV (eK (.int 1000)) (eVar 17)) (eCall Mi._law_back (eCons (eVar 5) (eCons (eK (.str "one")) (eCons (eVar 27) (eCons (eVar 8) (eNil)))))))) (eK (.int 1000))) (gN 9)
def law_s15 : B := bIf (tOr (tE (eBin neV (eMeth "CancelRules" "last_for" Mi.CancelRules_last_for (eVar 6) (eCons (eVar 16) (eNil))) (eIf (tE (eBin neV (eVar 7) (eLst true (eNil)))) (eBin ixV (eVar 7) (eK (.int 0))) (eK .non)))) (tOr (tE (eBin neV (eMeth "CancelRules" "best_moment" Mi.CancelRules_best_moment (eVar 6) (eCons (eVar 27) (eCons (eVar 18) (eCons (eVar 17) (eNil))))) (eTup (eCons (eCall Mi._law_back (eCons (eVar 5) (eCons (eK (.str "one")) (eCons (eVar 27) (eCons (eVar 18) (eNil)))))) (eCons (eVar 9) (eNil)))))) (tE (eBin neV (eBt (fList true) (eCons (eMeth "CancelRules" "rule_lines" Mi.CancelRules_rule_lines (eVar 6) eNil) (eNil))) (eLc true (iE (eVar 3)) [24, 40] (gSeq 2 (gsCons (gN 24) (gsCons (gN 40) (gsNil)))) (tYesW) (eBin addV (eBin addV (eBt fStr (eCons (eVar 24) (eNil))) (eK (.str " "))) (eBt fStr (eCons (eVar 40) (eNil))))))))) (bSeq (bRet (eK (.bl false))) (bNil)) (bNil)
def law_s16 : B := bAsg (eTup (eCons (eMake "CancelBook" Mi.CancelBook___init__ eNil) (eCons (eLst true (eNil)) (eNil)))) (gSeq 2 (gsCons (gN 19) (gsCons (gN 20) (gsNil))))
def law_s18 : B := bAsg (eTup (eCons (eBin ixV (eLst true (eCons (eK (.str "a")) (eCons (eK (.str "b")) (eCons (eK (.str "c")) (eCons (eK (.str "")) (eNil)))))) (eBin fdivV (eCall (Mi._law_roll 3) (eCons (eVar 2) (eCons (eK (.int 17)) (eNil)))) (eK (.int 5)))) (eCons (eBin ixV (eBin addV (eVar 1) (eLst true (eCons (eK (.str "odd")) (eNil)))) (eBin fdivV (eCall (Mi._law_roll 3) (eCons (eVar 2) (eCons (eK (.int 21)) (eNil)))) (eK (.int 5)))) (eCons (eCall (Mi._law_roll 3) (eCons (eVar 2) (eCons (eK (.int 90)) (eNil)))) (eCons (eCall (Mi._law_roll 3) (eCons (eVar 2) (eCons (eK (.int 90)) (eNil)))) (eNil)))))) (gSeq 4 (gsCons (gN 38) (gsCons (gN 37) (gsCons (gN 27) (gsCons (gN 15) (gsNil))))))
def law_s19 : B := bAsg (eAnd (eBin neV (eVar 38) (eK (.str ""))) (eAnd (eBin neV (eVar 37) (eK (.str "odd"))) (eBin leV (eVar 15) (eVar 27)))) (gN 21)
def law_s20 : B := bAsg (eBin addV (eVar 20) (eBin mulV (eLst true (eCons (eTup (eCons (eVar 38) (eCons (eVar 37) (eCons (eVar 27) (eCons (eVar 15) (eNil)))))) (eNil))) (eBt fInt (eCons (eVar 21) (eNil))))) (gN 20)
def law_s21 : B := bIf (tOr (tE (eBin neV (eBin isN (eTold "CancelError" "CancelError" (eMeth "CancelBook" "note_one" Mi.CancelBook_note_one (eVar 19) (eCons (eVar 38) (eCons (eVar 37) (eCons (eVar 27) (eCons (eVar 15) (eNil))))))) (eK .non)) (eVar 21))) (tE (eBin neV (eFld ["CancelBook"] "rows" (eVar 19)) (eVar 20)))) (bSeq (bRet (eK (.bl false))) (bNil)) (bNil)
def law_s17_b : B := bSeq law_s18 (bSeq law_s19 (bSeq law_s20 (bSeq law_s21 bNil)))
def law_s17 : B := bFor (iRg (eCons (eCall (Mi._law_roll 3) (eCons (eVar 2) (eCons (eK (.int 20)) (eNil)))) (eNil))) (gN 10) law_s17_b
def law_s22 : B := bAsg (eLc true (iE (eVar 20)) [39] (gN 39) (tE (eBin eqV (eBin ixV (eVar 39) (eK (.int 1))) (eK (.str "never")))) (eBin ixV (eVar 39) (eK (.int 0)))) (gN 11)
def law_s23 : B := bAsg (eTup (eCons (eBt (fList true) (eCons (eBt (fDict true) (eCons (eLc true (iE (eVar 11)) [42] (gN 42) (tYesW) (eTup (eCons (eVar 42) (eCons (eK (.int 1)) (eNil))))) (eNil))) (eNil))) (eCons (eCall (Mi._law_roll 3) (eCons (eVar 2) (eCons (eK (.int 40)) (eNil)))) (eCons (eBin addV (eK (.int 1)) (eCall (Mi._law_roll 3) (eCons (eVar 2) (eCons (eK (.int 3)) (eNil))))) (eNil))))) (gSeq 3 (gsCons (gN 22) (gsCons (gN 23) (gsCons (gN 24) (gsNil)))))
def law_s24 : B := bAsg (eLc true (iE (eBt (fSorted true) (eCons (eLc true (iEn (eCons (eVar 22) (eNil))) [4, 42] (gSeq 2 (gsCons (gN 4) (gsCons (gN 42) (gsNil)))) (tYesW) (eTup (eCons (eUn negV (eBm "list" fCount (eVar 11) (eCons (eVar 42) (eNil)))) (eCons (eVar 4) (eCons (eVar 42) (eNil)))))) (eNil)))) [41, 4, 42] (gSeq 3 (gsCons (gN 41) (gsCons (gN 4) (gsCons (gN 42) (gsNil))))) (tE (eBin geV (eUn negV (eVar 41)) (eVar 24))) (eVar 42)) (gN 12)
def law_s25 : B := bIf (tOr (tE (eBin neV (eMeth "CancelBook" "kept_of_all" Mi.CancelBook_kept_of_all (eVar 19) eNil) (eBt fSum (eCons (eLc true (iE (eVar 20)) [39] (gN 39) (tYesW) (eBin subV (eBin ixV (eVar 39) (eK (.int 2))) (eBin ixV (eVar 39) (eK (.int 3))))) (eNil))))) (tOr (tE (eBin neV (eLc true (iE (eLst true (eCons (eK (.str "a")) (eCons (eK (.str "z")) (eNil))))) [38] (gN 38) (tYesW) (eLItems true (eMeth "CancelBook" "counts_of" Mi.CancelBook_counts_of (eVar 19) (eCons (eVar 38) (eNil))))) (eLc true (iE (eLst true (eCons (eK (.str "a")) (eCons (eK (.str "z")) (eNil))))) [38] (gN 38) (tYesW) (eLc true (iE (eVar 1)) [37] (gN 37) (tE (eBin neV (eLc true (iE (eVar 20)) [39] (gN 39) (tE (eBin eqV (eSl true (eVar 39) oNone (oSome (eK (.int 2)))) (eTup (eCons (eVar 38) (eCons (eVar 37) (eNil)))))) (eK (.int 1))) (eLst true (eNil)))) (eTup (eCons (eVar 37) (eCons (eBt fLen (eCons (eLc true (iE (eVar 20)) [39] (gN 39) (tE (eBin eqV (eSl true (eVar 39) oNone (oSome (eK (.int 2)))) (eTup (eCons (eVar 38) (eCons (eVar 37) (eNil)))))) (eK (.int 1))) (eNil))) (eNil)))))))) (tOr (tE (eBin neV (eBt (fList true) (eCons (eMeth "CancelBook" "worst_ones" Mi.CancelBook_worst_ones (eVar 19) (eCons (eVar 24) (eNil))) (eNil))) (eVar 12))) (tE (eBin neV (eTold "CancelError" "CancelError" (eMeth "CancelBook" "never_part" Mi.CancelBook_never_part (eVar 19) (eCons (eVar 23) (eNil)))) (eIf (tE (eBin geV (eVar 23) (eBt (fBest true) (eCons (eK (.int 1)) (eCons (eBt fLen (eCons (eVar 20) (eNil))) (eNil)))))) (eBin fdivV (eBin mulV (eK (.int 1000)) (eBt fLen (eCons (eVar 11) (eNil)))) (eVar 23)) (eK (.str "CancelError")))))))) (bSeq (bRet (eK (.bl false))) (bNil)) (bNil)
def law_s26 : B := bAsg (eTup (eCons (eCall (Mi._law_roll 3) (eCons (eVar 2) (eCons (eK (.int 900)) (eNil)))) (eCons (eCall (Mi._law_roll 3) (eCons (eVar 2) (eCons (eK (.int 900)) (eNil)))) (eCons (eCall (Mi._law_roll 3) (eCons (eVar 2) (eCons (eK (.int 900)) (eNil)))) (eCons (eCall (Mi._law_roll 3) (eCons (eVar 2) (eCons (eK (.int 60)) (eNil)))) (eCons (eBin addV (eK (.int 1)) (eCall (Mi._law_roll 3) (eCons (eVar 2) (eCons (eK (.int 900)) (eNil))))) (eCons (eCall (Mi._law_roll 3) (eCons (eVar 2) (eCons (eK (.int 300)) (eNil)))) (eCons (eBin addV (eK (.int 1)) (eCall (Mi._law_roll 3) (eCons (eVar 2) (eCons (eK (.int 12)) (eNil))))) (eCons (eCall (Mi._law_roll 3) (eCons (eVar 2) (eCons (eK (.int 90)) (eNil)))) (eNil)))))))))) (gSeq 8 (gsCons (gN 25) (gsCons (gN 26) (gsCons (gN 27) (gsCons (gN 28) (gsCons (gN 29) (gsCons (gN 30) (gsCons (gN 31) (gsCons (gN 32) (gsNil))))))))))
def law_s27 : B := bAsg (eBin addV (eBin subV (eVar 26) (eVar 27)) (eVar 28)) (gN 13)
def law_s28 : B := bIf (tE (eBin neV (eCall Mi.change_price (eCons (eVar 25) (eCons (eVar 26) (eCons (eVar 27) (eCons (eVar 28) (eNil)))))) (eIf (tAnd (tE (eBin geV (eVar 26) (eVar 25))) (tE (eBin ltV (eVar 13) (eVar 28)))) (eVar 28) (eVar 13)))) (bSeq (bRet (eK (.bl false))) (bNil)) (bNil)
def law_s29 : B := bIf (tE (eBin neV (eCall Mi.voucher_for (eCons (eVar 29) (eCons (eVar 30) (eCons (eVar 31) (eCons (eVar 32) (eNil)))))) (eTup (eCons (eBin fdivV (eBin mulV (eVar 29) (eBin addV (eK (.int 1000)) (eVar 30))) (eK (.int 1000))) (eCons (eBin subV (eBin addV (eVar 32) (eBin mulV (eK (.int 30)) (eVar 31))) (eK (.int 1))) (eNil)))))) (bSeq (bRet (eK (.bl false))) (bNil)) (bNil)
def law_s30 : B := bPar3 33 34 35 (eCons (eLc true (iRg (eCons (eCall (Mi._law_roll 3) (eCons (eVar 2) (eCons (eK (.int 7)) (eNil)))) (eNil))) [4] (gN 4) (tYesW) (eTup (eCons (eCall (Mi._law_roll 3) (eCons (eVar 2) (eCons (eK (.int 5)) (eNil)))) (eCons (eBin addV (eK (.int 1)) (eCall (Mi._law_roll 3) (eCons (eVar 2) (eCons (eK (.int 5)) (eNil))))) (eCons (eBin addV (eK (.int 1)) (eCall (Mi._law_roll 3) (eCons (eVar 2) (eCons (eK (.int 3)) (eNil))))) (eNil)))))) (eCons (eCall (Mi._law_roll 3) (eCons (eVar 2) (eCons (eK (.int 8)) (eNil)))) (eCons (eLst true (eNil)) (eNil))))
def law_s31 : B := bAsg (eVar 34) (gN 14)
def law_s33 : B := bAsg (eBin leV (eBin ixV (eBin ixV (eVar 33) (eVar 4)) (eK (.int 2))) (eVar 14)) (gN 36)
def law_s34 : B := bAsg (eBin subV (eVar 14) (eBin mulV (eBin ixV (eBin ixV (eVar 33) (eVar 4)) (eK (.int 2))) (eBt fInt (eCons (eVar 36) (eNil))))) (gN 14)
def law_s35 : B := bAsg (eBin addV (eVar 35) (eBin mulV (eLst true (eCons (eVar 4) (eNil))) (eBt fInt (eCons (eVar 36) (eNil))))) (gN 35)
def law_s32_b : B := bSeq law_s33 (bSeq law_s34 (bSeq law_s35 bNil))
def law_s32 : B := bFor (iE (eLc true (iE (eBt (fSorted true) (eCons (eLc true (iEn (eCons (eVar 33) (eNil))) [4, 39] (gSeq 2 (gsCons (gN 4) (gsCons (gN 39) (gsNil)))) (tYesW) (eTup (eCons (eBin ixV (eVar 39) (eK (.int 0))) (eCons (eUn negV (eBin ixV (eVar 39) (eK (.int 1)))) (eCons (eVar 4) (eNil)))))) (eNil)))) [43, 41, 4] (gSeq 3 (gsCons (gN 43) (gsCons (gN 41) (gsCons (gN 4) (gsNil))))) (tYesW) (eVar 4))) (gN 4) law_s32_b
def law_s36 : B := bIf (tE (eBin neV (eBt (fList true) (eCons (eCall Mi.waiting_order (eCons (eVar 33) (eCons (eVar 34) (eNil)))) (eNil))) (eVar 35))) (bSeq (bRet (eK (.bl false))) (bNil)) (bNil)
def law_b : B := bSeq law_s1 (bSeq law_s2 (bSeq law_s4 (bSeq law_s5 (bSeq law_s6 (bSeq law_s11 (bSeq law_s12 (bSeq law_s13 (bSeq law_s14 (bSeq law_s15 (bSeq law_s16 (bSeq law_s17 (bSeq law_s22 (bSeq law_s23 (bSeq law_s24 (bSeq law_s25 (bSeq law_s26 (bSeq law_s27 (bSeq law_s28 (bSeq law_s29 (bSeq law_s30 (bSeq law_s31 (bSeq law_s32 (bSeq law_s36 bNil)))))))))))))))))))))))
def law_p : E := eLst true (eCons (eK (.str "one")) (eCons (eK (.str "house")) (eCons (eK (.str "never")) (eCons (eK (.str "force")) (eNil)))))
def law : List W → M W := lawMP Mi._law_rounds law_p 1 2 law_b (fresh0 Mi._law_plain) 44
end Mi
abbrev s__law_told : Stmt := top 14
/-! ### where it lies, and what the top has written -/
structure Ad where
  f__law_told : Addr
  d__law_told : FuncData
  C_CancelError : Addr
  f_change_price : Addr
  d_change_price : FuncData
  f_voucher_for : Addr
  d_voucher_for : FuncData
  f_waiting_order : Addr
  d_waiting_order : FuncData
  f__law_dice : Addr
  d__law_dice : FuncData
  f__law_roll : Addr
  d__law_roll : FuncData
  f__law_rounds : Addr
  d__law_rounds : FuncData
  f__law_part : Addr
  d__law_part : FuncData
  f__law_back : Addr
  d__law_back : FuncData
  f_CancelBook___init__ : Addr
  d_CancelBook___init__ : FuncData
  f_CancelBook_counts_of : Addr
  d_CancelBook_counts_of : FuncData
  f_CancelBook_kept_of_all : Addr
  d_CancelBook_kept_of_all : FuncData
  f_CancelBook_never_part : Addr
  d_CancelBook_never_part : FuncData
  f_CancelBook_note_one : Addr
  d_CancelBook_note_one : FuncData
  f_CancelBook_worst_ones : Addr
  d_CancelBook_worst_ones : FuncData
  f_CancelRules___init__ : Addr
  d_CancelRules___init__ : FuncData
  f_CancelRules_part_ahead : Addr
  d_CancelRules_part_ahead : FuncData
  f_CancelRules_given_back : Addr
  d_CancelRules_given_back : FuncData
  f_CancelRules_best_moment : Addr
  d_CancelRules_best_moment : FuncData
  f_CancelRules_last_for : Addr
  d_CancelRules_last_for : FuncData
  f_CancelRules_rule_lines : Addr
  d_CancelRules_rule_lines : FuncData
  f__law_plain : Addr
  d__law_plain : FuncData
  f_law : Addr
  d_law : FuncData
  c_waiting_order : Addr
  t_waiting_order : Addr
  c_CancelBook_kept_of_all : Addr
  t_CancelBook_kept_of_all : Addr
  c_CancelBook_worst_ones : Addr
  t_CancelBook_worst_ones : Addr
  c_CancelRules___init__ : Addr
  t_CancelRules___init__ : Addr
  c__law_plain : Addr
  t__law_plain : Addr
  c_law : Addr
  t_law : Addr
  C_CancelBook : Addr
  C_CancelRules : Addr
structure Txt (T : List NdefX.NTab) (K : PySem.W.Frag) (mg : Str → Option Value) (base : Heap) (a : Ad) : Prop where
  mg__law_told : mg "_law_told" = some (.ref a.f__law_told)
  F__law_told : Fun K "_law_told" "_law_told" s__law_told a.f__law_told a.d__law_told
  mg_CancelError : mg "CancelError" = some (.ref a.C_CancelError)
  ee_CancelError : PySem.W.exmOne K (.ref a.C_CancelError) (.ref a.C_CancelError) = some true
  mg_change_price : mg "change_price" = some (.ref a.f_change_price)
  F_change_price : Fun K "change_price" "change_price" s_change_price a.f_change_price a.d_change_price
  mg_voucher_for : mg "voucher_for" = some (.ref a.f_voucher_for)
  F_voucher_for : Fun K "voucher_for" "voucher_for" s_voucher_for a.f_voucher_for a.d_voucher_for
  mg_waiting_order : mg "waiting_order" = some (.ref a.f_waiting_order)
  F_waiting_order : FunC K "waiting_order" "waiting_order" s_waiting_order a.f_waiting_order a.d_waiting_order a.c_waiting_order
  t_waiting_order : TabOk T base mg a.c_waiting_order a.t_waiting_order "waiting_order.<locals>.<genexpr>"
  mg__law_dice : mg "_law_dice" = some (.ref a.f__law_dice)
  F__law_dice : Fun K "_law_dice" "_law_dice" s__law_dice a.f__law_dice a.d__law_dice
  mg__law_roll : mg "_law_roll" = some (.ref a.f__law_roll)
  F__law_roll : Fun K "_law_roll" "_law_roll" s__law_roll a.f__law_roll a.d__law_roll
  mg__law_rounds : mg "_law_rounds" = some (.ref a.f__law_rounds)
  F__law_rounds : Fun K "_law_rounds" "_law_rounds" s__law_rounds a.f__law_rounds a.d__law_rounds
  mg__law_part : mg "_law_part" = some (.ref a.f__law_part)
  F__law_part : Fun K "_law_part" "_law_part" s__law_part a.f__law_part a.d__law_part
  mg__law_back : mg "_law_back" = some (.ref a.f__law_back)
  F__law_back : Fun K "_law_back" "_law_back" s__law_back a.f__law_back a.d__law_back
  F_CancelBook___init__ : Fun K "__init__" "CancelBook.__init__" s_CancelBook___init__ a.f_CancelBook___init__ a.d_CancelBook___init__
  mk_CancelBook : Mk K a.C_CancelBook a.f_CancelBook___init__
  F_CancelBook_counts_of : Fun K "counts_of" "CancelBook.counts_of" s_CancelBook_counts_of a.f_CancelBook_counts_of a.d_CancelBook_counts_of
  me_CancelBook_counts_of : Meth K a.C_CancelBook "counts_of" a.f_CancelBook_counts_of
  F_CancelBook_kept_of_all : FunC K "kept_of_all" "CancelBook.kept_of_all" s_CancelBook_kept_of_all a.f_CancelBook_kept_of_all a.d_CancelBook_kept_of_all a.c_CancelBook_kept_of_all
  t_CancelBook_kept_of_all : TabOk T base mg a.c_CancelBook_kept_of_all a.t_CancelBook_kept_of_all "CancelBook.kept_of_all.<locals>.<genexpr>"
  me_CancelBook_kept_of_all : Meth K a.C_CancelBook "kept_of_all" a.f_CancelBook_kept_of_all
  F_CancelBook_never_part : Fun K "never_part" "CancelBook.never_part" s_CancelBook_never_part a.f_CancelBook_never_part a.d_CancelBook_never_part
  me_CancelBook_never_part : Meth K a.C_CancelBook "never_part" a.f_CancelBook_never_part
  F_CancelBook_note_one : Fun K "note_one" "CancelBook.note_one" s_CancelBook_note_one a.f_CancelBook_note_one a.d_CancelBook_note_one
  me_CancelBook_note_one : Meth K a.C_CancelBook "note_one" a.f_CancelBook_note_one
  F_CancelBook_worst_ones : FunC K "worst_ones" "CancelBook.worst_ones" s_CancelBook_worst_ones a.f_CancelBook_worst_ones a.d_CancelBook_worst_ones a.c_CancelBook_worst_ones
  t_CancelBook_worst_ones : TabOk T base mg a.c_CancelBook_worst_ones a.t_CancelBook_worst_ones "CancelBook.worst_ones.<locals>.<genexpr>"
  me_CancelBook_worst_ones : Meth K a.C_CancelBook "worst_ones" a.f_CancelBook_worst_ones
  F_CancelRules___init__ : FunC K "__init__" "CancelRules.__init__" s_CancelRules___init__ a.f_CancelRules___init__ a.d_CancelRules___init__ a.c_CancelRules___init__
  t_CancelRules___init__ : TabOk T base mg a.c_CancelRules___init__ a.t_CancelRules___init__ "CancelRules.__init__.<locals>.<genexpr>"
  mk_CancelRules : Mk K a.C_CancelRules a.f_CancelRules___init__
  F_CancelRules_part_ahead : Fun K "part_ahead" "CancelRules.part_ahead" s_CancelRules_part_ahead a.f_CancelRules_part_ahead a.d_CancelRules_part_ahead
  me_CancelRules_part_ahead : Meth K a.C_CancelRules "part_ahead" a.f_CancelRules_part_ahead
  F_CancelRules_given_back : Fun K "given_back" "CancelRules.given_back" s_CancelRules_given_back a.f_CancelRules_given_back a.d_CancelRules_given_back
  me_CancelRules_given_back : Meth K a.C_CancelRules "given_back" a.f_CancelRules_given_back
  F_CancelRules_best_moment : Fun K "best_moment" "CancelRules.best_moment" s_CancelRules_best_moment a.f_CancelRules_best_moment a.d_CancelRules_best_moment
  me_CancelRules_best_moment : Meth K a.C_CancelRules "best_moment" a.f_CancelRules_best_moment
  F_CancelRules_last_for : Fun K "last_for" "CancelRules.last_for" s_CancelRules_last_for a.f_CancelRules_last_for a.d_CancelRules_last_for
  me_CancelRules_last_for : Meth K a.C_CancelRules "last_for" a.f_CancelRules_last_for
  F_CancelRules_rule_lines : Fun K "rule_lines" "CancelRules.rule_lines" s_CancelRules_rule_lines a.f_CancelRules_rule_lines a.d_CancelRules_rule_lines
  me_CancelRules_rule_lines : Meth K a.C_CancelRules "rule_lines" a.f_CancelRules_rule_lines
  mg__law_plain : mg "_law_plain" = some (.ref a.f__law_plain)
  F__law_plain : FunC K "_law_plain" "_law_plain" s__law_plain a.f__law_plain a.d__law_plain a.c__law_plain
  t__law_plain : TabOk T base mg a.c__law_plain a.t__law_plain "_law_plain.<locals>.<lambda>"
  mg_law : mg "law" = some (.ref a.f_law)
  F_law : FunC K "law" "law" s_law a.f_law a.d_law a.c_law
  t_law : TabOk T base mg a.c_law a.t_law "law.<locals>.<lambda>"
  mg_CancelBook : mg "CancelBook" = some (.ref a.C_CancelBook)
  cl_CancelBook : Cls K a.C_CancelBook
  mg_CancelRules : mg "CancelRules" = some (.ref a.C_CancelRules)
  cl_CancelRules : Cls K a.C_CancelRules
  n_abs : mg "abs" = none
  n_any : mg "any" = none
  n_dict : mg "dict" = none
  n_enumerate : mg "enumerate" = none
  n_int : mg "int" = none
  n_len : mg "len" = none
  n_list : mg "list" = none
  n_max : mg "max" = none
  n_min : mg "min" = none
  n_range : mg "range" = none
  n_sorted : mg "sorted" = none
  n_str : mg "str" = none
  n_sum : mg "sum" = none
  n_tuple : mg "tuple" = none
  n_zip : mg "zip" = none
  k_SORTS_OF_CANCEL : GlobK K mg "SORTS_OF_CANCEL" (.tup [(.str "one"), (.str "house"), (.str "never"), (.str "force")])
  x_CancelError : ErrC K mg "CancelError"
  fl_fee : FldOk K mg ["CancelRules"] "fee"
  fl_never : FldOk K mg ["CancelRules"] "never"
  fl_rows : FldOk K mg ["CancelBook"] "rows"
  fl_steps : FldOk K mg ["CancelRules"] "steps"
section
variable {T : List NdefX.NTab} {P : Program} {w : World} {K : PySem.W.Frag} {mg : Str → Option Value} {base : Heap} {a : Ad}
theorem sc__law_told : FnScope ["what"] ["what"] (defScope s__law_told) := ⟨rfl, rfl, rfl, by decide +kernel, rfl, by decide +kernel, by decide +kernel⟩
theorem bd__law_told (Y : Txt T K mg base a) : Binds K a.d__law_told ["what"] [] := Y.F__law_told.binds (ps := ["what"]) fun _ _ _ _ _ _ us hl => match us, hl with | [_], _ => rfl
abbrev N_change_price : List Str := [("old" : Str), ("new" : Str), ("paid" : Str), ("fee" : Str), ("found" : Str)]
theorem sc_change_price : FnScope N_change_price ["old", "new", "paid", "fee"] (defScope s_change_price) := ⟨rfl, rfl, rfl, by decide +kernel, rfl, by decide +kernel, by decide +kernel⟩
theorem bd_change_price (Y : Txt T K mg base a) : Binds K a.d_change_price ["old", "new", "paid", "fee"] [] := Y.F_change_price.binds (ps := ["old", "new", "paid", "fee"]) fun _ _ _ _ _ _ us hl => match us, hl with | [_, _, _, _], _ => rfl
theorem ok_change_price (Y : Txt T K mg base a) : FnOk P w K mg base (L2.CX P w) 2 a.f_change_price a.d_change_price ["old", "new", "paid", "fee"] (spR T K mg 4 Mi.change_price) := fn_R Y.F_change_price sc_change_price rfl fun cdv A outer s H Ex hr => by
  exact (rss_cons (st_if (rt_cmp ow_lt (rs_bt (cw_best (mx := false) rfl (u60 hr)) Y.n_min (by rfl) (ra_cons (rs_var (i := 0)) (ra_cons (rs_var (i := 1)) (ra_cons (rs_var (i := 2)) (ra_cons (rs_var (i := 3)) (ra_nil)))))) (rs_int)) (rss_cons (st_raise rfl rfl Y.x_CancelError) (rss_nil)) (rss_nil)) (rss_cons (st_set (i := 4) sc_change_price.nd (rs_bin ow_add (rs_bin ow_sub (rs_var (i := 1)) (rs_var (i := 2))) (rs_var (i := 3)))) (rss_cons (st_ret (rs_if (rt_cmp ow_ge (rs_var (i := 1)) (rs_var (i := 0))) (rs_bt (cw_best (mx := true) rfl (u60 hr)) Y.n_max (by rfl) (ra_cons (rs_var (i := 4)) (ra_cons (rs_var (i := 3)) (ra_nil)))) (rs_var (i := 4)))) (rss_nil))))
abbrev N_voucher_for : List Str := [("money" : Str), ("parts" : Str), ("months" : Str), ("day" : Str)]
theorem sc_voucher_for : FnScope N_voucher_for ["money", "parts", "months", "day"] (defScope s_voucher_for) := ⟨rfl, rfl, rfl, by decide +kernel, rfl, by decide +kernel, by decide +kernel⟩
theorem bd_voucher_for (Y : Txt T K mg base a) : Binds K a.d_voucher_for ["money", "parts", "months", "day"] [] := Y.F_voucher_for.binds (ps := ["money", "parts", "months", "day"]) fun _ _ _ _ _ _ us hl => match us, hl with | [_, _, _, _], _ => rfl
theorem ok_voucher_for (Y : Txt T K mg base a) : FnOk P w K mg base (L2.CX P w) 2 a.f_voucher_for a.d_voucher_for ["money", "parts", "months", "day"] (spR T K mg 4 Mi.voucher_for) := fn_R Y.F_voucher_for sc_voucher_for rfl fun cdv A outer s H Ex hr => by
  exact (rss_cons (st_if (rw_rt (rw_or (rt_cmp ow_lt (rs_var (i := 0)) (rs_int)) (rw_or (rt_cmp ow_lt (rs_var (i := 1)) (rs_int)) (rw_or1 (rt_cmp ow_lt (rs_var (i := 2)) (rs_int)))))) (rss_cons (st_raise rfl rfl Y.x_CancelError) (rss_nil)) (rss_nil)) (rss_cons (st_ret (rs_tup (ra_cons (rs_bin ow_add (rs_var (i := 0)) (rs_bin ow_fdiv (rs_bin ow_mul (rs_var (i := 0)) (rs_var (i := 1))) (rs_int))) (ra_cons (rs_bin ow_sub (rs_bin ow_add (rs_var (i := 3)) (rs_bin ow_mul (rs_int) (rs_var (i := 2)))) (rs_int)) (ra_nil))))) (rss_nil)))
abbrev N_waiting_order : List Str := [("wishes" : Str), ("free" : Str), ("row" : Str), ("order" : Str), ("place" : Str), ("left" : Str), ("found" : Str), ("day" : Str), ("less" : Str)]
theorem sc_waiting_order : FnScope N_waiting_order ["wishes", "free"] (defScope s_waiting_order) := ⟨rfl, rfl, rfl, by decide +kernel, rfl, by decide +kernel, by decide +kernel⟩
theorem dot_waiting_order : (".0" : Str) ∉ N_waiting_order := by decide +kernel
theorem bd_waiting_order (Y : Txt T K mg base a) : Binds K a.d_waiting_order ["wishes", "free"] [] := Y.F_waiting_order.fun_.binds (ps := ["wishes", "free"]) fun _ _ _ _ _ _ us hl => match us, hl with | [_, _], _ => rfl
theorem ok_waiting_order (Y : Txt T K mg base a) : FnOk P w K mg base (L2.CX P w) 4 a.f_waiting_order a.d_waiting_order ["wishes", "free"] (spR T K mg 2 Mi.waiting_order) := fn_Rc Y.F_waiting_order sc_waiting_order rfl fun A outer s H Ex hr => by
  exact (rss_cons (st_if (rw_rt (rw_or (rt_cmp ow_lt (rs_var (i := 1)) (rs_int)) (rw_or1 (rt_val (rs_any (own := [("row", 2)]) (k0 := 1) (hr.mono (by decide)) rfl (Y.t_waiting_order.gx (blkOk_by (by kernel_rfl)) sc_waiting_order.nd dot_waiting_order rfl rfl rfl (by rfl)) (ri_e (rs_var (i := 0))) ⟨fun _ _ _ _ _ e1 e2 hr2 e4 => rg_name (i := 2) sc_waiting_order.nd (hx := loc_of e1 (by first | exact .inl rfl | exact .inr rfl)) (hf := by first | exact .inl rfl | exact .inr (lk_of e1 rfl)), fun _ _ _ _ _ e1 e2 hr2 e4 => rts_nil, fun _ _ _ _ _ e1 e2 hr2 e4 => rs_cmp ow_lt (rs_bt (cw_best (mx := false) rfl (u60 hr2)) Y.n_min (by rfl) (ra_cons (rs_sl (rs_var (i := 2) (hv := vis_of e1 (by first | exact Or.inl rfl | exact Or.inr (Or.inl rfl) | exact Or.inr (Or.inr rfl)))) (ro_some (rs_int)) ro_none) (ra_nil)) (hg := gl_of e1 rfl)) (rs_int)⟩ (hmg := Y.n_any)))))) (rss_cons (st_raise rfl rfl Y.x_CancelError) (rss_nil)) (rss_nil)) (rss_cons (st_set (i := 3) sc_waiting_order.nd (rs_sortG (own := [("place", 4), ("row", 2)]) (k0 := 1) (hr.mono (by decide)) rfl (Y.t_waiting_order.gx (blkOk_by (by kernel_rfl)) sc_waiting_order.nd dot_waiting_order rfl rfl rfl (by rfl)) (ri_enum rfl Y.n_enumerate (ra_cons (rs_var (i := 0)) (ra_nil))) ⟨fun _ _ _ _ _ e1 e2 hr2 e4 => rg_tup rfl (rgs_cons (rg_name (i := 4) sc_waiting_order.nd (hx := loc_of e1 (by first | exact .inl rfl | exact .inr rfl)) (hf := by first | exact .inl rfl | exact .inr (lk_of e1 rfl))) (rgs_cons (rg_name (i := 2) sc_waiting_order.nd (hx := loc_of e1 (by first | exact .inl rfl | exact .inr rfl)) (hf := by first | exact .inl rfl | exact .inr (lk_of e1 rfl))) (rgs_nil))), fun _ _ _ _ _ e1 e2 hr2 e4 => rts_nil, fun _ _ _ _ _ e1 e2 hr2 e4 => rs_tup (ra_cons (rs_ix hr2 (rs_var (i := 2) (hv := vis_of e1 (by first | exact Or.inl rfl | exact Or.inr (Or.inl rfl) | exact Or.inr (Or.inr rfl)))) (rs_int)) (ra_cons (rs_bin ow_sub (rs_int) (rs_ix hr2 (rs_var (i := 2) (hv := vis_of e1 (by first | exact Or.inl rfl | exact Or.inr (Or.inl rfl) | exact Or.inr (Or.inr rfl)))) (rs_int))) (ra_cons (rs_var (i := 4) (hv := vis_of e1 (by first | exact Or.inl rfl | exact Or.inr (Or.inl rfl) | exact Or.inr (Or.inr rfl)))) (ra_nil))))⟩ (hmg := Y.n_sorted))) (rss_cons (st_par2 (i := 5) (j := 6) rfl sc_waiting_order.nd (ra_cons (rs_var (i := 1)) (ra_cons (rs_lst (ra_nil)) (ra_nil)))) (rss_cons (st_for (passes_of rfl) rfl (ri_e (rs_var (i := 3))) (rg_tup rfl (rgs_cons (rg_name (i := 7) sc_waiting_order.nd) (rgs_cons (rg_name (i := 8) sc_waiting_order.nd) (rgs_cons (rg_name (i := 4) sc_waiting_order.nd) (rgs_nil))))) (rss_cons (st_if (rt_cmp ow_le (rs_ix hr (rs_ix hr (rs_var (i := 0)) (rs_var (i := 4))) (rs_int)) (rs_var (i := 5))) (rss_cons (st_aug (i := 5) sc_waiting_order.nd ow_isub (rs_ix hr (rs_ix hr (rs_var (i := 0)) (rs_var (i := 4))) (rs_int))) (rss_cons (st_expr (rs_bm met_append (rs_var (i := 6)) (ra_cons (rs_var (i := 4)) (ra_nil)))) (rss_nil))) (rss_nil)) (rss_nil))) (rss_cons (st_ret (rs_ty cw_tuple Y.n_tuple (by rfl) (ra_cons (rs_var (i := 6)) (ra_nil)))) (rss_nil))))))
abbrev N__law_dice : List Str := [("cell" : Str)]
theorem sc__law_dice : FnScope N__law_dice ["cell"] (defScope s__law_dice) := ⟨rfl, rfl, rfl, by decide +kernel, rfl, by decide +kernel, by decide +kernel⟩
theorem bd__law_dice (Y : Txt T K mg base a) : Binds K a.d__law_dice ["cell"] [] := Y.F__law_dice.binds (ps := ["cell"]) fun _ _ _ _ _ _ us hl => match us, hl with | [_], _ => rfl
theorem ok__law_dice (Y : Txt T K mg base a) : FnOk P w K mg base (L2.CX P w) 2 a.f__law_dice a.d__law_dice ["cell"] (spR T K mg 1 Mi._law_dice) := fn_R Y.F__law_dice sc__law_dice rfl fun cdv A outer s H Ex hr => by
  exact (rss_cons (st_if (rt_chain ow_lt ow_lt (rs_bin ow_sub (rs_int) (rs_int)) (rs_var (i := 0)) (rs_int)) (rss_cons (st_ret (rs_lst (ra_cons (rs_bt cw_abs Y.n_abs (by rfl) (ra_cons (rs_var (i := 0)) (ra_nil))) (ra_cons (rs_int) (ra_cons (rs_int) (ra_nil)))))) (rss_nil)) (rss_nil)) (rss_cons (st_ret (rs_lst (ra_cons (rs_var (i := 0)) (ra_cons (rs_bin ow_add (rs_int) (rs_bin ow_mod (rs_ty cw_int Y.n_int (by rfl) (ra_cons (rs_var (i := 0)) (ra_nil))) (rs_int))) (ra_cons (rs_ty cw_int Y.n_int (by rfl) (ra_cons (rs_cmp ow_ge (rs_var (i := 0)) (rs_bin ow_pow (rs_int) (rs_int))) (ra_nil))) (ra_nil)))))) (rss_nil)))
abbrev N__law_roll : List Str := [("dice" : Str), ("many" : Str), ("found" : Str)]
theorem sc__law_roll : FnScope N__law_roll ["dice", "many"] (defScope s__law_roll) := ⟨rfl, rfl, rfl, by decide +kernel, rfl, by decide +kernel, by decide +kernel⟩
theorem bd__law_roll (Y : Txt T K mg base a) : Binds K a.d__law_roll ["dice", "many"] [] := Y.F__law_roll.binds (ps := ["dice", "many"]) fun _ _ _ _ _ _ us hl => match us, hl with | [_, _], _ => rfl
theorem ok__law_roll (Y : Txt T K mg base a) : ∀ d : Nat, FnOk P w K mg base (L2.CX P w) (2 + d) a.f__law_roll a.d__law_roll ["dice", "many"] (spR T K mg 2 (Mi._law_roll d))
  | 0 => fn_R Y.F__law_roll sc__law_roll rfl fun cdv A outer s H Ex hr => rss_bad
  | d + 1 => fn_R (k := 2 + d) Y.F__law_roll sc__law_roll rfl fun cdv A outer s H Ex hr => by
    exact (rss_cons (st_if (rw_rt (rw_or (rt_cmp (ow_eq (u60 hr)) (rs_ix hr (rs_var (i := 0)) (rs_int)) (rs_int)) (rw_or1 (rw_rt (rw_and (rt_cmp (ow_eq (u60 hr)) (rs_ix hr (rs_var (i := 0)) (rs_int)) (rs_int)) (rw_and1 (rt_cmp ow_gt (rs_ix hr (rs_var (i := 0)) (rs_int)) (rs_int)))))))) (rss_cons (st_set (i := 2) sc__law_roll.nd (rs_bin ow_mod (rs_ty cw_int Y.n_int (by rfl) (ra_cons (rs_ix hr (rs_var (i := 0)) (rs_int)) (ra_nil))) (rs_var (i := 1)))) (rss_cons (st_asg (rs_bin ow_fdiv (rs_ix hr (rs_var (i := 0)) (rs_int)) (rs_var (i := 1))) (rg_ix hr (rs_var (i := 0)) (rs_int) (by intro _; rfl))) (rss_cons (st_ret (rs_var (i := 2))) (rss_nil)))) (rss_nil)) (rss_cons (st_asg (rs_int) (rg_ix hr (rs_var (i := 0)) (rs_int) (by intro _; rfl))) (rss_cons (st_if (rt_cmp ow_gt (rs_var (i := 1)) (rs_int)) (rss_cons (st_ret (rs_bin ow_mod (rs_ty cw_int Y.n_int (by rfl) (ra_cons (rs_bin ow_add (rs_bin ow_mul (rs_call (ok__law_roll Y d) rfl (len_cons (len_cons (len_nil))) rfl (hr.mono (by omega)) Y.mg__law_roll Y.F__law_roll.kp (bd__law_roll Y) (ra_cons (rs_var (i := 0)) (ra_cons (rs_bin ow_add (rs_bin ow_fdiv (rs_var (i := 1)) (rs_int)) (rs_int)) (ra_nil)))) (rs_int)) (rs_call (ok__law_roll Y d) rfl (len_cons (len_cons (len_nil))) rfl (hr.mono (by omega)) Y.mg__law_roll Y.F__law_roll.kp (bd__law_roll Y) (ra_cons (rs_var (i := 0)) (ra_cons (rs_int) (ra_nil))))) (ra_nil))) (rs_var (i := 1)))) (rss_nil)) (rss_nil)) (rss_cons (st_asg (rs_bin ow_mod (rs_ty cw_int Y.n_int (by rfl) (ra_cons (rs_bin ow_add (rs_bin ow_add (rs_bin ow_mul (rs_ix hr (rs_var (i := 0)) (rs_int)) (rs_int)) (rs_bin ow_mul (rs_ix hr (rs_var (i := 0)) (rs_int)) (rs_int))) (rs_int)) (ra_nil))) (rs_int)) (rg_ix hr (rs_var (i := 0)) (rs_int) (by intro _; rfl))) (rss_cons (st_asg (rs_bin ow_add (rs_ix hr (rs_var (i := 0)) (rs_int)) (rs_int)) (rg_ix hr (rs_var (i := 0)) (rs_int) (by intro _; rfl))) (rss_cons (st_ret (rs_bin ow_mod (rs_ty cw_int Y.n_int (by rfl) (ra_cons (rs_bin ow_fdiv (rs_ix hr (rs_var (i := 0)) (rs_int)) (rs_int)) (ra_nil))) (rs_var (i := 1)))) (rss_nil)))))))
abbrev N__law_rounds : List Str := [("script" : Str), ("most" : Str), ("cells" : Str), ("cell" : Str)]
theorem sc__law_rounds : FnScope N__law_rounds ["script", "most"] (defScope s__law_rounds) := ⟨rfl, rfl, rfl, by decide +kernel, rfl, by decide +kernel, by decide +kernel⟩
theorem bd__law_rounds (Y : Txt T K mg base a) : Binds K a.d__law_rounds ["script", "most"] [] := Y.F__law_rounds.binds (ps := ["script", "most"]) fun _ _ _ _ _ _ us hl => match us, hl with | [_, _], _ => rfl
theorem ok__law_rounds (Y : Txt T K mg base a) : FnOk P w K mg base (L2.CX P w) 4 a.f__law_rounds a.d__law_rounds ["script", "most"] (spRounds T K mg Mi._law_rounds) := fn_rounds Y.F__law_rounds sc__law_rounds rfl (by first | exact Or.inl rfl | exact Or.inr (Or.inl rfl) | exact Or.inr (Or.inr rfl)) (by first | exact Or.inl rfl | exact Or.inr (Or.inl rfl) | exact Or.inr (Or.inr rfl)) (by first | exact Or.inl rfl | exact Or.inr rfl) (by decide) (fun _ => rfl) fun cdv A outer s H Ex hr => by
  exact (rss_cons (st_if (rt_cmp (ow_eq (u60 hr)) (rs_var (i := 2)) (rs_lst (ra_nil))) (rss_cons (st_set (i := 2) sc__law_rounds.nd (rs_lst (ra_cons (rs_int) (ra_nil)))) (rss_nil)) (rss_nil)) (rss_cons (st_ret (rs_lc (own := [("cell", 3)]) rfl sc__law_rounds.nd (ri_e (rs_var (i := 2))) (blkOk_by (by kernel_rfl)) ⟨fun _ _ _ _ _ => rgv_name (i := 3) sc__law_rounds.nd, fun _ _ _ _ _ => rts_nil, fun _ _ _ _ _ => rs_call (ok__law_dice Y) rfl (len_cons (len_nil)) rfl (hr.mono (by decide)) Y.mg__law_dice Y.F__law_dice.kp (bd__law_dice Y) (ra_cons (rs_var (i := 3)) (ra_nil))⟩)) (rss_nil)))
abbrev N__law_part : List Str := [("own" : Str), ("ahead" : Str), ("least" : Str), ("part" : Str)]
theorem sc__law_part : FnScope N__law_part ["own", "ahead"] (defScope s__law_part) := ⟨rfl, rfl, rfl, by decide +kernel, rfl, by decide +kernel, by decide +kernel⟩
theorem bd__law_part (Y : Txt T K mg base a) : Binds K a.d__law_part ["own", "ahead"] [] := Y.F__law_part.binds (ps := ["own", "ahead"]) fun _ _ _ _ _ _ us hl => match us, hl with | [_, _], _ => rfl
theorem ok__law_part (Y : Txt T K mg base a) : FnOk P w K mg base (L2.CX P w) 2 a.f__law_part a.d__law_part ["own", "ahead"] (spR T K mg 2 Mi._law_part) := fn_R Y.F__law_part sc__law_part rfl fun cdv A outer s H Ex hr => by
  exact (rss_cons (st_ret (rs_ix hr (rs_bin ow_add (rs_lst (ra_cons (rs_int) (ra_nil))) (rs_lc (own := [("least", 2), ("part", 3)]) rfl sc__law_part.nd (ri_e (rs_ix hr (rs_var (i := 0)) (rs_str))) (blkOk_by (by kernel_rfl)) ⟨fun _ _ _ _ _ => rgv_tup rfl (rgsv_cons (rgv_name (i := 2) sc__law_part.nd) (rgsv_cons (rgv_name (i := 3) sc__law_part.nd) (rgsv_nil))), fun _ _ _ _ _ => rts_one (rt_cmp ow_le (rs_var (i := 2)) (rs_var (i := 1))), fun _ _ _ _ _ => rs_var (i := 3)⟩)) (rs_un uw_neg (rs_int)))) (rss_nil))
abbrev N__law_back : List Str := [("own" : Str), ("sort" : Str), ("paid" : Str), ("ahead" : Str), ("part" : Str)]
theorem sc__law_back : FnScope N__law_back ["own", "sort", "paid", "ahead"] (defScope s__law_back) := ⟨rfl, rfl, rfl, by decide +kernel, rfl, by decide +kernel, by decide +kernel⟩
theorem bd__law_back (Y : Txt T K mg base a) : Binds K a.d__law_back ["own", "sort", "paid", "ahead"] [] := Y.F__law_back.binds (ps := ["own", "sort", "paid", "ahead"]) fun _ _ _ _ _ _ us hl => match us, hl with | [_, _, _, _], _ => rfl
theorem ok__law_back (Y : Txt T K mg base a) : FnOk P w K mg base (L2.CX P w) 4 a.f__law_back a.d__law_back ["own", "sort", "paid", "ahead"] (spR T K mg 4 Mi._law_back) := fn_R Y.F__law_back sc__law_back rfl fun cdv A outer s H Ex hr => by
  exact (rss_cons (st_if (rt_cmp (ow_in (u60 hr)) (rs_var (i := 1)) (rs_lst (ra_cons (rs_str) (ra_cons (rs_str) (ra_nil))))) (rss_cons (st_ret (rs_bin ow_mul (rs_var (i := 2)) (rs_ty cw_int Y.n_int (by rfl) (ra_cons (rs_cmp (ow_eq (u60 hr)) (rs_var (i := 1)) (rs_str)) (ra_nil))))) (rss_nil)) (rss_nil)) (rss_cons (st_set (i := 4) sc__law_back.nd (rs_if (rt_cmp (ow_eq (u60 hr)) (rs_var (i := 1)) (rs_str)) (rs_var (i := 2)) (rs_bin ow_fdiv (rs_bin ow_mul (rs_bt (cw_best (mx := true) rfl (u60 hr)) Y.n_max (by rfl) (ra_cons (rs_int) (ra_cons (rs_bin ow_sub (rs_var (i := 2)) (rs_ix hr (rs_var (i := 0)) (rs_str))) (ra_nil)))) (rs_call (ok__law_part Y) rfl (len_cons (len_cons (len_nil))) rfl (hr.mono (by decide)) Y.mg__law_part Y.F__law_part.kp (bd__law_part Y) (ra_cons (rs_var (i := 0)) (ra_cons (rs_var (i := 3)) (ra_nil))))) (rs_int)))) (rss_cons (st_ret (rs_bt (cw_best (mx := true) rfl (u60 hr)) Y.n_max (by rfl) (ra_cons (rs_int) (ra_cons (rs_bin ow_sub (rs_var (i := 4)) (rs_ix hr (rs_var (i := 0)) (rs_str))) (ra_nil))))) (rss_nil))))
abbrev N_CancelBook___init__ : List Str := [("self" : Str)]
theorem sc_CancelBook___init__ : FnScope N_CancelBook___init__ ["self"] (defScope s_CancelBook___init__) := ⟨rfl, rfl, rfl, by decide +kernel, rfl, by decide +kernel, by decide +kernel⟩
theorem bd_CancelBook___init__ (Y : Txt T K mg base a) : Binds K a.d_CancelBook___init__ ["self"] [] := Y.F_CancelBook___init__.binds (ps := ["self"]) fun _ _ _ _ _ _ us hl => match us, hl with | [_], _ => rfl
theorem ok_CancelBook___init__ (Y : Txt T K mg base a) : FnOk P w K mg base (L2.CX P w) 2 a.f_CancelBook___init__ a.d_CancelBook___init__ ["self"] (spR T K mg 1 Mi.CancelBook___init__) := fn_R Y.F_CancelBook___init__ sc_CancelBook___init__ rfl fun cdv A outer s H Ex hr => by
  exact (rss_cons (st_fld Y.fl_rows (rs_var (i := 0)) (rs_lst (ra_nil))) (rss_nil))
abbrev N_CancelBook_counts_of : List Str := [("self" : Str), ("who" : Str), ("sorts" : Str), ("row" : Str), ("sort" : Str)]
theorem sc_CancelBook_counts_of : FnScope N_CancelBook_counts_of ["self", "who"] (defScope s_CancelBook_counts_of) := ⟨rfl, rfl, rfl, by decide +kernel, rfl, by decide +kernel, by decide +kernel⟩
theorem bd_CancelBook_counts_of (Y : Txt T K mg base a) : Binds K a.d_CancelBook_counts_of ["self", "who"] [] := Y.F_CancelBook_counts_of.binds (ps := ["self", "who"]) fun _ _ _ _ _ _ us hl => match us, hl with | [_, _], _ => rfl
theorem ok_CancelBook_counts_of (Y : Txt T K mg base a) : FnOk P w K mg base (L2.CX P w) 2 a.f_CancelBook_counts_of a.d_CancelBook_counts_of ["self", "who"] (spR T K mg 2 Mi.CancelBook_counts_of) := fn_R Y.F_CancelBook_counts_of sc_CancelBook_counts_of rfl fun cdv A outer s H Ex hr => by
  exact (rss_cons (st_set (i := 2) sc_CancelBook_counts_of.nd (rs_lc (own := [("row", 3)]) rfl sc_CancelBook_counts_of.nd (ri_e (rs_fld Y.fl_rows (rs_var (i := 0)))) (blkOk_by (by kernel_rfl)) ⟨fun _ _ _ _ _ => rgv_name (i := 3) sc_CancelBook_counts_of.nd, fun _ _ _ _ _ => rts_one (rt_cmp (ow_eq (u60 hr)) (rs_ix hr (rs_var (i := 3)) (rs_int)) (rs_var (i := 1))), fun _ _ _ _ _ => rs_ix hr (rs_var (i := 3)) (rs_int)⟩)) (rss_cons (st_ret (rs_dc (own := [("sort", 4)]) rfl sc_CancelBook_counts_of.nd (ri_e (rs_glob Y.k_SORTS_OF_CANCEL)) (blkOk_by (by kernel_rfl)) ⟨fun _ _ _ _ _ => rgv_name (i := 4) sc_CancelBook_counts_of.nd, fun _ _ _ _ _ => rts_one (rt_cmp (ow_in (u60 hr)) (rs_var (i := 4)) (rs_var (i := 2))), fun _ _ _ _ _ => rs_var (i := 4), fun _ _ _ _ _ => rs_bm (met_count (u60 hr)) (rs_var (i := 2)) (ra_cons (rs_var (i := 4)) (ra_nil))⟩)) (rss_nil)))
abbrev N_CancelBook_kept_of_all : List Str := [("self" : Str), ("row" : Str)]
theorem sc_CancelBook_kept_of_all : FnScope N_CancelBook_kept_of_all ["self"] (defScope s_CancelBook_kept_of_all) := ⟨rfl, rfl, rfl, by decide +kernel, rfl, by decide +kernel, by decide +kernel⟩
theorem dot_CancelBook_kept_of_all : (".0" : Str) ∉ N_CancelBook_kept_of_all := by decide +kernel
theorem bd_CancelBook_kept_of_all (Y : Txt T K mg base a) : Binds K a.d_CancelBook_kept_of_all ["self"] [] := Y.F_CancelBook_kept_of_all.fun_.binds (ps := ["self"]) fun _ _ _ _ _ _ us hl => match us, hl with | [_], _ => rfl
theorem ok_CancelBook_kept_of_all (Y : Txt T K mg base a) : FnOk P w K mg base (L2.CX P w) 4 a.f_CancelBook_kept_of_all a.d_CancelBook_kept_of_all ["self"] (spR T K mg 1 Mi.CancelBook_kept_of_all) := fn_Rc Y.F_CancelBook_kept_of_all sc_CancelBook_kept_of_all rfl fun A outer s H Ex hr => by
  exact (rss_cons (st_ret (rs_sumG (own := [("row", 1)]) (k0 := 1) (hr.mono (by decide)) rfl (Y.t_CancelBook_kept_of_all.gx (blkOk_by (by kernel_rfl)) sc_CancelBook_kept_of_all.nd dot_CancelBook_kept_of_all rfl rfl rfl (by rfl)) (ri_e (rs_fld Y.fl_rows (rs_var (i := 0)))) ⟨fun _ _ _ _ _ e1 e2 hr2 e4 => rg_name (i := 1) sc_CancelBook_kept_of_all.nd (hx := loc_of e1 (by first | exact .inl rfl | exact .inr rfl)) (hf := by first | exact .inl rfl | exact .inr (lk_of e1 rfl)), fun _ _ _ _ _ e1 e2 hr2 e4 => rts_nil, fun _ _ _ _ _ e1 e2 hr2 e4 => rs_bin ow_sub (rs_ix hr2 (rs_var (i := 1) (hv := vis_of e1 (by first | exact Or.inl rfl | exact Or.inr (Or.inl rfl) | exact Or.inr (Or.inr rfl)))) (rs_int)) (rs_ix hr2 (rs_var (i := 1) (hv := vis_of e1 (by first | exact Or.inl rfl | exact Or.inr (Or.inl rfl) | exact Or.inr (Or.inr rfl)))) (rs_int))⟩ (hmg := Y.n_sum))) (rss_nil))
abbrev N_CancelBook_never_part : List Str := [("self" : Str), ("booked" : Str), ("row" : Str)]
theorem sc_CancelBook_never_part : FnScope N_CancelBook_never_part ["self", "booked"] (defScope s_CancelBook_never_part) := ⟨rfl, rfl, rfl, by decide +kernel, rfl, by decide +kernel, by decide +kernel⟩
theorem bd_CancelBook_never_part (Y : Txt T K mg base a) : Binds K a.d_CancelBook_never_part ["self", "booked"] [] := Y.F_CancelBook_never_part.binds (ps := ["self", "booked"]) fun _ _ _ _ _ _ us hl => match us, hl with | [_, _], _ => rfl
theorem ok_CancelBook_never_part (Y : Txt T K mg base a) : FnOk P w K mg base (L2.CX P w) 2 a.f_CancelBook_never_part a.d_CancelBook_never_part ["self", "booked"] (spR T K mg 2 Mi.CancelBook_never_part) := fn_R Y.F_CancelBook_never_part sc_CancelBook_never_part rfl fun cdv A outer s H Ex hr => by
  exact (rss_cons (st_if (rt_cmp ow_lt (rs_var (i := 1)) (rs_bt (cw_best (mx := true) rfl (u60 hr)) Y.n_max (by rfl) (ra_cons (rs_int) (ra_cons (rs_bt cw_len Y.n_len (by rfl) (ra_cons (rs_fld Y.fl_rows (rs_var (i := 0))) (ra_nil))) (ra_nil))))) (rss_cons (st_raise rfl rfl Y.x_CancelError) (rss_nil)) (rss_nil)) (rss_cons (st_ret (rs_bin ow_fdiv (rs_bin ow_mul (rs_int) (rs_bt cw_len Y.n_len (by rfl) (ra_cons (rs_lc (own := [("row", 2)]) rfl sc_CancelBook_never_part.nd (ri_e (rs_fld Y.fl_rows (rs_var (i := 0)))) (blkOk_by (by kernel_rfl)) ⟨fun _ _ _ _ _ => rgv_name (i := 2) sc_CancelBook_never_part.nd, fun _ _ _ _ _ => rts_one (rt_cmp (ow_eq (u60 hr)) (rs_ix hr (rs_var (i := 2)) (rs_int)) (rs_str)), fun _ _ _ _ _ => rs_int⟩) (ra_nil)))) (rs_var (i := 1)))) (rss_nil)))
abbrev N_CancelBook_note_one : List Str := [("self" : Str), ("who" : Str), ("sort" : Str), ("paid" : Str), ("back" : Str)]
theorem sc_CancelBook_note_one : FnScope N_CancelBook_note_one ["self", "who", "sort", "paid", "back"] (defScope s_CancelBook_note_one) := ⟨rfl, rfl, rfl, by decide +kernel, rfl, by decide +kernel, by decide +kernel⟩
theorem bd_CancelBook_note_one (Y : Txt T K mg base a) : Binds K a.d_CancelBook_note_one ["self", "who", "sort", "paid", "back"] [] := Y.F_CancelBook_note_one.binds (ps := ["self", "who", "sort", "paid", "back"]) fun _ _ _ _ _ _ us hl => match us, hl with | [_, _, _, _, _], _ => rfl
theorem ok_CancelBook_note_one (Y : Txt T K mg base a) : FnOk P w K mg base (L2.CX P w) 2 a.f_CancelBook_note_one a.d_CancelBook_note_one ["self", "who", "sort", "paid", "back"] (spR T K mg 5 Mi.CancelBook_note_one) := fn_R Y.F_CancelBook_note_one sc_CancelBook_note_one rfl fun cdv A outer s H Ex hr => by
  exact (rss_cons (st_if (rw_rt (rw_or (rt_cmp (ow_eq (u60 hr)) (rs_var (i := 1)) (rs_str)) (rw_or (rt_cmp (ow_notIn (u60 hr)) (rs_var (i := 2)) (rs_glob Y.k_SORTS_OF_CANCEL)) (rw_or1 (rt_not (rt_chain ow_le ow_le (rs_int) (rs_var (i := 4)) (rs_var (i := 3)))))))) (rss_cons (st_raise rfl rfl Y.x_CancelError) (rss_nil)) (rss_nil)) (rss_cons (st_expr (rs_bm met_append (rs_fld Y.fl_rows (rs_var (i := 0))) (ra_cons (rs_tup (ra_cons (rs_var (i := 1)) (ra_cons (rs_var (i := 2)) (ra_cons (rs_var (i := 3)) (ra_cons (rs_var (i := 4)) (ra_nil)))))) (ra_nil)))) (rss_nil)))
abbrev N_CancelBook_worst_ones : List Str := [("self" : Str), ("least" : Str), ("names" : Str), ("row" : Str), ("rows" : Str), ("place" : Str), ("name" : Str), ("less" : Str)]
theorem sc_CancelBook_worst_ones : FnScope N_CancelBook_worst_ones ["self", "least"] (defScope s_CancelBook_worst_ones) := ⟨rfl, rfl, rfl, by decide +kernel, rfl, by decide +kernel, by decide +kernel⟩
theorem dot_CancelBook_worst_ones : (".0" : Str) ∉ N_CancelBook_worst_ones := by decide +kernel
theorem bd_CancelBook_worst_ones (Y : Txt T K mg base a) : Binds K a.d_CancelBook_worst_ones ["self", "least"] [] := Y.F_CancelBook_worst_ones.fun_.binds (ps := ["self", "least"]) fun _ _ _ _ _ _ us hl => match us, hl with | [_, _], _ => rfl
theorem ok_CancelBook_worst_ones (Y : Txt T K mg base a) : FnOk P w K mg base (L2.CX P w) 4 a.f_CancelBook_worst_ones a.d_CancelBook_worst_ones ["self", "least"] (spR T K mg 2 Mi.CancelBook_worst_ones) := fn_Rc Y.F_CancelBook_worst_ones sc_CancelBook_worst_ones rfl fun A outer s H Ex hr => by
  exact (rss_cons (st_if (rt_cmp ow_lt (rs_var (i := 1)) (rs_int)) (rss_cons (st_raise rfl rfl Y.x_CancelError) (rss_nil)) (rss_nil)) (rss_cons (st_setLc (own := [("row", 3)]) rfl sc_CancelBook_worst_ones.nd (ri_e (rs_fld Y.fl_rows (rs_var (i := 0)))) (blkOk_by (by kernel_rfl)) ⟨fun _ _ _ _ _ => rgv_name (i := 3) sc_CancelBook_worst_ones.nd, fun _ _ _ _ _ => rts_one (rt_cmp (ow_eq (u60 hr)) (rs_ix hr (rs_var (i := 3)) (rs_int)) (rs_str)), fun _ _ _ _ _ => rs_ix hr (rs_var (i := 3)) (rs_int)⟩) (rss_cons (st_set (i := 4) sc_CancelBook_worst_ones.nd (rs_lst (ra_nil))) (rss_cons (st_for (passes_of rfl) rfl (ri_enum rfl Y.n_enumerate (ra_cons (rs_dc (own := [("name", 6)]) rfl sc_CancelBook_worst_ones.nd (ri_e (rs_var (i := 2))) (blkOk_by (by kernel_rfl)) ⟨fun _ _ _ _ _ => rgv_name (i := 6) sc_CancelBook_worst_ones.nd, fun _ _ _ _ _ => rts_nil, fun _ _ _ _ _ => rs_var (i := 6), fun _ _ _ _ _ => rs_bl⟩) (ra_nil))) (rg_tup rfl (rgs_cons (rg_name (i := 5) sc_CancelBook_worst_ones.nd) (rgs_cons (rg_name (i := 6) sc_CancelBook_worst_ones.nd) (rgs_nil)))) (rss_cons (st_aug (i := 4) sc_CancelBook_worst_ones.nd ow_iadd (rs_if (rt_cmp ow_ge (rs_bm (met_count (u60 hr)) (rs_var (i := 2)) (ra_cons (rs_var (i := 6)) (ra_nil))) (rs_var (i := 1))) (rs_lst (ra_cons (rs_tup (ra_cons (rs_bin ow_sub (rs_int) (rs_bm (met_count (u60 hr)) (rs_var (i := 2)) (ra_cons (rs_var (i := 6)) (ra_nil)))) (ra_cons (rs_var (i := 5)) (ra_cons (rs_var (i := 6)) (ra_nil))))) (ra_nil))) (rs_lst (ra_nil)))) (rss_nil))) (rss_cons (st_ret (rs_tupG (own := [("less", 7), ("place", 5), ("name", 6)]) (k0 := 1) (hr.mono (by decide)) rfl (Y.t_CancelBook_worst_ones.gx (blkOk_by (by kernel_rfl)) sc_CancelBook_worst_ones.nd dot_CancelBook_worst_ones rfl rfl rfl (by rfl)) (ri_e (rs_bt (cw_sorted rfl (u60 hr)) Y.n_sorted (by rfl) (ra_cons (rs_var (i := 4)) (ra_nil)))) ⟨fun _ _ _ _ _ e1 e2 hr2 e4 => rg_tup rfl (rgs_cons (rg_name (i := 7) sc_CancelBook_worst_ones.nd (hx := loc_of e1 (by first | exact .inl rfl | exact .inr rfl)) (hf := by first | exact .inl rfl | exact .inr (lk_of e1 rfl))) (rgs_cons (rg_name (i := 5) sc_CancelBook_worst_ones.nd (hx := loc_of e1 (by first | exact .inl rfl | exact .inr rfl)) (hf := by first | exact .inl rfl | exact .inr (lk_of e1 rfl))) (rgs_cons (rg_name (i := 6) sc_CancelBook_worst_ones.nd (hx := loc_of e1 (by first | exact .inl rfl | exact .inr rfl)) (hf := by first | exact .inl rfl | exact .inr (lk_of e1 rfl))) (rgs_nil)))), fun _ _ _ _ _ e1 e2 hr2 e4 => rts_nil, fun _ _ _ _ _ e1 e2 hr2 e4 => rs_var (i := 6) (hv := vis_of e1 (by first | exact Or.inl rfl | exact Or.inr (Or.inl rfl) | exact Or.inr (Or.inr rfl)))⟩ (hmg := Y.n_tuple))) (rss_nil))))))
abbrev N_CancelRules___init__ : List Str := [("self" : Str), ("steps" : Str), ("fee" : Str), ("never" : Str), ("least" : Str), ("part" : Str), ("one" : Str), ("two" : Str)]
theorem sc_CancelRules___init__ : FnScope N_CancelRules___init__ ["self", "steps", "fee", "never"] (defScope s_CancelRules___init__) := ⟨rfl, rfl, rfl, by decide +kernel, rfl, by decide +kernel, by decide +kernel⟩
theorem dot_CancelRules___init__ : (".0" : Str) ∉ N_CancelRules___init__ := by decide +kernel
theorem bd_CancelRules___init__ (Y : Txt T K mg base a) : Binds K a.d_CancelRules___init__ ["self", "steps", "fee", "never"] [] := Y.F_CancelRules___init__.fun_.binds (ps := ["self", "steps", "fee", "never"]) fun _ _ _ _ _ _ us hl => match us, hl with | [_, _, _, _], _ => rfl
theorem ok_CancelRules___init__ (Y : Txt T K mg base a) : FnOk P w K mg base (L2.CX P w) 4 a.f_CancelRules___init__ a.d_CancelRules___init__ ["self", "steps", "fee", "never"] (spR T K mg 4 Mi.CancelRules___init__) := fn_Rc Y.F_CancelRules___init__ sc_CancelRules___init__ rfl fun A outer s H Ex hr => by
  exact (rss_cons (st_if (rw_rt (rw_or (rt_cmp (ow_eq (u60 hr)) (rs_bt cw_len Y.n_len (by rfl) (ra_cons (rs_var (i := 1)) (ra_nil))) (rs_int)) (rw_or (rt_cmp (ow_ne (u60 hr)) (rs_ix hr (rs_ix hr (rs_var (i := 1)) (rs_int)) (rs_int)) (rs_int)) (rw_or1 (rt_val (rs_any (own := [("least", 4), ("part", 5)]) (k0 := 1) (hr.mono (by decide)) rfl (Y.t_CancelRules___init__.gx (blkOk_by (by kernel_rfl)) sc_CancelRules___init__.nd dot_CancelRules___init__ rfl rfl rfl (by rfl)) (ri_e (rs_var (i := 1))) ⟨fun _ _ _ _ _ e1 e2 hr2 e4 => rg_tup rfl (rgs_cons (rg_name (i := 4) sc_CancelRules___init__.nd (hx := loc_of e1 (by first | exact .inl rfl | exact .inr rfl)) (hf := by first | exact .inl rfl | exact .inr (lk_of e1 rfl))) (rgs_cons (rg_name (i := 5) sc_CancelRules___init__.nd (hx := loc_of e1 (by first | exact .inl rfl | exact .inr rfl)) (hf := by first | exact .inl rfl | exact .inr (lk_of e1 rfl))) (rgs_nil))), fun _ _ _ _ _ e1 e2 hr2 e4 => rts_nil, fun _ _ _ _ _ e1 e2 hr2 e4 => rs_not (rs_chain ow_le ow_le (rs_int) (rs_var (i := 5) (hv := vis_of e1 (by first | exact Or.inl rfl | exact Or.inr (Or.inl rfl) | exact Or.inr (Or.inr rfl)))) (rs_int))⟩ (hmg := Y.n_any))))))) (rss_cons (st_raise rfl rfl Y.x_CancelError) (rss_nil)) (rss_nil)) (rss_cons (st_if (rt_val (rs_any (own := [("one", 6), ("two", 7)]) (k0 := 1) (hr.mono (by decide)) rfl (Y.t_CancelRules___init__.gx (blkOk_by (by kernel_rfl)) sc_CancelRules___init__.nd dot_CancelRules___init__ rfl rfl rfl (by rfl)) (ri_zip rfl Y.n_zip (ra_cons (rs_var (i := 1)) (ra_cons (rs_sl (rs_var (i := 1)) (ro_some (rs_int)) ro_none) (ra_nil)))) ⟨fun _ _ _ _ _ e1 e2 hr2 e4 => rg_tup rfl (rgs_cons (rg_name (i := 6) sc_CancelRules___init__.nd (hx := loc_of e1 (by first | exact .inl rfl | exact .inr rfl)) (hf := by first | exact .inl rfl | exact .inr (lk_of e1 rfl))) (rgs_cons (rg_name (i := 7) sc_CancelRules___init__.nd (hx := loc_of e1 (by first | exact .inl rfl | exact .inr rfl)) (hf := by first | exact .inl rfl | exact .inr (lk_of e1 rfl))) (rgs_nil))), fun _ _ _ _ _ e1 e2 hr2 e4 => rts_nil, fun _ _ _ _ _ e1 e2 hr2 e4 => rs_or (rs_cmp ow_le (rs_ix hr2 (rs_var (i := 7) (hv := vis_of e1 (by first | exact Or.inl rfl | exact Or.inr (Or.inl rfl) | exact Or.inr (Or.inr rfl)))) (rs_int)) (rs_ix hr2 (rs_var (i := 6) (hv := vis_of e1 (by first | exact Or.inl rfl | exact Or.inr (Or.inl rfl) | exact Or.inr (Or.inr rfl)))) (rs_int))) (rs_one (rs_cmp ow_lt (rs_ix hr2 (rs_var (i := 7) (hv := vis_of e1 (by first | exact Or.inl rfl | exact Or.inr (Or.inl rfl) | exact Or.inr (Or.inr rfl)))) (rs_int)) (rs_ix hr2 (rs_var (i := 6) (hv := vis_of e1 (by first | exact Or.inl rfl | exact Or.inr (Or.inl rfl) | exact Or.inr (Or.inr rfl)))) (rs_int))))⟩ (hmg := Y.n_any))) (rss_cons (st_raise rfl rfl Y.x_CancelError) (rss_nil)) (rss_nil)) (rss_cons (st_if (rt_cmp ow_lt (rs_bt (cw_best (mx := false) rfl (u60 hr)) Y.n_min (by rfl) (ra_cons (rs_var (i := 2)) (ra_cons (rs_var (i := 3)) (ra_nil)))) (rs_int)) (rss_cons (st_raise rfl rfl Y.x_CancelError) (rss_nil)) (rss_nil)) (rss_cons (st_fld Y.fl_steps (rs_var (i := 0)) (rs_ty cw_tuple Y.n_tuple (by rfl) (ra_cons (rs_var (i := 1)) (ra_nil)))) (rss_cons (st_fld Y.fl_fee (rs_var (i := 0)) (rs_var (i := 2))) (rss_cons (st_fld Y.fl_never (rs_var (i := 0)) (rs_var (i := 3))) (rss_nil)))))))
abbrev N_CancelRules_part_ahead : List Str := [("self" : Str), ("ahead" : Str), ("parts" : Str), ("least" : Str), ("part" : Str)]
theorem sc_CancelRules_part_ahead : FnScope N_CancelRules_part_ahead ["self", "ahead"] (defScope s_CancelRules_part_ahead) := ⟨rfl, rfl, rfl, by decide +kernel, rfl, by decide +kernel, by decide +kernel⟩
theorem bd_CancelRules_part_ahead (Y : Txt T K mg base a) : Binds K a.d_CancelRules_part_ahead ["self", "ahead"] [] := Y.F_CancelRules_part_ahead.binds (ps := ["self", "ahead"]) fun _ _ _ _ _ _ us hl => match us, hl with | [_, _], _ => rfl
theorem ok_CancelRules_part_ahead (Y : Txt T K mg base a) : FnOk P w K mg base (L2.CX P w) 2 a.f_CancelRules_part_ahead a.d_CancelRules_part_ahead ["self", "ahead"] (spR T K mg 2 Mi.CancelRules_part_ahead) := fn_R Y.F_CancelRules_part_ahead sc_CancelRules_part_ahead rfl fun cdv A outer s H Ex hr => by
  exact (rss_cons (st_setLc (own := [("least", 3), ("part", 4)]) rfl sc_CancelRules_part_ahead.nd (ri_e (rs_fld Y.fl_steps (rs_var (i := 0)))) (blkOk_by (by kernel_rfl)) ⟨fun _ _ _ _ _ => rgv_tup rfl (rgsv_cons (rgv_name (i := 3) sc_CancelRules_part_ahead.nd) (rgsv_cons (rgv_name (i := 4) sc_CancelRules_part_ahead.nd) (rgsv_nil))), fun _ _ _ _ _ => rts_one (rt_cmp ow_le (rs_var (i := 3)) (rs_var (i := 1))), fun _ _ _ _ _ => rs_var (i := 4)⟩) (rss_cons (st_ret (rs_if (rt_cmp (ow_ne (u60 hr)) (rs_var (i := 2)) (rs_lst (ra_nil))) (rs_ix hr (rs_var (i := 2)) (rs_un uw_neg (rs_int))) (rs_int))) (rss_nil)))
abbrev N_CancelRules_given_back : List Str := [("self" : Str), ("sort" : Str), ("paid" : Str), ("ahead" : Str)]
theorem sc_CancelRules_given_back : FnScope N_CancelRules_given_back ["self", "sort", "paid", "ahead"] (defScope s_CancelRules_given_back) := ⟨rfl, rfl, rfl, by decide +kernel, rfl, by decide +kernel, by decide +kernel⟩
theorem bd_CancelRules_given_back (Y : Txt T K mg base a) : Binds K a.d_CancelRules_given_back ["self", "sort", "paid", "ahead"] [] := Y.F_CancelRules_given_back.binds (ps := ["self", "sort", "paid", "ahead"]) fun _ _ _ _ _ _ us hl => match us, hl with | [_, _, _, _], _ => rfl
theorem ok_CancelRules_given_back (Y : Txt T K mg base a) : FnOk P w K mg base (L2.CX P w) 4 a.f_CancelRules_given_back a.d_CancelRules_given_back ["self", "sort", "paid", "ahead"] (spR T K mg 4 Mi.CancelRules_given_back) := fn_R Y.F_CancelRules_given_back sc_CancelRules_given_back rfl fun cdv A outer s H Ex hr => by
  exact (rss_cons (st_if (rw_rt (rw_or (rt_cmp (ow_notIn (u60 hr)) (rs_var (i := 1)) (rs_glob Y.k_SORTS_OF_CANCEL)) (rw_or1 (rt_cmp ow_lt (rs_var (i := 2)) (rs_int))))) (rss_cons (st_raise rfl rfl Y.x_CancelError) (rss_nil)) (rss_nil)) (rss_cons (st_if (rt_cmp (ow_eq (u60 hr)) (rs_var (i := 1)) (rs_str)) (rss_cons (st_ret (rs_var (i := 2))) (rss_nil)) (rss_nil)) (rss_cons (st_if (rt_cmp (ow_eq (u60 hr)) (rs_var (i := 1)) (rs_str)) (rss_cons (st_ret (rs_int)) (rss_nil)) (rss_nil)) (rss_cons (st_if (rt_cmp (ow_eq (u60 hr)) (rs_var (i := 1)) (rs_str)) (rss_cons (st_ret (rs_bt (cw_best (mx := true) rfl (u60 hr)) Y.n_max (by rfl) (ra_cons (rs_int) (ra_cons (rs_bin ow_sub (rs_var (i := 2)) (rs_fld Y.fl_fee (rs_var (i := 0)))) (ra_nil))))) (rss_nil)) (rss_nil)) (rss_cons (st_ret (rs_bt (cw_best (mx := true) rfl (u60 hr)) Y.n_max (by rfl) (ra_cons (rs_int) (ra_cons (rs_bin ow_sub (rs_bin ow_fdiv (rs_bin ow_mul (rs_bt (cw_best (mx := true) rfl (u60 hr)) Y.n_max (by rfl) (ra_cons (rs_int) (ra_cons (rs_bin ow_sub (rs_var (i := 2)) (rs_fld Y.fl_never (rs_var (i := 0)))) (ra_nil)))) (rs_meth (rs_var (i := 0)) Y.mg_CancelRules Y.cl_CancelRules Y.me_CancelRules_part_ahead (ok_CancelRules_part_ahead Y) (len_cons (len_nil)) rfl (hr.mono (by decide)) (bd_CancelRules_part_ahead Y) (ra_cons (rs_var (i := 3)) (ra_nil)))) (rs_int)) (rs_fld Y.fl_fee (rs_var (i := 0)))) (ra_nil))))) (rss_nil))))))
abbrev N_CancelRules_best_moment : List Str := [("self" : Str), ("paid" : Str), ("ahead" : Str), ("chance" : Str), ("steps" : Str), ("least" : Str), ("part" : Str), ("later" : Str), ("wait" : Str)]
theorem sc_CancelRules_best_moment : FnScope N_CancelRules_best_moment ["self", "paid", "ahead", "chance"] (defScope s_CancelRules_best_moment) := ⟨rfl, rfl, rfl, by decide +kernel, rfl, by decide +kernel, by decide +kernel⟩
theorem bd_CancelRules_best_moment (Y : Txt T K mg base a) : Binds K a.d_CancelRules_best_moment ["self", "paid", "ahead", "chance"] [] := Y.F_CancelRules_best_moment.binds (ps := ["self", "paid", "ahead", "chance"]) fun _ _ _ _ _ _ us hl => match us, hl with | [_, _, _, _], _ => rfl
theorem ok_CancelRules_best_moment (Y : Txt T K mg base a) : FnOk P w K mg base (L2.CX P w) 6 a.f_CancelRules_best_moment a.d_CancelRules_best_moment ["self", "paid", "ahead", "chance"] (spR T K mg 4 Mi.CancelRules_best_moment) := fn_R Y.F_CancelRules_best_moment sc_CancelRules_best_moment rfl fun cdv A outer s H Ex hr => by
  exact (rss_cons (st_if (rw_rt (rw_or (rt_cmp ow_lt (rs_bt (cw_best (mx := false) rfl (u60 hr)) Y.n_min (by rfl) (ra_cons (rs_var (i := 1)) (ra_cons (rs_var (i := 2)) (ra_nil)))) (rs_int)) (rw_or1 (rt_not (rt_chain ow_le ow_le (rs_int) (rs_var (i := 3)) (rs_int)))))) (rss_cons (st_raise rfl rfl Y.x_CancelError) (rss_nil)) (rss_nil)) (rss_cons (st_setLc (own := [("least", 5), ("part", 6)]) rfl sc_CancelRules_best_moment.nd (ri_e (rs_fld Y.fl_steps (rs_var (i := 0)))) (blkOk_by (by kernel_rfl)) ⟨fun _ _ _ _ _ => rgv_tup rfl (rgsv_cons (rgv_name (i := 5) sc_CancelRules_best_moment.nd) (rgsv_cons (rgv_name (i := 6) sc_CancelRules_best_moment.nd) (rgsv_nil))), fun _ _ _ _ _ => rts_one (rt_cmp ow_le (rs_var (i := 5)) (rs_var (i := 2))), fun _ _ _ _ _ => rs_var (i := 5)⟩) (rss_cons (st_set (i := 7) sc_CancelRules_best_moment.nd (rs_if (rt_cmp (ow_ne (u60 hr)) (rs_var (i := 4)) (rs_lst (ra_nil))) (rs_bin ow_sub (rs_ix hr (rs_var (i := 4)) (rs_un uw_neg (rs_int))) (rs_int)) (rs_int))) (rss_cons (st_set (i := 8) sc_CancelRules_best_moment.nd (rs_meth (rs_var (i := 0)) Y.mg_CancelRules Y.cl_CancelRules Y.me_CancelRules_given_back (ok_CancelRules_given_back Y) (len_cons (len_cons (len_cons (len_nil)))) rfl (hr.mono (by decide)) (bd_CancelRules_given_back Y) (ra_cons (rs_str) (ra_cons (rs_var (i := 1)) (ra_cons (rs_var (i := 7)) (ra_nil)))))) (rss_cons (st_ret (rs_tup (ra_cons (rs_meth (rs_var (i := 0)) Y.mg_CancelRules Y.cl_CancelRules Y.me_CancelRules_given_back (ok_CancelRules_given_back Y) (len_cons (len_cons (len_cons (len_nil)))) rfl (hr.mono (by decide)) (bd_CancelRules_given_back Y) (ra_cons (rs_str) (ra_cons (rs_var (i := 1)) (ra_cons (rs_var (i := 2)) (ra_nil))))) (ra_cons (rs_bin ow_fdiv (rs_bin ow_add (rs_bin ow_mul (rs_var (i := 3)) (rs_var (i := 1))) (rs_bin ow_mul (rs_bin ow_sub (rs_int) (rs_var (i := 3))) (rs_var (i := 8)))) (rs_int)) (ra_nil))))) (rss_nil))))))
abbrev N_CancelRules_last_for : List Str := [("self" : Str), ("part" : Str), ("able" : Str), ("least" : Str), ("one" : Str)]
theorem sc_CancelRules_last_for : FnScope N_CancelRules_last_for ["self", "part"] (defScope s_CancelRules_last_for) := ⟨rfl, rfl, rfl, by decide +kernel, rfl, by decide +kernel, by decide +kernel⟩
theorem bd_CancelRules_last_for (Y : Txt T K mg base a) : Binds K a.d_CancelRules_last_for ["self", "part"] [] := Y.F_CancelRules_last_for.binds (ps := ["self", "part"]) fun _ _ _ _ _ _ us hl => match us, hl with | [_, _], _ => rfl
theorem ok_CancelRules_last_for (Y : Txt T K mg base a) : FnOk P w K mg base (L2.CX P w) 2 a.f_CancelRules_last_for a.d_CancelRules_last_for ["self", "part"] (spR T K mg 2 Mi.CancelRules_last_for) := fn_R Y.F_CancelRules_last_for sc_CancelRules_last_for rfl fun cdv A outer s H Ex hr => by
  exact (rss_cons (st_if (rt_not (rt_chain ow_le ow_le (rs_int) (rs_var (i := 1)) (rs_int))) (rss_cons (st_raise rfl rfl Y.x_CancelError) (rss_nil)) (rss_nil)) (rss_cons (st_setLc (own := [("least", 3), ("one", 4)]) rfl sc_CancelRules_last_for.nd (ri_e (rs_fld Y.fl_steps (rs_var (i := 0)))) (blkOk_by (by kernel_rfl)) ⟨fun _ _ _ _ _ => rgv_tup rfl (rgsv_cons (rgv_name (i := 3) sc_CancelRules_last_for.nd) (rgsv_cons (rgv_name (i := 4) sc_CancelRules_last_for.nd) (rgsv_nil))), fun _ _ _ _ _ => rts_one (rt_cmp ow_ge (rs_var (i := 4)) (rs_var (i := 1))), fun _ _ _ _ _ => rs_var (i := 3)⟩) (rss_cons (st_ret (rs_if (rt_cmp (ow_ne (u60 hr)) (rs_var (i := 2)) (rs_lst (ra_nil))) (rs_ix hr (rs_var (i := 2)) (rs_int)) (rs_non))) (rss_nil))))
abbrev N_CancelRules_rule_lines : List Str := [("self" : Str), ("least" : Str), ("part" : Str)]
theorem sc_CancelRules_rule_lines : FnScope N_CancelRules_rule_lines ["self"] (defScope s_CancelRules_rule_lines) := ⟨rfl, rfl, rfl, by decide +kernel, rfl, by decide +kernel, by decide +kernel⟩
theorem bd_CancelRules_rule_lines (Y : Txt T K mg base a) : Binds K a.d_CancelRules_rule_lines ["self"] [] := Y.F_CancelRules_rule_lines.binds (ps := ["self"]) fun _ _ _ _ _ _ us hl => match us, hl with | [_], _ => rfl
theorem ok_CancelRules_rule_lines (Y : Txt T K mg base a) : FnOk P w K mg base (L2.CX P w) 2 a.f_CancelRules_rule_lines a.d_CancelRules_rule_lines ["self"] (spR T K mg 1 Mi.CancelRules_rule_lines) := fn_R Y.F_CancelRules_rule_lines sc_CancelRules_rule_lines rfl fun cdv A outer s H Ex hr => by
  exact (rss_cons (st_ret (rs_ty cw_tuple Y.n_tuple (by rfl) (ra_cons (rs_lc (own := [("least", 1), ("part", 2)]) rfl sc_CancelRules_rule_lines.nd (ri_e (rs_fld Y.fl_steps (rs_var (i := 0)))) (blkOk_by (by kernel_rfl)) ⟨fun _ _ _ _ _ => rgv_tup rfl (rgsv_cons (rgv_name (i := 1) sc_CancelRules_rule_lines.nd) (rgsv_cons (rgv_name (i := 2) sc_CancelRules_rule_lines.nd) (rgsv_nil))), fun _ _ _ _ _ => rts_nil, fun _ _ _ _ _ => rs_join (.cons (rs_fmt (rs_var (i := 1))) (.cons (rs_str) (.cons (rs_fmt (rs_var (i := 2))) (.nil))))⟩) (ra_nil)))) (rss_nil))
abbrev N__law_plain : List Str := [("rules" : Str), ("book" : Str), ("told" : Str), ("bad" : Str), ("f" : Str)]
theorem sc__law_plain : FnScope N__law_plain [] (defScope s__law_plain) := ⟨rfl, rfl, rfl, by decide +kernel, rfl, by decide +kernel, by decide +kernel⟩
theorem dot__law_plain : (".0" : Str) ∉ N__law_plain := by decide +kernel
theorem bd__law_plain (Y : Txt T K mg base a) : Binds K a.d__law_plain [] [] := Y.F__law_plain.fun_.binds (ps := []) fun _ _ _ _ _ _ us hl => match us, hl with | [], _ => rfl
theorem ok__law_plain (Y : Txt T K mg base a) : FnOk P w K mg base (L2.CX P w) 10 a.f__law_plain a.d__law_plain [] (spR T K mg 0 Mi._law_plain) := fn_Rc Y.F__law_plain sc__law_plain rfl fun A outer s H Ex hr => by
  obtain ⟨ocT, odT, kVT, docT, pmT, anT, cdT, ctT, oslT, eT, lkT, hcT⟩ := Y.F__law_told.ex
  rw [eT] at lkT
  exact (rss_cons (st_asg (rs_tup (ra_cons (rs_make Y.mk_CancelRules (ok_CancelRules___init__ Y) (len_cons (len_cons (len_cons (len_nil)))) rfl (hr.mono (by decide)) Y.mg_CancelRules (bd_CancelRules___init__ Y) (ra_cons (rs_tup (ra_cons (rs_tup (ra_cons (rs_int) (ra_cons (rs_int) (ra_nil)))) (ra_cons (rs_tup (ra_cons (rs_int) (ra_cons (rs_int) (ra_nil)))) (ra_cons (rs_tup (ra_cons (rs_int) (ra_cons (rs_int) (ra_nil)))) (ra_nil))))) (ra_cons (rs_int) (ra_cons (rs_int) (ra_nil))))) (ra_cons (rs_make0 Y.mk_CancelBook (ok_CancelBook___init__ Y) rfl (hr.mono (by decide)) Y.mg_CancelBook (bd_CancelBook___init__ Y)) (ra_nil)))) (rg_tup rfl (rgs_cons (rg_name (i := 0) sc__law_plain.nd) (rgs_cons (rg_name (i := 1) sc__law_plain.nd) (rgs_nil))))) (rss_cons (st_set (i := 2) sc__law_plain.nd (rs_lst (ra_cons (rs_meth (rs_var (i := 0)) Y.mg_CancelRules Y.cl_CancelRules Y.me_CancelRules_part_ahead (ok_CancelRules_part_ahead Y) (len_cons (len_nil)) rfl (hr.mono (by decide)) (bd_CancelRules_part_ahead Y) (ra_cons (rs_un uw_neg (rs_int)) (ra_nil))) (ra_cons (rs_meth (rs_var (i := 0)) Y.mg_CancelRules Y.cl_CancelRules Y.me_CancelRules_part_ahead (ok_CancelRules_part_ahead Y) (len_cons (len_nil)) rfl (hr.mono (by decide)) (bd_CancelRules_part_ahead Y) (ra_cons (rs_int) (ra_nil))) (ra_cons (rs_meth (rs_var (i := 0)) Y.mg_CancelRules Y.cl_CancelRules Y.me_CancelRules_given_back (ok_CancelRules_given_back Y) (len_cons (len_cons (len_cons (len_nil)))) rfl (hr.mono (by decide)) (bd_CancelRules_given_back Y) (ra_cons (rs_str) (ra_cons (rs_int) (ra_cons (rs_int) (ra_nil))))) (ra_cons (rs_meth (rs_var (i := 0)) Y.mg_CancelRules Y.cl_CancelRules Y.me_CancelRules_given_back (ok_CancelRules_given_back Y) (len_cons (len_cons (len_cons (len_nil)))) rfl (hr.mono (by decide)) (bd_CancelRules_given_back Y) (ra_cons (rs_str) (ra_cons (rs_int) (ra_cons (rs_int) (ra_nil))))) (ra_nil))))))) (rss_cons (st_set (i := 2) sc__law_plain.nd (rs_bin ow_add (rs_var (i := 2)) (rs_lst (ra_cons (rs_meth (rs_var (i := 0)) Y.mg_CancelRules Y.cl_CancelRules Y.me_CancelRules_given_back (ok_CancelRules_given_back Y) (len_cons (len_cons (len_cons (len_nil)))) rfl (hr.mono (by decide)) (bd_CancelRules_given_back Y) (ra_cons (rs_str) (ra_cons (rs_int) (ra_cons (rs_int) (ra_nil))))) (ra_cons (rs_meth (rs_var (i := 0)) Y.mg_CancelRules Y.cl_CancelRules Y.me_CancelRules_given_back (ok_CancelRules_given_back Y) (len_cons (len_cons (len_cons (len_nil)))) rfl (hr.mono (by decide)) (bd_CancelRules_given_back Y) (ra_cons (rs_str) (ra_cons (rs_int) (ra_cons (rs_int) (ra_nil))))) (ra_cons (rs_meth (rs_var (i := 0)) Y.mg_CancelRules Y.cl_CancelRules Y.me_CancelRules_given_back (ok_CancelRules_given_back Y) (len_cons (len_cons (len_cons (len_nil)))) rfl (hr.mono (by decide)) (bd_CancelRules_given_back Y) (ra_cons (rs_str) (ra_cons (rs_int) (ra_cons (rs_int) (ra_nil))))) (ra_nil))))))) (rss_cons (st_set (i := 2) sc__law_plain.nd (rs_bin ow_add (rs_var (i := 2)) (rs_lst (ra_cons (rs_meth (rs_var (i := 0)) Y.mg_CancelRules Y.cl_CancelRules Y.me_CancelRules_given_back (ok_CancelRules_given_back Y) (len_cons (len_cons (len_cons (len_nil)))) rfl (hr.mono (by decide)) (bd_CancelRules_given_back Y) (ra_cons (rs_str) (ra_cons (rs_int) (ra_cons (rs_int) (ra_nil))))) (ra_cons (rs_meth (rs_var (i := 0)) Y.mg_CancelRules Y.cl_CancelRules Y.me_CancelRules_given_back (ok_CancelRules_given_back Y) (len_cons (len_cons (len_cons (len_nil)))) rfl (hr.mono (by decide)) (bd_CancelRules_given_back Y) (ra_cons (rs_str) (ra_cons (rs_int) (ra_cons (rs_int) (ra_nil))))) (ra_cons (rs_meth (rs_var (i := 0)) Y.mg_CancelRules Y.cl_CancelRules Y.me_CancelRules_last_for (ok_CancelRules_last_for Y) (len_cons (len_nil)) rfl (hr.mono (by decide)) (bd_CancelRules_last_for Y) (ra_cons (rs_int) (ra_nil))) (ra_cons (rs_meth (rs_var (i := 0)) Y.mg_CancelRules Y.cl_CancelRules Y.me_CancelRules_last_for (ok_CancelRules_last_for Y) (len_cons (len_nil)) rfl (hr.mono (by decide)) (bd_CancelRules_last_for Y) (ra_cons (rs_int) (ra_nil))) (ra_nil)))))))) (rss_cons (st_set (i := 2) sc__law_plain.nd (rs_bin ow_add (rs_var (i := 2)) (rs_lst (ra_cons (rs_meth (rs_var (i := 0)) Y.mg_CancelRules Y.cl_CancelRules Y.me_CancelRules_best_moment (ok_CancelRules_best_moment Y) (len_cons (len_cons (len_cons (len_nil)))) rfl (hr.mono (by decide)) (bd_CancelRules_best_moment Y) (ra_cons (rs_int) (ra_cons (rs_int) (ra_cons (rs_int) (ra_nil))))) (ra_cons (rs_meth0 (rs_var (i := 0)) Y.mg_CancelRules Y.cl_CancelRules Y.me_CancelRules_rule_lines (ok_CancelRules_rule_lines Y) rfl (hr.mono (by decide)) (bd_CancelRules_rule_lines Y)) (ra_cons (rs_meth (rs_var (i := 1)) Y.mg_CancelBook Y.cl_CancelBook Y.me_CancelBook_note_one (ok_CancelBook_note_one Y) (len_cons (len_cons (len_cons (len_cons (len_nil))))) rfl (hr.mono (by decide)) (bd_CancelBook_note_one Y) (ra_cons (rs_str) (ra_cons (rs_str) (ra_cons (rs_int) (ra_cons (rs_int) (ra_nil)))))) (ra_cons (rs_meth (rs_var (i := 1)) Y.mg_CancelBook Y.cl_CancelBook Y.me_CancelBook_note_one (ok_CancelBook_note_one Y) (len_cons (len_cons (len_cons (len_cons (len_nil))))) rfl (hr.mono (by decide)) (bd_CancelBook_note_one Y) (ra_cons (rs_str) (ra_cons (rs_str) (ra_cons (rs_int) (ra_cons (rs_int) (ra_nil)))))) (ra_nil)))))))) (rss_cons (st_set (i := 2) sc__law_plain.nd (rs_bin ow_add (rs_var (i := 2)) (rs_lst (ra_cons (rs_meth (rs_var (i := 1)) Y.mg_CancelBook Y.cl_CancelBook Y.me_CancelBook_note_one (ok_CancelBook_note_one Y) (len_cons (len_cons (len_cons (len_cons (len_nil))))) rfl (hr.mono (by decide)) (bd_CancelBook_note_one Y) (ra_cons (rs_str) (ra_cons (rs_str) (ra_cons (rs_int) (ra_cons (rs_int) (ra_nil)))))) (ra_cons (rs_meth0 (rs_var (i := 1)) Y.mg_CancelBook Y.cl_CancelBook Y.me_CancelBook_kept_of_all (ok_CancelBook_kept_of_all Y) rfl (hr.mono (by decide)) (bd_CancelBook_kept_of_all Y)) (ra_cons (rs_meth (rs_var (i := 1)) Y.mg_CancelBook Y.cl_CancelBook Y.me_CancelBook_counts_of (ok_CancelBook_counts_of Y) (len_cons (len_nil)) rfl (hr.mono (by decide)) (bd_CancelBook_counts_of Y) (ra_cons (rs_str) (ra_nil))) (ra_cons (rs_meth (rs_var (i := 1)) Y.mg_CancelBook Y.cl_CancelBook Y.me_CancelBook_never_part (ok_CancelBook_never_part Y) (len_cons (len_nil)) rfl (hr.mono (by decide)) (bd_CancelBook_never_part Y) (ra_cons (rs_int) (ra_nil))) (ra_cons (rs_meth (rs_var (i := 1)) Y.mg_CancelBook Y.cl_CancelBook Y.me_CancelBook_worst_ones (ok_CancelBook_worst_ones Y) (len_cons (len_nil)) rfl (hr.mono (by decide)) (bd_CancelBook_worst_ones Y) (ra_cons (rs_int) (ra_nil))) (ra_cons (rs_meth (rs_var (i := 1)) Y.mg_CancelBook Y.cl_CancelBook Y.me_CancelBook_worst_ones (ok_CancelBook_worst_ones Y) (len_cons (len_nil)) rfl (hr.mono (by decide)) (bd_CancelBook_worst_ones Y) (ra_cons (rs_int) (ra_nil))) (ra_nil)))))))))) (rss_cons (st_set (i := 2) sc__law_plain.nd (rs_bin ow_add (rs_var (i := 2)) (rs_lst (ra_cons (rs_call (ok_change_price Y) rfl (len_cons (len_cons (len_cons (len_cons (len_nil))))) rfl (hr.mono (by decide)) Y.mg_change_price Y.F_change_price.kp (bd_change_price Y) (ra_cons (rs_int) (ra_cons (rs_int) (ra_cons (rs_int) (ra_cons (rs_int) (ra_nil)))))) (ra_cons (rs_call (ok_change_price Y) rfl (len_cons (len_cons (len_cons (len_cons (len_nil))))) rfl (hr.mono (by decide)) Y.mg_change_price Y.F_change_price.kp (bd_change_price Y) (ra_cons (rs_int) (ra_cons (rs_int) (ra_cons (rs_int) (ra_cons (rs_int) (ra_nil)))))) (ra_cons (rs_call (ok_change_price Y) rfl (len_cons (len_cons (len_cons (len_cons (len_nil))))) rfl (hr.mono (by decide)) Y.mg_change_price Y.F_change_price.kp (bd_change_price Y) (ra_cons (rs_int) (ra_cons (rs_int) (ra_cons (rs_int) (ra_cons (rs_int) (ra_nil)))))) (ra_cons (rs_call (ok_voucher_for Y) rfl (len_cons (len_cons (len_cons (len_cons (len_nil))))) rfl (hr.mono (by decide)) Y.mg_voucher_for Y.F_voucher_for.kp (bd_voucher_for Y) (ra_cons (rs_int) (ra_cons (rs_int) (ra_cons (rs_int) (ra_cons (rs_int) (ra_nil)))))) (ra_nil)))))))) (rss_cons (st_set (i := 2) sc__law_plain.nd (rs_bin ow_add (rs_var (i := 2)) (rs_lst (ra_cons (rs_call (ok_waiting_order Y) rfl (len_cons (len_cons (len_nil))) rfl (hr.mono (by decide)) Y.mg_waiting_order Y.F_waiting_order.kp (bd_waiting_order Y) (ra_cons (rs_tup (ra_cons (rs_tup (ra_cons (rs_int) (ra_cons (rs_int) (ra_cons (rs_int) (ra_nil))))) (ra_cons (rs_tup (ra_cons (rs_int) (ra_cons (rs_int) (ra_cons (rs_int) (ra_nil))))) (ra_cons (rs_tup (ra_cons (rs_int) (ra_cons (rs_int) (ra_cons (rs_int) (ra_nil))))) (ra_nil))))) (ra_cons (rs_int) (ra_nil)))) (ra_cons (rs_meth (rs_make Y.mk_CancelRules (ok_CancelRules___init__ Y) (len_cons (len_cons (len_cons (len_nil)))) rfl (hr.mono (by decide)) Y.mg_CancelRules (bd_CancelRules___init__ Y) (ra_cons (rs_tup (ra_cons (rs_tup (ra_cons (rs_int) (ra_cons (rs_int) (ra_nil)))) (ra_nil))) (ra_cons (rs_int) (ra_cons (rs_int) (ra_nil))))) Y.mg_CancelRules Y.cl_CancelRules Y.me_CancelRules_last_for (ok_CancelRules_last_for Y) (len_cons (len_nil)) rfl (hr.mono (by decide)) (bd_CancelRules_last_for Y) (ra_cons (rs_int) (ra_nil))) (ra_nil)))))) (bad_first (X := cxOf (L2.CX P w) P w K mg base N__law_plain "_law_plain" (defScope s__law_plain) a.f__law_plain (.ref a.c__law_plain) A outer s H Ex) (i := 3) (jf := 4) (k := 7) (L := [⟨_, _, _, _, eMake "CancelRules" Mi.CancelRules___init__ (eCons (eTup (eNil)) (eCons (eK (.int 0)) (eCons (eK (.int 0)) (eNil))))⟩, ⟨_, _, _, _, eMake "CancelRules" Mi.CancelRules___init__ (eCons (eTup (eCons (eTup (eCons (eK (.int 1)) (eCons (eK (.int 0)) (eNil)))) (eNil))) (eCons (eK (.int 0)) (eCons (eK (.int 0)) (eNil))))⟩, ⟨_, _, _, _, eMake "CancelRules" Mi.CancelRules___init__ (eCons (eTup (eCons (eTup (eCons (eK (.int 0)) (eCons (eK (.int 1001)) (eNil)))) (eNil))) (eCons (eK (.int 0)) (eCons (eK (.int 0)) (eNil))))⟩]) sc__law_plain.nd rfl (by first | exact Or.inl rfl | exact Or.inr rfl) (by first | exact .inl rfl | exact .inr rfl) Y.t__law_plain.hT (lz (by decide)) (allL_cons ⟨⟨LamX.lamS_by (by kernel_rfl), rfl, Y.t__law_plain.TB, Y.t__law_plain.hT, rfl, Y.t__law_plain.hu, rfl⟩, fun _ _ _ _ _ => rfl, fun _ _ _ _ _ _ _ hr2 => rs_make Y.mk_CancelRules (ok_CancelRules___init__ Y) (len_cons (len_cons (len_cons (len_nil)))) rfl (hr2.mono (by decide)) Y.mg_CancelRules (bd_CancelRules___init__ Y) (ra_cons (rs_tup (ra_nil)) (ra_cons (rs_int) (ra_cons (rs_int) (ra_nil))))⟩ (allL_cons ⟨⟨LamX.lamS_by (by kernel_rfl), rfl, Y.t__law_plain.TB, Y.t__law_plain.hT, rfl, Y.t__law_plain.hu, rfl⟩, fun _ _ _ _ _ => rfl, fun _ _ _ _ _ _ _ hr2 => rs_make Y.mk_CancelRules (ok_CancelRules___init__ Y) (len_cons (len_cons (len_cons (len_nil)))) rfl (hr2.mono (by decide)) Y.mg_CancelRules (bd_CancelRules___init__ Y) (ra_cons (rs_tup (ra_cons (rs_tup (ra_cons (rs_int) (ra_cons (rs_int) (ra_nil)))) (ra_nil))) (ra_cons (rs_int) (ra_cons (rs_int) (ra_nil))))⟩ (allL_cons ⟨⟨LamX.lamS_by (by kernel_rfl), rfl, Y.t__law_plain.TB, Y.t__law_plain.hT, rfl, Y.t__law_plain.hu, rfl⟩, fun _ _ _ _ _ => rfl, fun _ _ _ _ _ _ _ hr2 => rs_make Y.mk_CancelRules (ok_CancelRules___init__ Y) (len_cons (len_cons (len_cons (len_nil)))) rfl (hr2.mono (by decide)) Y.mg_CancelRules (bd_CancelRules___init__ Y) (ra_cons (rs_tup (ra_cons (rs_tup (ra_cons (rs_int) (ra_cons (rs_int) (ra_nil)))) (ra_nil))) (ra_cons (rs_int) (ra_cons (rs_int) (ra_nil))))⟩ (allL_nil)))) rfl (fun Wx tk => bad_more (X := cxOf (L2.CX P w) P w K mg base N__law_plain "_law_plain" (defScope s__law_plain) a.f__law_plain (.ref a.c__law_plain) A outer s H Ex) (i := 3) (jf := 4) (L2 := [⟨_, _, _, _, eMake "CancelRules" Mi.CancelRules___init__ (eCons (eTup (eCons (eTup (eCons (eK (.int 0)) (eCons (eK (.int 0)) (eNil)))) (eCons (eTup (eCons (eK (.int 0)) (eCons (eK (.int 1)) (eNil)))) (eNil)))) (eCons (eK (.int 0)) (eCons (eK (.int 0)) (eNil))))⟩, ⟨_, _, _, _, eMake "CancelRules" Mi.CancelRules___init__ (eCons (eTup (eCons (eTup (eCons (eK (.int 0)) (eCons (eK (.int 5)) (eNil)))) (eCons (eTup (eCons (eK (.int 1)) (eCons (eK (.int 4)) (eNil)))) (eNil)))) (eCons (eK (.int 0)) (eCons (eK (.int 0)) (eNil))))⟩, ⟨_, _, _, _, eMake "CancelRules" Mi.CancelRules___init__ (eCons (eTup (eCons (eTup (eCons (eK (.int 0)) (eCons (eK (.int 0)) (eNil)))) (eNil))) (eCons (eUn negV (eK (.int 1))) (eCons (eK (.int 0)) (eNil))))⟩]) sc__law_plain.nd rfl (by first | exact Or.inl rfl | exact Or.inr (Or.inl rfl) | exact Or.inr (Or.inr rfl)) (by decide) (by decide) (by first | exact Or.inl rfl | exact Or.inr rfl) (by first | exact .inl rfl | exact .inr rfl) Y.t__law_plain.hT (lz (by decide)) (allL_cons ⟨⟨LamX.lamS_by (by kernel_rfl), rfl, Y.t__law_plain.TB, Y.t__law_plain.hT, rfl, Y.t__law_plain.hu, rfl⟩, fun _ _ _ _ _ => rfl, fun _ _ _ _ _ _ _ hr2 => rs_make Y.mk_CancelRules (ok_CancelRules___init__ Y) (len_cons (len_cons (len_cons (len_nil)))) rfl (hr2.mono (by decide)) Y.mg_CancelRules (bd_CancelRules___init__ Y) (ra_cons (rs_tup (ra_cons (rs_tup (ra_cons (rs_int) (ra_cons (rs_int) (ra_nil)))) (ra_cons (rs_tup (ra_cons (rs_int) (ra_cons (rs_int) (ra_nil)))) (ra_nil)))) (ra_cons (rs_int) (ra_cons (rs_int) (ra_nil))))⟩ (allL_cons ⟨⟨LamX.lamS_by (by kernel_rfl), rfl, Y.t__law_plain.TB, Y.t__law_plain.hT, rfl, Y.t__law_plain.hu, rfl⟩, fun _ _ _ _ _ => rfl, fun _ _ _ _ _ _ _ hr2 => rs_make Y.mk_CancelRules (ok_CancelRules___init__ Y) (len_cons (len_cons (len_cons (len_nil)))) rfl (hr2.mono (by decide)) Y.mg_CancelRules (bd_CancelRules___init__ Y) (ra_cons (rs_tup (ra_cons (rs_tup (ra_cons (rs_int) (ra_cons (rs_int) (ra_nil)))) (ra_cons (rs_tup (ra_cons (rs_int) (ra_cons (rs_int) (ra_nil)))) (ra_nil)))) (ra_cons (rs_int) (ra_cons (rs_int) (ra_nil))))⟩ (allL_cons ⟨⟨LamX.lamS_by (by kernel_rfl), rfl, Y.t__law_plain.TB, Y.t__law_plain.hT, rfl, Y.t__law_plain.hu, rfl⟩, fun _ _ _ _ _ => rfl, fun _ _ _ _ _ _ _ hr2 => rs_make Y.mk_CancelRules (ok_CancelRules___init__ Y) (len_cons (len_cons (len_cons (len_nil)))) rfl (hr2.mono (by decide)) Y.mg_CancelRules (bd_CancelRules___init__ Y) (ra_cons (rs_tup (ra_cons (rs_tup (ra_cons (rs_int) (ra_cons (rs_int) (ra_nil)))) (ra_nil))) (ra_cons (rs_un uw_neg (rs_int)) (ra_cons (rs_int) (ra_nil))))⟩ (allL_nil)))) rfl (fun Wx tk => bad_more (X := cxOf (L2.CX P w) P w K mg base N__law_plain "_law_plain" (defScope s__law_plain) a.f__law_plain (.ref a.c__law_plain) A outer s H Ex) (i := 3) (jf := 4) (L2 := [⟨_, _, _, _, eMake "CancelRules" Mi.CancelRules___init__ (eCons (eTup (eCons (eTup (eCons (eK (.int 0)) (eCons (eK (.int 0)) (eNil)))) (eNil))) (eCons (eK (.int 0)) (eCons (eUn negV (eK (.int 1))) (eNil))))⟩, ⟨_, _, _, _, eMeth "CancelRules" "given_back" Mi.CancelRules_given_back (eVar 0) (eCons (eK (.str "odd")) (eCons (eK (.int 1)) (eCons (eK (.int 1)) (eNil))))⟩, ⟨_, _, _, _, eMeth "CancelRules" "given_back" Mi.CancelRules_given_back (eVar 0) (eCons (eK (.str "one")) (eCons (eUn negV (eK (.int 1))) (eCons (eK (.int 1)) (eNil))))⟩]) sc__law_plain.nd rfl (by first | exact Or.inl rfl | exact Or.inr (Or.inl rfl) | exact Or.inr (Or.inr rfl)) (by decide) (by decide) (by first | exact Or.inl rfl | exact Or.inr rfl) (by first | exact .inl rfl | exact .inr rfl) Y.t__law_plain.hT (lz (by decide)) (allL_cons ⟨⟨LamX.lamS_by (by kernel_rfl), rfl, Y.t__law_plain.TB, Y.t__law_plain.hT, rfl, Y.t__law_plain.hu, rfl⟩, fun _ _ _ _ _ => rfl, fun _ _ _ _ _ _ _ hr2 => rs_make Y.mk_CancelRules (ok_CancelRules___init__ Y) (len_cons (len_cons (len_cons (len_nil)))) rfl (hr2.mono (by decide)) Y.mg_CancelRules (bd_CancelRules___init__ Y) (ra_cons (rs_tup (ra_cons (rs_tup (ra_cons (rs_int) (ra_cons (rs_int) (ra_nil)))) (ra_nil))) (ra_cons (rs_int) (ra_cons (rs_un uw_neg (rs_int)) (ra_nil))))⟩ (allL_cons ⟨⟨LamX.lamS_by (by kernel_rfl), rfl, Y.t__law_plain.TB, Y.t__law_plain.hT, rfl, Y.t__law_plain.hu, rfl⟩, fun _ _ _ _ _ => rfl, fun _ _ _ _ _ _ _ hr2 => rs_meth (rs_var (i := 0)) Y.mg_CancelRules Y.cl_CancelRules Y.me_CancelRules_given_back (ok_CancelRules_given_back Y) (len_cons (len_cons (len_cons (len_nil)))) rfl (hr2.mono (by decide)) (bd_CancelRules_given_back Y) (ra_cons (rs_str) (ra_cons (rs_int) (ra_cons (rs_int) (ra_nil))))⟩ (allL_cons ⟨⟨LamX.lamS_by (by kernel_rfl), rfl, Y.t__law_plain.TB, Y.t__law_plain.hT, rfl, Y.t__law_plain.hu, rfl⟩, fun _ _ _ _ _ => rfl, fun _ _ _ _ _ _ _ hr2 => rs_meth (rs_var (i := 0)) Y.mg_CancelRules Y.cl_CancelRules Y.me_CancelRules_given_back (ok_CancelRules_given_back Y) (len_cons (len_cons (len_cons (len_nil)))) rfl (hr2.mono (by decide)) (bd_CancelRules_given_back Y) (ra_cons (rs_str) (ra_cons (rs_un uw_neg (rs_int)) (ra_cons (rs_int) (ra_nil))))⟩ (allL_nil)))) rfl (fun Wx tk => bad_more (X := cxOf (L2.CX P w) P w K mg base N__law_plain "_law_plain" (defScope s__law_plain) a.f__law_plain (.ref a.c__law_plain) A outer s H Ex) (i := 3) (jf := 4) (L2 := [⟨_, _, _, _, eMeth "CancelRules" "last_for" Mi.CancelRules_last_for (eVar 0) (eCons (eUn negV (eK (.int 1))) (eNil))⟩, ⟨_, _, _, _, eMeth "CancelRules" "last_for" Mi.CancelRules_last_for (eVar 0) (eCons (eK (.int 1001)) (eNil))⟩, ⟨_, _, _, _, eMeth "CancelRules" "best_moment" Mi.CancelRules_best_moment (eVar 0) (eCons (eUn negV (eK (.int 1))) (eCons (eK (.int 1)) (eCons (eK (.int 1)) (eNil))))⟩, ⟨_, _, _, _, eMeth "CancelRules" "best_moment" Mi.CancelRules_best_moment (eVar 0) (eCons (eK (.int 1)) (eCons (eUn negV (eK (.int 1))) (eCons (eK (.int 1)) (eNil))))⟩]) sc__law_plain.nd rfl (by first | exact Or.inl rfl | exact Or.inr (Or.inl rfl) | exact Or.inr (Or.inr rfl)) (by decide) (by decide) (by first | exact Or.inl rfl | exact Or.inr rfl) (by first | exact .inl rfl | exact .inr rfl) Y.t__law_plain.hT (lz (by decide)) (allL_cons ⟨⟨LamX.lamS_by (by kernel_rfl), rfl, Y.t__law_plain.TB, Y.t__law_plain.hT, rfl, Y.t__law_plain.hu, rfl⟩, fun _ _ _ _ _ => rfl, fun _ _ _ _ _ _ _ hr2 => rs_meth (rs_var (i := 0)) Y.mg_CancelRules Y.cl_CancelRules Y.me_CancelRules_last_for (ok_CancelRules_last_for Y) (len_cons (len_nil)) rfl (hr2.mono (by decide)) (bd_CancelRules_last_for Y) (ra_cons (rs_un uw_neg (rs_int)) (ra_nil))⟩ (allL_cons ⟨⟨LamX.lamS_by (by kernel_rfl), rfl, Y.t__law_plain.TB, Y.t__law_plain.hT, rfl, Y.t__law_plain.hu, rfl⟩, fun _ _ _ _ _ => rfl, fun _ _ _ _ _ _ _ hr2 => rs_meth (rs_var (i := 0)) Y.mg_CancelRules Y.cl_CancelRules Y.me_CancelRules_last_for (ok_CancelRules_last_for Y) (len_cons (len_nil)) rfl (hr2.mono (by decide)) (bd_CancelRules_last_for Y) (ra_cons (rs_int) (ra_nil))⟩ (allL_cons ⟨⟨LamX.lamS_by (by kernel_rfl), rfl, Y.t__law_plain.TB, Y.t__law_plain.hT, rfl, Y.t__law_plain.hu, rfl⟩, fun _ _ _ _ _ => rfl, fun _ _ _ _ _ _ _ hr2 => rs_meth (rs_var (i := 0)) Y.mg_CancelRules Y.cl_CancelRules Y.me_CancelRules_best_moment (ok_CancelRules_best_moment Y) (len_cons (len_cons (len_cons (len_nil)))) rfl (hr2.mono (by decide)) (bd_CancelRules_best_moment Y) (ra_cons (rs_un uw_neg (rs_int)) (ra_cons (rs_int) (ra_cons (rs_int) (ra_nil))))⟩ (allL_cons ⟨⟨LamX.lamS_by (by kernel_rfl), rfl, Y.t__law_plain.TB, Y.t__law_plain.hT, rfl, Y.t__law_plain.hu, rfl⟩, fun _ _ _ _ _ => rfl, fun _ _ _ _ _ _ _ hr2 => rs_meth (rs_var (i := 0)) Y.mg_CancelRules Y.cl_CancelRules Y.me_CancelRules_best_moment (ok_CancelRules_best_moment Y) (len_cons (len_cons (len_cons (len_nil)))) rfl (hr2.mono (by decide)) (bd_CancelRules_best_moment Y) (ra_cons (rs_int) (ra_cons (rs_un uw_neg (rs_int)) (ra_cons (rs_int) (ra_nil))))⟩ (allL_nil))))) rfl (fun Wx tk => bad_more (X := cxOf (L2.CX P w) P w K mg base N__law_plain "_law_plain" (defScope s__law_plain) a.f__law_plain (.ref a.c__law_plain) A outer s H Ex) (i := 3) (jf := 4) (L2 := [⟨_, _, _, _, eMeth "CancelRules" "best_moment" Mi.CancelRules_best_moment (eVar 0) (eCons (eK (.int 1)) (eCons (eK (.int 1)) (eCons (eK (.int 1001)) (eNil))))⟩, ⟨_, _, _, _, eMeth "CancelBook" "note_one" Mi.CancelBook_note_one (eVar 1) (eCons (eK (.str "")) (eCons (eK (.str "one")) (eCons (eK (.int 1)) (eCons (eK (.int 0)) (eNil)))))⟩, ⟨_, _, _, _, eMeth "CancelBook" "note_one" Mi.CancelBook_note_one (eVar 1) (eCons (eK (.str "a")) (eCons (eK (.str "odd")) (eCons (eK (.int 1)) (eCons (eK (.int 0)) (eNil)))))⟩]) sc__law_plain.nd rfl (by first | exact Or.inl rfl | exact Or.inr (Or.inl rfl) | exact Or.inr (Or.inr rfl)) (by decide) (by decide) (by first | exact Or.inl rfl | exact Or.inr rfl) (by first | exact .inl rfl | exact .inr rfl) Y.t__law_plain.hT (lz (by decide)) (allL_cons ⟨⟨LamX.lamS_by (by kernel_rfl), rfl, Y.t__law_plain.TB, Y.t__law_plain.hT, rfl, Y.t__law_plain.hu, rfl⟩, fun _ _ _ _ _ => rfl, fun _ _ _ _ _ _ _ hr2 => rs_meth (rs_var (i := 0)) Y.mg_CancelRules Y.cl_CancelRules Y.me_CancelRules_best_moment (ok_CancelRules_best_moment Y) (len_cons (len_cons (len_cons (len_nil)))) rfl (hr2.mono (by decide)) (bd_CancelRules_best_moment Y) (ra_cons (rs_int) (ra_cons (rs_int) (ra_cons (rs_int) (ra_nil))))⟩ (allL_cons ⟨⟨LamX.lamS_by (by kernel_rfl), rfl, Y.t__law_plain.TB, Y.t__law_plain.hT, rfl, Y.t__law_plain.hu, rfl⟩, fun _ _ _ _ _ => rfl, fun _ _ _ _ _ _ _ hr2 => rs_meth (rs_var (i := 1)) Y.mg_CancelBook Y.cl_CancelBook Y.me_CancelBook_note_one (ok_CancelBook_note_one Y) (len_cons (len_cons (len_cons (len_cons (len_nil))))) rfl (hr2.mono (by decide)) (bd_CancelBook_note_one Y) (ra_cons (rs_str) (ra_cons (rs_str) (ra_cons (rs_int) (ra_cons (rs_int) (ra_nil)))))⟩ (allL_cons ⟨⟨LamX.lamS_by (by kernel_rfl), rfl, Y.t__law_plain.TB, Y.t__law_plain.hT, rfl, Y.t__law_plain.hu, rfl⟩, fun _ _ _ _ _ => rfl, fun _ _ _ _ _ _ _ hr2 => rs_meth (rs_var (i := 1)) Y.mg_CancelBook Y.cl_CancelBook Y.me_CancelBook_note_one (ok_CancelBook_note_one Y) (len_cons (len_cons (len_cons (len_cons (len_nil))))) rfl (hr2.mono (by decide)) (bd_CancelBook_note_one Y) (ra_cons (rs_str) (ra_cons (rs_str) (ra_cons (rs_int) (ra_cons (rs_int) (ra_nil)))))⟩ (allL_nil)))) rfl (fun Wx tk => bad_more (X := cxOf (L2.CX P w) P w K mg base N__law_plain "_law_plain" (defScope s__law_plain) a.f__law_plain (.ref a.c__law_plain) A outer s H Ex) (i := 3) (jf := 4) (L2 := [⟨_, _, _, _, eMeth "CancelBook" "note_one" Mi.CancelBook_note_one (eVar 1) (eCons (eK (.str "a")) (eCons (eK (.str "one")) (eCons (eK (.int 1)) (eCons (eK (.int 2)) (eNil)))))⟩, ⟨_, _, _, _, eMeth "CancelBook" "note_one" Mi.CancelBook_note_one (eVar 1) (eCons (eK (.str "a")) (eCons (eK (.str "one")) (eCons (eK (.int 1)) (eCons (eUn negV (eK (.int 1))) (eNil)))))⟩, ⟨_, _, _, _, eMeth "CancelBook" "never_part" Mi.CancelBook_never_part (eVar 1) (eCons (eK (.int 2)) (eNil))⟩]) sc__law_plain.nd rfl (by first | exact Or.inl rfl | exact Or.inr (Or.inl rfl) | exact Or.inr (Or.inr rfl)) (by decide) (by decide) (by first | exact Or.inl rfl | exact Or.inr rfl) (by first | exact .inl rfl | exact .inr rfl) Y.t__law_plain.hT (lz (by decide)) (allL_cons ⟨⟨LamX.lamS_by (by kernel_rfl), rfl, Y.t__law_plain.TB, Y.t__law_plain.hT, rfl, Y.t__law_plain.hu, rfl⟩, fun _ _ _ _ _ => rfl, fun _ _ _ _ _ _ _ hr2 => rs_meth (rs_var (i := 1)) Y.mg_CancelBook Y.cl_CancelBook Y.me_CancelBook_note_one (ok_CancelBook_note_one Y) (len_cons (len_cons (len_cons (len_cons (len_nil))))) rfl (hr2.mono (by decide)) (bd_CancelBook_note_one Y) (ra_cons (rs_str) (ra_cons (rs_str) (ra_cons (rs_int) (ra_cons (rs_int) (ra_nil)))))⟩ (allL_cons ⟨⟨LamX.lamS_by (by kernel_rfl), rfl, Y.t__law_plain.TB, Y.t__law_plain.hT, rfl, Y.t__law_plain.hu, rfl⟩, fun _ _ _ _ _ => rfl, fun _ _ _ _ _ _ _ hr2 => rs_meth (rs_var (i := 1)) Y.mg_CancelBook Y.cl_CancelBook Y.me_CancelBook_note_one (ok_CancelBook_note_one Y) (len_cons (len_cons (len_cons (len_cons (len_nil))))) rfl (hr2.mono (by decide)) (bd_CancelBook_note_one Y) (ra_cons (rs_str) (ra_cons (rs_str) (ra_cons (rs_int) (ra_cons (rs_un uw_neg (rs_int)) (ra_nil)))))⟩ (allL_cons ⟨⟨LamX.lamS_by (by kernel_rfl), rfl, Y.t__law_plain.TB, Y.t__law_plain.hT, rfl, Y.t__law_plain.hu, rfl⟩, fun _ _ _ _ _ => rfl, fun _ _ _ _ _ _ _ hr2 => rs_meth (rs_var (i := 1)) Y.mg_CancelBook Y.cl_CancelBook Y.me_CancelBook_never_part (ok_CancelBook_never_part Y) (len_cons (len_nil)) rfl (hr2.mono (by decide)) (bd_CancelBook_never_part Y) (ra_cons (rs_int) (ra_nil))⟩ (allL_nil)))) rfl (fun Wx tk => bad_more (X := cxOf (L2.CX P w) P w K mg base N__law_plain "_law_plain" (defScope s__law_plain) a.f__law_plain (.ref a.c__law_plain) A outer s H Ex) (i := 3) (jf := 4) (L2 := [⟨_, _, _, _, eMeth "CancelBook" "never_part" Mi.CancelBook_never_part (eMake "CancelBook" Mi.CancelBook___init__ eNil) (eCons (eK (.int 0)) (eNil))⟩, ⟨_, _, _, _, eMeth "CancelBook" "worst_ones" Mi.CancelBook_worst_ones (eVar 1) (eCons (eK (.int 0)) (eNil))⟩, ⟨_, _, _, _, eCall Mi.change_price (eCons (eUn negV (eK (.int 1))) (eCons (eK (.int 1)) (eCons (eK (.int 1)) (eCons (eK (.int 1)) (eNil)))))⟩, ⟨_, _, _, _, eCall Mi.change_price (eCons (eK (.int 1)) (eCons (eUn negV (eK (.int 1))) (eCons (eK (.int 1)) (eCons (eK (.int 1)) (eNil)))))⟩]) sc__law_plain.nd rfl (by first | exact Or.inl rfl | exact Or.inr (Or.inl rfl) | exact Or.inr (Or.inr rfl)) (by decide) (by decide) (by first | exact Or.inl rfl | exact Or.inr rfl) (by first | exact .inl rfl | exact .inr rfl) Y.t__law_plain.hT (lz (by decide)) (allL_cons ⟨⟨LamX.lamS_by (by kernel_rfl), rfl, Y.t__law_plain.TB, Y.t__law_plain.hT, rfl, Y.t__law_plain.hu, rfl⟩, fun _ _ _ _ _ => rfl, fun _ _ _ _ _ _ _ hr2 => rs_meth (rs_make0 Y.mk_CancelBook (ok_CancelBook___init__ Y) rfl (hr2.mono (by decide)) Y.mg_CancelBook (bd_CancelBook___init__ Y)) Y.mg_CancelBook Y.cl_CancelBook Y.me_CancelBook_never_part (ok_CancelBook_never_part Y) (len_cons (len_nil)) rfl (hr2.mono (by decide)) (bd_CancelBook_never_part Y) (ra_cons (rs_int) (ra_nil))⟩ (allL_cons ⟨⟨LamX.lamS_by (by kernel_rfl), rfl, Y.t__law_plain.TB, Y.t__law_plain.hT, rfl, Y.t__law_plain.hu, rfl⟩, fun _ _ _ _ _ => rfl, fun _ _ _ _ _ _ _ hr2 => rs_meth (rs_var (i := 1)) Y.mg_CancelBook Y.cl_CancelBook Y.me_CancelBook_worst_ones (ok_CancelBook_worst_ones Y) (len_cons (len_nil)) rfl (hr2.mono (by decide)) (bd_CancelBook_worst_ones Y) (ra_cons (rs_int) (ra_nil))⟩ (allL_cons ⟨⟨LamX.lamS_by (by kernel_rfl), rfl, Y.t__law_plain.TB, Y.t__law_plain.hT, rfl, Y.t__law_plain.hu, rfl⟩, fun _ _ _ _ _ => rfl, fun _ _ _ _ _ _ _ hr2 => rs_call (ok_change_price Y) rfl (len_cons (len_cons (len_cons (len_cons (len_nil))))) rfl (hr2.mono (by decide)) Y.mg_change_price Y.F_change_price.kp (bd_change_price Y) (ra_cons (rs_un uw_neg (rs_int)) (ra_cons (rs_int) (ra_cons (rs_int) (ra_cons (rs_int) (ra_nil)))))⟩ (allL_cons ⟨⟨LamX.lamS_by (by kernel_rfl), rfl, Y.t__law_plain.TB, Y.t__law_plain.hT, rfl, Y.t__law_plain.hu, rfl⟩, fun _ _ _ _ _ => rfl, fun _ _ _ _ _ _ _ hr2 => rs_call (ok_change_price Y) rfl (len_cons (len_cons (len_cons (len_cons (len_nil))))) rfl (hr2.mono (by decide)) Y.mg_change_price Y.F_change_price.kp (bd_change_price Y) (ra_cons (rs_int) (ra_cons (rs_un uw_neg (rs_int)) (ra_cons (rs_int) (ra_cons (rs_int) (ra_nil)))))⟩ (allL_nil))))) rfl (fun Wx tk => bad_more (X := cxOf (L2.CX P w) P w K mg base N__law_plain "_law_plain" (defScope s__law_plain) a.f__law_plain (.ref a.c__law_plain) A outer s H Ex) (i := 3) (jf := 4) (L2 := [⟨_, _, _, _, eCall Mi.change_price (eCons (eK (.int 1)) (eCons (eK (.int 1)) (eCons (eUn negV (eK (.int 1))) (eCons (eK (.int 1)) (eNil)))))⟩, ⟨_, _, _, _, eCall Mi.change_price (eCons (eK (.int 1)) (eCons (eK (.int 1)) (eCons (eK (.int 1)) (eCons (eUn negV (eK (.int 1))) (eNil)))))⟩, ⟨_, _, _, _, eCall Mi.voucher_for (eCons (eK (.int 0)) (eCons (eK (.int 1)) (eCons (eK (.int 1)) (eCons (eK (.int 1)) (eNil)))))⟩, ⟨_, _, _, _, eCall Mi.voucher_for (eCons (eK (.int 1)) (eCons (eUn negV (eK (.int 1))) (eCons (eK (.int 1)) (eCons (eK (.int 1)) (eNil)))))⟩]) sc__law_plain.nd rfl (by first | exact Or.inl rfl | exact Or.inr (Or.inl rfl) | exact Or.inr (Or.inr rfl)) (by decide) (by decide) (by first | exact Or.inl rfl | exact Or.inr rfl) (by first | exact .inl rfl | exact .inr rfl) Y.t__law_plain.hT (lz (by decide)) (allL_cons ⟨⟨LamX.lamS_by (by kernel_rfl), rfl, Y.t__law_plain.TB, Y.t__law_plain.hT, rfl, Y.t__law_plain.hu, rfl⟩, fun _ _ _ _ _ => rfl, fun _ _ _ _ _ _ _ hr2 => rs_call (ok_change_price Y) rfl (len_cons (len_cons (len_cons (len_cons (len_nil))))) rfl (hr2.mono (by decide)) Y.mg_change_price Y.F_change_price.kp (bd_change_price Y) (ra_cons (rs_int) (ra_cons (rs_int) (ra_cons (rs_un uw_neg (rs_int)) (ra_cons (rs_int) (ra_nil)))))⟩ (allL_cons ⟨⟨LamX.lamS_by (by kernel_rfl), rfl, Y.t__law_plain.TB, Y.t__law_plain.hT, rfl, Y.t__law_plain.hu, rfl⟩, fun _ _ _ _ _ => rfl, fun _ _ _ _ _ _ _ hr2 => rs_call (ok_change_price Y) rfl (len_cons (len_cons (len_cons (len_cons (len_nil))))) rfl (hr2.mono (by decide)) Y.mg_change_price Y.F_change_price.kp (bd_change_price Y) (ra_cons (rs_int) (ra_cons (rs_int) (ra_cons (rs_int) (ra_cons (rs_un uw_neg (rs_int)) (ra_nil)))))⟩ (allL_cons ⟨⟨LamX.lamS_by (by kernel_rfl), rfl, Y.t__law_plain.TB, Y.t__law_plain.hT, rfl, Y.t__law_plain.hu, rfl⟩, fun _ _ _ _ _ => rfl, fun _ _ _ _ _ _ _ hr2 => rs_call (ok_voucher_for Y) rfl (len_cons (len_cons (len_cons (len_cons (len_nil))))) rfl (hr2.mono (by decide)) Y.mg_voucher_for Y.F_voucher_for.kp (bd_voucher_for Y) (ra_cons (rs_int) (ra_cons (rs_int) (ra_cons (rs_int) (ra_cons (rs_int) (ra_nil)))))⟩ (allL_cons ⟨⟨LamX.lamS_by (by kernel_rfl), rfl, Y.t__law_plain.TB, Y.t__law_plain.hT, rfl, Y.t__law_plain.hu, rfl⟩, fun _ _ _ _ _ => rfl, fun _ _ _ _ _ _ _ hr2 => rs_call (ok_voucher_for Y) rfl (len_cons (len_cons (len_cons (len_cons (len_nil))))) rfl (hr2.mono (by decide)) Y.mg_voucher_for Y.F_voucher_for.kp (bd_voucher_for Y) (ra_cons (rs_int) (ra_cons (rs_un uw_neg (rs_int)) (ra_cons (rs_int) (ra_cons (rs_int) (ra_nil)))))⟩ (allL_nil))))) rfl (fun Wx tk => bad_more (X := cxOf (L2.CX P w) P w K mg base N__law_plain "_law_plain" (defScope s__law_plain) a.f__law_plain (.ref a.c__law_plain) A outer s H Ex) (i := 3) (jf := 4) (L2 := [⟨_, _, _, _, eCall Mi.voucher_for (eCons (eK (.int 1)) (eCons (eK (.int 1)) (eCons (eK (.int 0)) (eCons (eK (.int 1)) (eNil)))))⟩, ⟨_, _, _, _, eCall Mi.waiting_order (eCons (eTup (eNil)) (eCons (eUn negV (eK (.int 1))) (eNil)))⟩, ⟨_, _, _, _, eCall Mi.waiting_order (eCons (eTup (eCons (eTup (eCons (eK (.int 1)) (eCons (eK (.int 0)) (eCons (eK (.int 1)) (eNil))))) (eNil))) (eCons (eK (.int 1)) (eNil)))⟩, ⟨_, _, _, _, eCall Mi.waiting_order (eCons (eTup (eCons (eTup (eCons (eK (.int 1)) (eCons (eK (.int 1)) (eCons (eK (.int 0)) (eNil))))) (eNil))) (eCons (eK (.int 1)) (eNil)))⟩]) sc__law_plain.nd rfl (by first | exact Or.inl rfl | exact Or.inr (Or.inl rfl) | exact Or.inr (Or.inr rfl)) (by decide) (by decide) (by first | exact Or.inl rfl | exact Or.inr rfl) (by first | exact .inl rfl | exact .inr rfl) Y.t__law_plain.hT (lz (by decide)) (allL_cons ⟨⟨LamX.lamS_by (by kernel_rfl), rfl, Y.t__law_plain.TB, Y.t__law_plain.hT, rfl, Y.t__law_plain.hu, rfl⟩, fun _ _ _ _ _ => rfl, fun _ _ _ _ _ _ _ hr2 => rs_call (ok_voucher_for Y) rfl (len_cons (len_cons (len_cons (len_cons (len_nil))))) rfl (hr2.mono (by decide)) Y.mg_voucher_for Y.F_voucher_for.kp (bd_voucher_for Y) (ra_cons (rs_int) (ra_cons (rs_int) (ra_cons (rs_int) (ra_cons (rs_int) (ra_nil)))))⟩ (allL_cons ⟨⟨LamX.lamS_by (by kernel_rfl), rfl, Y.t__law_plain.TB, Y.t__law_plain.hT, rfl, Y.t__law_plain.hu, rfl⟩, fun _ _ _ _ _ => rfl, fun _ _ _ _ _ _ _ hr2 => rs_call (ok_waiting_order Y) rfl (len_cons (len_cons (len_nil))) rfl (hr2.mono (by decide)) Y.mg_waiting_order Y.F_waiting_order.kp (bd_waiting_order Y) (ra_cons (rs_tup (ra_nil)) (ra_cons (rs_un uw_neg (rs_int)) (ra_nil)))⟩ (allL_cons ⟨⟨LamX.lamS_by (by kernel_rfl), rfl, Y.t__law_plain.TB, Y.t__law_plain.hT, rfl, Y.t__law_plain.hu, rfl⟩, fun _ _ _ _ _ => rfl, fun _ _ _ _ _ _ _ hr2 => rs_call (ok_waiting_order Y) rfl (len_cons (len_cons (len_nil))) rfl (hr2.mono (by decide)) Y.mg_waiting_order Y.F_waiting_order.kp (bd_waiting_order Y) (ra_cons (rs_tup (ra_cons (rs_tup (ra_cons (rs_int) (ra_cons (rs_int) (ra_cons (rs_int) (ra_nil))))) (ra_nil))) (ra_cons (rs_int) (ra_nil)))⟩ (allL_cons ⟨⟨LamX.lamS_by (by kernel_rfl), rfl, Y.t__law_plain.TB, Y.t__law_plain.hT, rfl, Y.t__law_plain.hu, rfl⟩, fun _ _ _ _ _ => rfl, fun _ _ _ _ _ _ _ hr2 => rs_call (ok_waiting_order Y) rfl (len_cons (len_cons (len_nil))) rfl (hr2.mono (by decide)) Y.mg_waiting_order Y.F_waiting_order.kp (bd_waiting_order Y) (ra_cons (rs_tup (ra_cons (rs_tup (ra_cons (rs_int) (ra_cons (rs_int) (ra_cons (rs_int) (ra_nil))))) (ra_nil))) (ra_cons (rs_int) (ra_nil)))⟩ (allL_nil))))) rfl (fun Wx tk => bad_if (t := tNo) tk (pt_bad tk (u60 hr) (ToldF.of (k := 7) Y.mg__law_told Y.F__law_told.kp lkT hcT (eT ▸ bd__law_told Y) sc__law_told rfl (Or.inl rfl) rfl Y.mg_CancelError (by decide) (fun _ => rfl) Y.ee_CancelError (hr.mono (by decide))) (own := [("f", 4)]) ⟨rfl, sc__law_plain.nd, rfl, (by first | exact Or.inl rfl | exact Or.inr (Or.inl rfl) | exact Or.inr (Or.inr rfl)), (blkOk_by (by kernel_rfl)), rfl, rfl, rfl, (by first | exact Or.inl rfl | exact Or.inr rfl), (by first | exact Or.inl rfl | exact Or.inr (Or.inl rfl) | exact Or.inr (Or.inr rfl)), (by first | exact .inl rfl | exact .inr rfl), ⟨by decide, by decide⟩, ⟨by decide, by decide⟩⟩) (rss_cons (st_ret (rs_bl)) (rss_nil)) (rss_cons (st_if (rt_cmp (ow_ne (u60 hr)) (rs_glob Y.k_SORTS_OF_CANCEL) (rs_tup (ra_cons (rs_str) (ra_cons (rs_str) (ra_cons (rs_str) (ra_cons (rs_str) (ra_nil))))))) (rss_cons (st_ret (rs_bl)) (rss_nil)) (rss_nil)) (rss_cons (st_ret (rs_cmp (ow_eq (u60 hr)) (rs_var (i := 2)) (rs_lst (ra_cons (rs_int) (ra_cons (rs_int) (ra_cons (rs_int) (ra_cons (rs_int) (ra_cons (rs_int) (ra_cons (rs_int) (ra_cons (rs_int) (ra_cons (rs_int) (ra_cons (rs_int) (ra_cons (rs_int) (ra_cons (rs_int) (ra_cons (rs_tup (ra_cons (rs_int) (ra_cons (rs_int) (ra_nil)))) (ra_cons (rs_tup (ra_cons (rs_str) (ra_cons (rs_str) (ra_cons (rs_str) (ra_nil))))) (ra_cons (rs_non) (ra_cons (rs_non) (ra_cons (rs_non) (ra_cons (rs_int) (ra_cons (rs_disp (.cons (rs_str) (rs_int) (.nil))) (ra_cons (rs_int) (ra_cons (rs_tup (ra_cons (rs_str) (ra_nil))) (ra_cons (rs_tup (ra_nil)) (ra_cons (rs_int) (ra_cons (rs_un uw_neg (rs_int)) (ra_cons (rs_int) (ra_cons (rs_tup (ra_cons (rs_int) (ra_cons (rs_int) (ra_nil)))) (ra_cons (rs_tup (ra_cons (rs_int) (ra_cons (rs_int) (ra_nil)))) (ra_cons (rs_non) (ra_nil))))))))))))))))))))))))))))))) (rss_nil)))) Wx tk) Wx tk) Wx tk) Wx tk) Wx tk) Wx tk) Wx tk) Wx tk))))))))))
abbrev N_law : List Str := [("script" : Str), ("sorts" : Str), ("dice" : Str), ("steps" : Str), ("k" : Str), ("own" : Str), ("rules" : Str), ("able" : Str), ("lower" : Str), ("wait" : Str), ("step" : Str), ("nevers" : Str), ("order" : Str), ("price" : Str), ("left" : Str), ("back" : Str), ("part" : Str), ("chance" : Str), ("ahead" : Str), ("book" : Str), ("rows" : Str), ("good" : Str), ("names" : Str), ("booked" : Str), ("least" : Str), ("old" : Str), ("new" : Str), ("paid" : Str), ("fee" : Str), ("money" : Str), ("parts" : Str), ("months" : Str), ("day" : Str), ("wishes" : Str), ("free" : Str), ("taken" : Str), ("fits" : Str), ("sort" : Str), ("who" : Str), ("row" : Str), ("one" : Str), ("less" : Str), ("name" : Str), ("first" : Str)]
theorem sc_law : FnScope N_law ["script"] (defScope s_law) := ⟨rfl, rfl, rfl, by decide +kernel, rfl, by decide +kernel, by decide +kernel⟩
theorem dot_law : (".0" : Str) ∉ N_law := by decide +kernel
theorem bd_law (Y : Txt T K mg base a) : Binds K a.d_law ["script"] [] := Y.F_law.fun_.binds (ps := ["script"]) fun _ _ _ _ _ _ us hl => match us, hl with | [_], _ => rfl
theorem body_law (Y : Txt T K mg base a) (A : Around) (outer : List PySem.Env) (s : Shared) (H : Hp) (Ex : XK) (hr : Room 10 (A.deeper (envOfC "law" (defScope s_law) s.heap.objs.size a.f_law (.ref a.c_law)))) : RSs T (cxOf (L2.CX P w) P w K mg base N_law "law" (defScope s_law) a.f_law (.ref a.c_law) A outer s H Ex) (forBody s_law) Mi.law_b := by
  obtain ⟨ocT, odT, kVT, docT, pmT, anT, cdT, ctT, oslT, eT, lkT, hcT⟩ := Y.F__law_told.ex
  rw [eT] at lkT
  exact (rss_cons (st_set (i := 3) sc_law.nd (rs_lst (ra_cons (rs_tup (ra_cons (rs_int) (ra_cons (rs_call (ok__law_roll Y 3) rfl (len_cons (len_cons (len_nil))) rfl (hr.mono (by decide)) Y.mg__law_roll Y.F__law_roll.kp (bd__law_roll Y) (ra_cons (rs_var (i := 2)) (ra_cons (rs_int) (ra_nil)))) (ra_nil)))) (ra_nil)))) (rss_cons (st_for (passes_of rfl) rfl (ri_rg1 rfl Y.n_range (ra_cons (rs_call (ok__law_roll Y 3) rfl (len_cons (len_cons (len_nil))) rfl (hr.mono (by decide)) Y.mg__law_roll Y.F__law_roll.kp (bd__law_roll Y) (ra_cons (rs_var (i := 2)) (ra_cons (rs_int) (ra_nil)))) (ra_nil))) (rg_name (i := 4) sc_law.nd) (rss_cons (st_set (i := 3) sc_law.nd (rs_bin ow_add (rs_var (i := 3)) (rs_lst (ra_cons (rs_tup (ra_cons (rs_bin ow_add (rs_bin ow_add (rs_ix hr (rs_ix hr (rs_var (i := 3)) (rs_un uw_neg (rs_int))) (rs_int)) (rs_int)) (rs_call (ok__law_roll Y 3) rfl (len_cons (len_cons (len_nil))) rfl (hr.mono (by decide)) Y.mg__law_roll Y.F__law_roll.kp (bd__law_roll Y) (ra_cons (rs_var (i := 2)) (ra_cons (rs_int) (ra_nil))))) (ra_cons (rs_bt (cw_best (mx := false) rfl (u60 hr)) Y.n_min (by rfl) (ra_cons (rs_int) (ra_cons (rs_bin ow_add (rs_ix hr (rs_ix hr (rs_var (i := 3)) (rs_un uw_neg (rs_int))) (rs_int)) (rs_call (ok__law_roll Y 3) rfl (len_cons (len_cons (len_nil))) rfl (hr.mono (by decide)) Y.mg__law_roll Y.F__law_roll.kp (bd__law_roll Y) (ra_cons (rs_var (i := 2)) (ra_cons (rs_int) (ra_nil))))) (ra_nil)))) (ra_nil)))) (ra_nil))))) (rss_nil))) (rss_cons (st_set (i := 5) sc_law.nd (rs_disp (.cons (rs_str) (rs_var (i := 3)) (.cons (rs_str) (rs_call (ok__law_roll Y 3) rfl (len_cons (len_cons (len_nil))) rfl (hr.mono (by decide)) Y.mg__law_roll Y.F__law_roll.kp (bd__law_roll Y) (ra_cons (rs_var (i := 2)) (ra_cons (rs_int) (ra_nil)))) (.cons (rs_str) (rs_call (ok__law_roll Y 3) rfl (len_cons (len_cons (len_nil))) rfl (hr.mono (by decide)) Y.mg__law_roll Y.F__law_roll.kp (bd__law_roll Y) (ra_cons (rs_var (i := 2)) (ra_cons (rs_int) (ra_nil)))) (.nil)))))) (rss_cons (st_set (i := 6) sc_law.nd (rs_make Y.mk_CancelRules (ok_CancelRules___init__ Y) (len_cons (len_cons (len_cons (len_nil)))) rfl (hr.mono (by decide)) Y.mg_CancelRules (bd_CancelRules___init__ Y) (ra_cons (rs_var (i := 3)) (ra_cons (rs_ix hr (rs_var (i := 5)) (rs_str)) (ra_cons (rs_ix hr (rs_var (i := 5)) (rs_str)) (ra_nil)))))) (rss_cons (st_for (passes_of rfl) rfl (ri_rg1 rfl Y.n_range (ra_cons (rs_int) (ra_nil))) (rg_name (i := 4) sc_law.nd) (rss_cons (st_asg (rs_tup (ra_cons (rs_ix hr (rs_var (i := 1)) (rs_call (ok__law_roll Y 3) rfl (len_cons (len_cons (len_nil))) rfl (hr.mono (by decide)) Y.mg__law_roll Y.F__law_roll.kp (bd__law_roll Y) (ra_cons (rs_var (i := 2)) (ra_cons (rs_int) (ra_nil))))) (ra_cons (rs_call (ok__law_roll Y 3) rfl (len_cons (len_cons (len_nil))) rfl (hr.mono (by decide)) Y.mg__law_roll Y.F__law_roll.kp (bd__law_roll Y) (ra_cons (rs_var (i := 2)) (ra_cons (rs_int) (ra_nil)))) (ra_cons (rs_bin ow_sub (rs_call (ok__law_roll Y 3) rfl (len_cons (len_cons (len_nil))) rfl (hr.mono (by decide)) Y.mg__law_roll Y.F__law_roll.kp (bd__law_roll Y) (ra_cons (rs_var (i := 2)) (ra_cons (rs_int) (ra_nil)))) (rs_int)) (ra_nil))))) (rg_tup rfl (rgs_cons (rg_name (i := 37) sc_law.nd) (rgs_cons (rg_name (i := 27) sc_law.nd) (rgs_cons (rg_name (i := 18) sc_law.nd) (rgs_nil)))))) (rss_cons (st_set (i := 15) sc_law.nd (rs_meth (rs_var (i := 6)) Y.mg_CancelRules Y.cl_CancelRules Y.me_CancelRules_given_back (ok_CancelRules_given_back Y) (len_cons (len_cons (len_cons (len_nil)))) rfl (hr.mono (by decide)) (bd_CancelRules_given_back Y) (ra_cons (rs_var (i := 37)) (ra_cons (rs_var (i := 27)) (ra_cons (rs_var (i := 18)) (ra_nil)))))) (rss_cons (st_if (rw_rt (rw_or (rt_cmp (ow_ne (u60 hr)) (rs_var (i := 15)) (rs_call (ok__law_back Y) rfl (len_cons (len_cons (len_cons (len_cons (len_nil))))) rfl (hr.mono (by decide)) Y.mg__law_back Y.F__law_back.kp (bd__law_back Y) (ra_cons (rs_var (i := 5)) (ra_cons (rs_var (i := 37)) (ra_cons (rs_var (i := 27)) (ra_cons (rs_var (i := 18)) (ra_nil))))))) (rw_or1 (rt_not (rt_chain ow_le ow_le (rs_int) (rs_var (i := 15)) (rs_var (i := 27))))))) (rss_cons (st_ret (rs_bl)) (rss_nil)) (rss_nil)) (rss_cons (st_if (rt_cmp (ow_ne (u60 hr)) (rs_meth (rs_var (i := 6)) Y.mg_CancelRules Y.cl_CancelRules Y.me_CancelRules_part_ahead (ok_CancelRules_part_ahead Y) (len_cons (len_nil)) rfl (hr.mono (by decide)) (bd_CancelRules_part_ahead Y) (ra_cons (rs_var (i := 18)) (ra_nil))) (rs_call (ok__law_part Y) rfl (len_cons (len_cons (len_nil))) rfl (hr.mono (by decide)) Y.mg__law_part Y.F__law_part.kp (bd__law_part Y) (ra_cons (rs_var (i := 5)) (ra_cons (rs_var (i := 18)) (ra_nil))))) (rss_cons (st_ret (rs_bl)) (rss_nil)) (rss_nil)) (rss_nil)))))) (rss_cons (st_asg (rs_tup (ra_cons (rs_call (ok__law_roll Y 3) rfl (len_cons (len_cons (len_nil))) rfl (hr.mono (by decide)) Y.mg__law_roll Y.F__law_roll.kp (bd__law_roll Y) (ra_cons (rs_var (i := 2)) (ra_cons (rs_int) (ra_nil)))) (ra_cons (rs_call (ok__law_roll Y 3) rfl (len_cons (len_cons (len_nil))) rfl (hr.mono (by decide)) Y.mg__law_roll Y.F__law_roll.kp (bd__law_roll Y) (ra_cons (rs_var (i := 2)) (ra_cons (rs_int) (ra_nil)))) (ra_cons (rs_bt (cw_best (mx := true) rfl (u60 hr)) Y.n_max (by rfl) (ra_cons (rs_int) (ra_cons (rs_var (i := 18)) (ra_nil)))) (ra_nil))))) (rg_tup rfl (rgs_cons (rg_name (i := 16) sc_law.nd) (rgs_cons (rg_name (i := 17) sc_law.nd) (rgs_cons (rg_name (i := 18) sc_law.nd) (rgs_nil)))))) (rss_cons (st_setLc (own := [("least", 24), ("one", 40)]) rfl sc_law.nd (ri_e (rs_var (i := 3))) (blkOk_by (by kernel_rfl)) ⟨fun _ _ _ _ _ => rgv_tup rfl (rgsv_cons (rgv_name (i := 24) sc_law.nd) (rgsv_cons (rgv_name (i := 40) sc_law.nd) (rgsv_nil))), fun _ _ _ _ _ => rts_one (rt_cmp ow_ge (rs_var (i := 40)) (rs_var (i := 16))), fun _ _ _ _ _ => rs_var (i := 24)⟩) (rss_cons (st_set (i := 8) sc_law.nd (rs_bin ow_sub (rs_ix hr (rs_lc (own := [("least", 24), ("one", 40)]) rfl sc_law.nd (ri_e (rs_var (i := 3))) (blkOk_by (by kernel_rfl)) ⟨fun _ _ _ _ _ => rgv_tup rfl (rgsv_cons (rgv_name (i := 24) sc_law.nd) (rgsv_cons (rgv_name (i := 40) sc_law.nd) (rgsv_nil))), fun _ _ _ _ _ => rts_one (rt_cmp ow_le (rs_var (i := 24)) (rs_var (i := 18))), fun _ _ _ _ _ => rs_var (i := 24)⟩) (rs_un uw_neg (rs_int))) (rs_int))) (rss_cons (st_set (i := 9) sc_law.nd (rs_bin ow_fdiv (rs_bin ow_add (rs_bin ow_mul (rs_var (i := 17)) (rs_var (i := 27))) (rs_bin ow_mul (rs_bin ow_sub (rs_int) (rs_var (i := 17))) (rs_call (ok__law_back Y) rfl (len_cons (len_cons (len_cons (len_cons (len_nil))))) rfl (hr.mono (by decide)) Y.mg__law_back Y.F__law_back.kp (bd__law_back Y) (ra_cons (rs_var (i := 5)) (ra_cons (rs_str) (ra_cons (rs_var (i := 27)) (ra_cons (rs_var (i := 8)) (ra_nil)))))))) (rs_int))) (rss_cons (st_if (rw_rt (rw_or (rt_cmp (ow_ne (u60 hr)) (rs_meth (rs_var (i := 6)) Y.mg_CancelRules Y.cl_CancelRules Y.me_CancelRules_last_for (ok_CancelRules_last_for Y) (len_cons (len_nil)) rfl (hr.mono (by decide)) (bd_CancelRules_last_for Y) (ra_cons (rs_var (i := 16)) (ra_nil))) (rs_if (rt_cmp (ow_ne (u60 hr)) (rs_var (i := 7)) (rs_lst (ra_nil))) (rs_ix hr (rs_var (i := 7)) (rs_int)) (rs_non))) (rw_or (rt_cmp (ow_ne (u60 hr)) (rs_meth (rs_var (i := 6)) Y.mg_CancelRules Y.cl_CancelRules Y.me_CancelRules_best_moment (ok_CancelRules_best_moment Y) (len_cons (len_cons (len_cons (len_nil)))) rfl (hr.mono (by decide)) (bd_CancelRules_best_moment Y) (ra_cons (rs_var (i := 27)) (ra_cons (rs_var (i := 18)) (ra_cons (rs_var (i := 17)) (ra_nil))))) (rs_tup (ra_cons (rs_call (ok__law_back Y) rfl (len_cons (len_cons (len_cons (len_cons (len_nil))))) rfl (hr.mono (by decide)) Y.mg__law_back Y.F__law_back.kp (bd__law_back Y) (ra_cons (rs_var (i := 5)) (ra_cons (rs_str) (ra_cons (rs_var (i := 27)) (ra_cons (rs_var (i := 18)) (ra_nil)))))) (ra_cons (rs_var (i := 9)) (ra_nil))))) (rw_or1 (rt_cmp (ow_ne (u60 hr)) (rs_ty (cw_list rfl) Y.n_list (by rfl) (ra_cons (rs_meth0 (rs_var (i := 6)) Y.mg_CancelRules Y.cl_CancelRules Y.me_CancelRules_rule_lines (ok_CancelRules_rule_lines Y) rfl (hr.mono (by decide)) (bd_CancelRules_rule_lines Y)) (ra_nil))) (rs_lc (own := [("least", 24), ("one", 40)]) rfl sc_law.nd (ri_e (rs_var (i := 3))) (blkOk_by (by kernel_rfl)) ⟨fun _ _ _ _ _ => rgv_tup rfl (rgsv_cons (rgv_name (i := 24) sc_law.nd) (rgsv_cons (rgv_name (i := 40) sc_law.nd) (rgsv_nil))), fun _ _ _ _ _ => rts_nil, fun _ _ _ _ _ => rs_bin ow_add (rs_bin ow_add (rs_ty cw_str Y.n_str (by rfl) (ra_cons (rs_var (i := 24)) (ra_nil))) (rs_str)) (rs_ty cw_str Y.n_str (by rfl) (ra_cons (rs_var (i := 40)) (ra_nil)))⟩)))))) (rss_cons (st_ret (rs_bl)) (rss_nil)) (rss_nil)) (rss_cons (st_asg (rs_tup (ra_cons (rs_make0 Y.mk_CancelBook (ok_CancelBook___init__ Y) rfl (hr.mono (by decide)) Y.mg_CancelBook (bd_CancelBook___init__ Y)) (ra_cons (rs_lst (ra_nil)) (ra_nil)))) (rg_tup rfl (rgs_cons (rg_name (i := 19) sc_law.nd) (rgs_cons (rg_name (i := 20) sc_law.nd) (rgs_nil))))) (rss_cons (st_for (passes_of rfl) rfl (ri_rg1 rfl Y.n_range (ra_cons (rs_call (ok__law_roll Y 3) rfl (len_cons (len_cons (len_nil))) rfl (hr.mono (by decide)) Y.mg__law_roll Y.F__law_roll.kp (bd__law_roll Y) (ra_cons (rs_var (i := 2)) (ra_cons (rs_int) (ra_nil)))) (ra_nil))) (rg_name (i := 10) sc_law.nd) (rss_cons (st_asg (rs_tup (ra_cons (rs_ix hr (rs_lst (ra_cons (rs_str) (ra_cons (rs_str) (ra_cons (rs_str) (ra_cons (rs_str) (ra_nil)))))) (rs_bin ow_fdiv (rs_call (ok__law_roll Y 3) rfl (len_cons (len_cons (len_nil))) rfl (hr.mono (by decide)) Y.mg__law_roll Y.F__law_roll.kp (bd__law_roll Y) (ra_cons (rs_var (i := 2)) (ra_cons (rs_int) (ra_nil)))) (rs_int))) (ra_cons (rs_ix hr (rs_bin ow_add (rs_var (i := 1)) (rs_lst (ra_cons (rs_str) (ra_nil)))) (rs_bin ow_fdiv (rs_call (ok__law_roll Y 3) rfl (len_cons (len_cons (len_nil))) rfl (hr.mono (by decide)) Y.mg__law_roll Y.F__law_roll.kp (bd__law_roll Y) (ra_cons (rs_var (i := 2)) (ra_cons (rs_int) (ra_nil)))) (rs_int))) (ra_cons (rs_call (ok__law_roll Y 3) rfl (len_cons (len_cons (len_nil))) rfl (hr.mono (by decide)) Y.mg__law_roll Y.F__law_roll.kp (bd__law_roll Y) (ra_cons (rs_var (i := 2)) (ra_cons (rs_int) (ra_nil)))) (ra_cons (rs_call (ok__law_roll Y 3) rfl (len_cons (len_cons (len_nil))) rfl (hr.mono (by decide)) Y.mg__law_roll Y.F__law_roll.kp (bd__law_roll Y) (ra_cons (rs_var (i := 2)) (ra_cons (rs_int) (ra_nil)))) (ra_nil)))))) (rg_tup rfl (rgs_cons (rg_name (i := 38) sc_law.nd) (rgs_cons (rg_name (i := 37) sc_law.nd) (rgs_cons (rg_name (i := 27) sc_law.nd) (rgs_cons (rg_name (i := 15) sc_law.nd) (rgs_nil))))))) (rss_cons (st_set (i := 21) sc_law.nd (rs_and (rs_cmp (ow_ne (u60 hr)) (rs_var (i := 38)) (rs_str)) (rs_and (rs_cmp (ow_ne (u60 hr)) (rs_var (i := 37)) (rs_str)) (rs_one (rs_cmp ow_le (rs_var (i := 15)) (rs_var (i := 27))))))) (rss_cons (st_set (i := 20) sc_law.nd (rs_bin ow_add (rs_var (i := 20)) (rs_bin ow_mul (rs_lst (ra_cons (rs_tup (ra_cons (rs_var (i := 38)) (ra_cons (rs_var (i := 37)) (ra_cons (rs_var (i := 27)) (ra_cons (rs_var (i := 15)) (ra_nil)))))) (ra_nil))) (rs_ty cw_int Y.n_int (by rfl) (ra_cons (rs_var (i := 21)) (ra_nil)))))) (rss_cons (st_if (rw_rt (rw_or (rt_cmp (ow_ne (u60 hr)) (rs_cmp ow_is (rs_told (k := 3) rfl Y.mg__law_told Y.F__law_told.kp lkT hcT (eT ▸ bd__law_told Y) sc__law_told rfl (Or.inl rfl) rfl Y.mg_CancelError (by decide) (fun _ => rfl) Y.ee_CancelError ⟨LamX.lamS_by (by kernel_rfl), rfl, Y.t_law.TB, Y.t_law.hT, rfl, Y.t_law.hu, rfl⟩ (hr.mono (by decide)) (fun _ _ _ _ _ => rfl) (fun _ _ _ _ _ _ _ hr2 => rs_meth (rs_var (i := 19)) Y.mg_CancelBook Y.cl_CancelBook Y.me_CancelBook_note_one (ok_CancelBook_note_one Y) (len_cons (len_cons (len_cons (len_cons (len_nil))))) rfl (hr2.mono (by decide)) (bd_CancelBook_note_one Y) (ra_cons (rs_var (i := 38)) (ra_cons (rs_var (i := 37)) (ra_cons (rs_var (i := 27)) (ra_cons (rs_var (i := 15)) (ra_nil))))))) (rs_non)) (rs_var (i := 21))) (rw_or1 (rt_cmp (ow_ne (u60 hr)) (rs_fld Y.fl_rows (rs_var (i := 19))) (rs_var (i := 20)))))) (rss_cons (st_ret (rs_bl)) (rss_nil)) (rss_nil)) (rss_nil)))))) (rss_cons (st_set (i := 11) sc_law.nd (rs_lc (own := [("row", 39)]) rfl sc_law.nd (ri_e (rs_var (i := 20))) (blkOk_by (by kernel_rfl)) ⟨fun _ _ _ _ _ => rgv_name (i := 39) sc_law.nd, fun _ _ _ _ _ => rts_one (rt_cmp (ow_eq (u60 hr)) (rs_ix hr (rs_var (i := 39)) (rs_int)) (rs_str)), fun _ _ _ _ _ => rs_ix hr (rs_var (i := 39)) (rs_int)⟩)) (rss_cons (st_asg (rs_tup (ra_cons (rs_ty (cw_list rfl) Y.n_list (by rfl) (ra_cons (rs_ty (cw_dict rfl) Y.n_dict (by rfl) (ra_cons (rs_lc (own := [("name", 42)]) rfl sc_law.nd (ri_e (rs_var (i := 11))) (blkOk_by (by kernel_rfl)) ⟨fun _ _ _ _ _ => rgv_name (i := 42) sc_law.nd, fun _ _ _ _ _ => rts_nil, fun _ _ _ _ _ => rs_tup (ra_cons (rs_var (i := 42)) (ra_cons (rs_int) (ra_nil)))⟩) (ra_nil))) (ra_nil))) (ra_cons (rs_call (ok__law_roll Y 3) rfl (len_cons (len_cons (len_nil))) rfl (hr.mono (by decide)) Y.mg__law_roll Y.F__law_roll.kp (bd__law_roll Y) (ra_cons (rs_var (i := 2)) (ra_cons (rs_int) (ra_nil)))) (ra_cons (rs_bin ow_add (rs_int) (rs_call (ok__law_roll Y 3) rfl (len_cons (len_cons (len_nil))) rfl (hr.mono (by decide)) Y.mg__law_roll Y.F__law_roll.kp (bd__law_roll Y) (ra_cons (rs_var (i := 2)) (ra_cons (rs_int) (ra_nil))))) (ra_nil))))) (rg_tup rfl (rgs_cons (rg_name (i := 22) sc_law.nd) (rgs_cons (rg_name (i := 23) sc_law.nd) (rgs_cons (rg_name (i := 24) sc_law.nd) (rgs_nil)))))) (rss_cons (st_setLc (own := [("less", 41), ("k", 4), ("name", 42)]) rfl sc_law.nd (ri_e (rs_bt (cw_sorted rfl (u60 hr)) Y.n_sorted (by rfl) (ra_cons (rs_lc (own := [("k", 4), ("name", 42)]) rfl sc_law.nd (ri_enum rfl Y.n_enumerate (ra_cons (rs_var (i := 22)) (ra_nil))) (blkOk_by (by kernel_rfl)) ⟨fun _ _ _ _ _ => rgv_tup rfl (rgsv_cons (rgv_name (i := 4) sc_law.nd) (rgsv_cons (rgv_name (i := 42) sc_law.nd) (rgsv_nil))), fun _ _ _ _ _ => rts_nil, fun _ _ _ _ _ => rs_tup (ra_cons (rs_un uw_neg (rs_bm (met_count (u60 hr)) (rs_var (i := 11)) (ra_cons (rs_var (i := 42)) (ra_nil)))) (ra_cons (rs_var (i := 4)) (ra_cons (rs_var (i := 42)) (ra_nil))))⟩) (ra_nil)))) (blkOk_by (by kernel_rfl)) ⟨fun _ _ _ _ _ => rgv_tup rfl (rgsv_cons (rgv_name (i := 41) sc_law.nd) (rgsv_cons (rgv_name (i := 4) sc_law.nd) (rgsv_cons (rgv_name (i := 42) sc_law.nd) (rgsv_nil)))), fun _ _ _ _ _ => rts_one (rt_cmp ow_ge (rs_un uw_neg (rs_var (i := 41))) (rs_var (i := 24))), fun _ _ _ _ _ => rs_var (i := 42)⟩) (rss_cons (st_if (rw_rt (rw_or (rt_cmp (ow_ne (u60 hr)) (rs_meth0 (rs_var (i := 19)) Y.mg_CancelBook Y.cl_CancelBook Y.me_CancelBook_kept_of_all (ok_CancelBook_kept_of_all Y) rfl (hr.mono (by decide)) (bd_CancelBook_kept_of_all Y)) (rs_bt (cw_sum rfl) Y.n_sum (by rfl) (ra_cons (rs_lc (own := [("row", 39)]) rfl sc_law.nd (ri_e (rs_var (i := 20))) (blkOk_by (by kernel_rfl)) ⟨fun _ _ _ _ _ => rgv_name (i := 39) sc_law.nd, fun _ _ _ _ _ => rts_nil, fun _ _ _ _ _ => rs_bin ow_sub (rs_ix hr (rs_var (i := 39)) (rs_int)) (rs_ix hr (rs_var (i := 39)) (rs_int))⟩) (ra_nil)))) (rw_or (rt_cmp (ow_ne (u60 hr)) (rs_lc (own := [("who", 38)]) rfl sc_law.nd (ri_e (rs_lst (ra_cons (rs_str) (ra_cons (rs_str) (ra_nil))))) (blkOk_by (by kernel_rfl)) ⟨fun _ _ _ _ _ => rgv_name (i := 38) sc_law.nd, fun _ _ _ _ _ => rts_nil, fun _ _ _ _ _ => rs_listItems rfl (rs_meth (rs_var (i := 19)) Y.mg_CancelBook Y.cl_CancelBook Y.me_CancelBook_counts_of (ok_CancelBook_counts_of Y) (len_cons (len_nil)) rfl (hr.mono (by decide)) (bd_CancelBook_counts_of Y) (ra_cons (rs_var (i := 38)) (ra_nil))) Y.n_list⟩) (rs_lc (own := [("who", 38)]) rfl sc_law.nd (ri_e (rs_lst (ra_cons (rs_str) (ra_cons (rs_str) (ra_nil))))) (blkOk_by (by kernel_rfl)) ⟨fun _ _ _ _ _ => rgv_name (i := 38) sc_law.nd, fun _ _ _ _ _ => rts_nil, fun _ _ _ _ _ => rs_lc (own := [("sort", 37)]) rfl sc_law.nd (ri_e (rs_var (i := 1))) (blkOk_by (by kernel_rfl)) ⟨fun _ _ _ _ _ => rgv_name (i := 37) sc_law.nd, fun _ _ _ _ _ => rts_one (rt_cmp (ow_ne (u60 hr)) (rs_lc (own := [("row", 39)]) rfl sc_law.nd (ri_e (rs_var (i := 20))) (blkOk_by (by kernel_rfl)) ⟨fun _ _ _ _ _ => rgv_name (i := 39) sc_law.nd, fun _ _ _ _ _ => rts_one (rt_cmp (ow_eq (u60 hr)) (rs_sl (rs_var (i := 39)) ro_none (ro_some (rs_int))) (rs_tup (ra_cons (rs_var (i := 38)) (ra_cons (rs_var (i := 37)) (ra_nil))))), fun _ _ _ _ _ => rs_int⟩) (rs_lst (ra_nil))), fun _ _ _ _ _ => rs_tup (ra_cons (rs_var (i := 37)) (ra_cons (rs_bt cw_len Y.n_len (by rfl) (ra_cons (rs_lc (own := [("row", 39)]) rfl sc_law.nd (ri_e (rs_var (i := 20))) (blkOk_by (by kernel_rfl)) ⟨fun _ _ _ _ _ => rgv_name (i := 39) sc_law.nd, fun _ _ _ _ _ => rts_one (rt_cmp (ow_eq (u60 hr)) (rs_sl (rs_var (i := 39)) ro_none (ro_some (rs_int))) (rs_tup (ra_cons (rs_var (i := 38)) (ra_cons (rs_var (i := 37)) (ra_nil))))), fun _ _ _ _ _ => rs_int⟩) (ra_nil))) (ra_nil)))⟩⟩)) (rw_or (rt_cmp (ow_ne (u60 hr)) (rs_ty (cw_list rfl) Y.n_list (by rfl) (ra_cons (rs_meth (rs_var (i := 19)) Y.mg_CancelBook Y.cl_CancelBook Y.me_CancelBook_worst_ones (ok_CancelBook_worst_ones Y) (len_cons (len_nil)) rfl (hr.mono (by decide)) (bd_CancelBook_worst_ones Y) (ra_cons (rs_var (i := 24)) (ra_nil))) (ra_nil))) (rs_var (i := 12))) (rw_or1 (rt_cmp (ow_ne (u60 hr)) (rs_told (k := 3) rfl Y.mg__law_told Y.F__law_told.kp lkT hcT (eT ▸ bd__law_told Y) sc__law_told rfl (Or.inl rfl) rfl Y.mg_CancelError (by decide) (fun _ => rfl) Y.ee_CancelError ⟨LamX.lamS_by (by kernel_rfl), rfl, Y.t_law.TB, Y.t_law.hT, rfl, Y.t_law.hu, rfl⟩ (hr.mono (by decide)) (fun _ _ _ _ _ => rfl) (fun _ _ _ _ _ _ _ hr2 => rs_meth (rs_var (i := 19)) Y.mg_CancelBook Y.cl_CancelBook Y.me_CancelBook_never_part (ok_CancelBook_never_part Y) (len_cons (len_nil)) rfl (hr2.mono (by decide)) (bd_CancelBook_never_part Y) (ra_cons (rs_var (i := 23)) (ra_nil)))) (rs_if (rt_cmp ow_ge (rs_var (i := 23)) (rs_bt (cw_best (mx := true) rfl (u60 hr)) Y.n_max (by rfl) (ra_cons (rs_int) (ra_cons (rs_bt cw_len Y.n_len (by rfl) (ra_cons (rs_var (i := 20)) (ra_nil))) (ra_nil))))) (rs_bin ow_fdiv (rs_bin ow_mul (rs_int) (rs_bt cw_len Y.n_len (by rfl) (ra_cons (rs_var (i := 11)) (ra_nil)))) (rs_var (i := 23))) (rs_str)))))))) (rss_cons (st_ret (rs_bl)) (rss_nil)) (rss_nil)) (rss_cons (st_asg (rs_tup (ra_cons (rs_call (ok__law_roll Y 3) rfl (len_cons (len_cons (len_nil))) rfl (hr.mono (by decide)) Y.mg__law_roll Y.F__law_roll.kp (bd__law_roll Y) (ra_cons (rs_var (i := 2)) (ra_cons (rs_int) (ra_nil)))) (ra_cons (rs_call (ok__law_roll Y 3) rfl (len_cons (len_cons (len_nil))) rfl (hr.mono (by decide)) Y.mg__law_roll Y.F__law_roll.kp (bd__law_roll Y) (ra_cons (rs_var (i := 2)) (ra_cons (rs_int) (ra_nil)))) (ra_cons (rs_call (ok__law_roll Y 3) rfl (len_cons (len_cons (len_nil))) rfl (hr.mono (by decide)) Y.mg__law_roll Y.F__law_roll.kp (bd__law_roll Y) (ra_cons (rs_var (i := 2)) (ra_cons (rs_int) (ra_nil)))) (ra_cons (rs_call (ok__law_roll Y 3) rfl (len_cons (len_cons (len_nil))) rfl (hr.mono (by decide)) Y.mg__law_roll Y.F__law_roll.kp (bd__law_roll Y) (ra_cons (rs_var (i := 2)) (ra_cons (rs_int) (ra_nil)))) (ra_cons (rs_bin ow_add (rs_int) (rs_call (ok__law_roll Y 3) rfl (len_cons (len_cons (len_nil))) rfl (hr.mono (by decide)) Y.mg__law_roll Y.F__law_roll.kp (bd__law_roll Y) (ra_cons (rs_var (i := 2)) (ra_cons (rs_int) (ra_nil))))) (ra_cons (rs_call (ok__law_roll Y 3) rfl (len_cons (len_cons (len_nil))) rfl (hr.mono (by decide)) Y.mg__law_roll Y.F__law_roll.kp (bd__law_roll Y) (ra_cons (rs_var (i := 2)) (ra_cons (rs_int) (ra_nil)))) (ra_cons (rs_bin ow_add (rs_int) (rs_call (ok__law_roll Y 3) rfl (len_cons (len_cons (len_nil))) rfl (hr.mono (by decide)) Y.mg__law_roll Y.F__law_roll.kp (bd__law_roll Y) (ra_cons (rs_var (i := 2)) (ra_cons (rs_int) (ra_nil))))) (ra_cons (rs_call (ok__law_roll Y 3) rfl (len_cons (len_cons (len_nil))) rfl (hr.mono (by decide)) Y.mg__law_roll Y.F__law_roll.kp (bd__law_roll Y) (ra_cons (rs_var (i := 2)) (ra_cons (rs_int) (ra_nil)))) (ra_nil)))))))))) (rg_tup rfl (rgs_cons (rg_name (i := 25) sc_law.nd) (rgs_cons (rg_name (i := 26) sc_law.nd) (rgs_cons (rg_name (i := 27) sc_law.nd) (rgs_cons (rg_name (i := 28) sc_law.nd) (rgs_cons (rg_name (i := 29) sc_law.nd) (rgs_cons (rg_name (i := 30) sc_law.nd) (rgs_cons (rg_name (i := 31) sc_law.nd) (rgs_cons (rg_name (i := 32) sc_law.nd) (rgs_nil))))))))))) (rss_cons (st_set (i := 13) sc_law.nd (rs_bin ow_add (rs_bin ow_sub (rs_var (i := 26)) (rs_var (i := 27))) (rs_var (i := 28)))) (rss_cons (st_if (rt_cmp (ow_ne (u60 hr)) (rs_call (ok_change_price Y) rfl (len_cons (len_cons (len_cons (len_cons (len_nil))))) rfl (hr.mono (by decide)) Y.mg_change_price Y.F_change_price.kp (bd_change_price Y) (ra_cons (rs_var (i := 25)) (ra_cons (rs_var (i := 26)) (ra_cons (rs_var (i := 27)) (ra_cons (rs_var (i := 28)) (ra_nil)))))) (rs_if (rw_rt (rw_and (rt_cmp ow_ge (rs_var (i := 26)) (rs_var (i := 25))) (rw_and1 (rt_cmp ow_lt (rs_var (i := 13)) (rs_var (i := 28)))))) (rs_var (i := 28)) (rs_var (i := 13)))) (rss_cons (st_ret (rs_bl)) (rss_nil)) (rss_nil)) (rss_cons (st_if (rt_cmp (ow_ne (u60 hr)) (rs_call (ok_voucher_for Y) rfl (len_cons (len_cons (len_cons (len_cons (len_nil))))) rfl (hr.mono (by decide)) Y.mg_voucher_for Y.F_voucher_for.kp (bd_voucher_for Y) (ra_cons (rs_var (i := 29)) (ra_cons (rs_var (i := 30)) (ra_cons (rs_var (i := 31)) (ra_cons (rs_var (i := 32)) (ra_nil)))))) (rs_tup (ra_cons (rs_bin ow_fdiv (rs_bin ow_mul (rs_var (i := 29)) (rs_bin ow_add (rs_int) (rs_var (i := 30)))) (rs_int)) (ra_cons (rs_bin ow_sub (rs_bin ow_add (rs_var (i := 32)) (rs_bin ow_mul (rs_int) (rs_var (i := 31)))) (rs_int)) (ra_nil))))) (rss_cons (st_ret (rs_bl)) (rss_nil)) (rss_nil)) (rss_cons (st_par3 (i := 33) (j := 34) (l := 35) rfl sc_law.nd (ra_cons (rs_lc (own := [("k", 4)]) rfl sc_law.nd (ri_rg1 rfl Y.n_range (ra_cons (rs_call (ok__law_roll Y 3) rfl (len_cons (len_cons (len_nil))) rfl (hr.mono (by decide)) Y.mg__law_roll Y.F__law_roll.kp (bd__law_roll Y) (ra_cons (rs_var (i := 2)) (ra_cons (rs_int) (ra_nil)))) (ra_nil))) (blkOk_by (by kernel_rfl)) ⟨fun _ _ _ _ _ => rgv_name (i := 4) sc_law.nd, fun _ _ _ _ _ => rts_nil, fun _ _ _ _ _ => rs_tup (ra_cons (rs_call (ok__law_roll Y 3) rfl (len_cons (len_cons (len_nil))) rfl (hr.mono (by decide)) Y.mg__law_roll Y.F__law_roll.kp (bd__law_roll Y) (ra_cons (rs_var (i := 2)) (ra_cons (rs_int) (ra_nil)))) (ra_cons (rs_bin ow_add (rs_int) (rs_call (ok__law_roll Y 3) rfl (len_cons (len_cons (len_nil))) rfl (hr.mono (by decide)) Y.mg__law_roll Y.F__law_roll.kp (bd__law_roll Y) (ra_cons (rs_var (i := 2)) (ra_cons (rs_int) (ra_nil))))) (ra_cons (rs_bin ow_add (rs_int) (rs_call (ok__law_roll Y 3) rfl (len_cons (len_cons (len_nil))) rfl (hr.mono (by decide)) Y.mg__law_roll Y.F__law_roll.kp (bd__law_roll Y) (ra_cons (rs_var (i := 2)) (ra_cons (rs_int) (ra_nil))))) (ra_nil))))⟩) (ra_cons (rs_call (ok__law_roll Y 3) rfl (len_cons (len_cons (len_nil))) rfl (hr.mono (by decide)) Y.mg__law_roll Y.F__law_roll.kp (bd__law_roll Y) (ra_cons (rs_var (i := 2)) (ra_cons (rs_int) (ra_nil)))) (ra_cons (rs_lst (ra_nil)) (ra_nil))))) (rss_cons (st_set (i := 14) sc_law.nd (rs_var (i := 34))) (rss_cons (st_for (passes_of rfl) rfl (ri_e (rs_lc (own := [("first", 43), ("less", 41), ("k", 4)]) rfl sc_law.nd (ri_e (rs_bt (cw_sorted rfl (u60 hr)) Y.n_sorted (by rfl) (ra_cons (rs_lc (own := [("k", 4), ("row", 39)]) rfl sc_law.nd (ri_enum rfl Y.n_enumerate (ra_cons (rs_var (i := 33)) (ra_nil))) (blkOk_by (by kernel_rfl)) ⟨fun _ _ _ _ _ => rgv_tup rfl (rgsv_cons (rgv_name (i := 4) sc_law.nd) (rgsv_cons (rgv_name (i := 39) sc_law.nd) (rgsv_nil))), fun _ _ _ _ _ => rts_nil, fun _ _ _ _ _ => rs_tup (ra_cons (rs_ix hr (rs_var (i := 39)) (rs_int)) (ra_cons (rs_un uw_neg (rs_ix hr (rs_var (i := 39)) (rs_int))) (ra_cons (rs_var (i := 4)) (ra_nil))))⟩) (ra_nil)))) (blkOk_by (by kernel_rfl)) ⟨fun _ _ _ _ _ => rgv_tup rfl (rgsv_cons (rgv_name (i := 43) sc_law.nd) (rgsv_cons (rgv_name (i := 41) sc_law.nd) (rgsv_cons (rgv_name (i := 4) sc_law.nd) (rgsv_nil)))), fun _ _ _ _ _ => rts_nil, fun _ _ _ _ _ => rs_var (i := 4)⟩)) (rg_name (i := 4) sc_law.nd) (rss_cons (st_set (i := 36) sc_law.nd (rs_cmp ow_le (rs_ix hr (rs_ix hr (rs_var (i := 33)) (rs_var (i := 4))) (rs_int)) (rs_var (i := 14)))) (rss_cons (st_set (i := 14) sc_law.nd (rs_bin ow_sub (rs_var (i := 14)) (rs_bin ow_mul (rs_ix hr (rs_ix hr (rs_var (i := 33)) (rs_var (i := 4))) (rs_int)) (rs_ty cw_int Y.n_int (by rfl) (ra_cons (rs_var (i := 36)) (ra_nil)))))) (rss_cons (st_set (i := 35) sc_law.nd (rs_bin ow_add (rs_var (i := 35)) (rs_bin ow_mul (rs_lst (ra_cons (rs_var (i := 4)) (ra_nil))) (rs_ty cw_int Y.n_int (by rfl) (ra_cons (rs_var (i := 36)) (ra_nil)))))) (rss_nil))))) (rss_cons (st_if (rt_cmp (ow_ne (u60 hr)) (rs_ty (cw_list rfl) Y.n_list (by rfl) (ra_cons (rs_call (ok_waiting_order Y) rfl (len_cons (len_cons (len_nil))) rfl (hr.mono (by decide)) Y.mg_waiting_order Y.F_waiting_order.kp (bd_waiting_order Y) (ra_cons (rs_var (i := 33)) (ra_cons (rs_var (i := 34)) (ra_nil)))) (ra_nil))) (rs_var (i := 35))) (rss_cons (st_ret (rs_bl)) (rss_nil)) (rss_nil)) (rss_nil)))))))))))))))))))))))))
theorem pre_law (Y : Txt T K mg base a) (A : Around) (outer : List PySem.Env) (s : Shared) (H : Hp) (Ex : XK) (hr : Room 10 (A.deeper (envOfC "law" (defScope s_law) s.heap.objs.size a.f_law (.ref a.c_law)))) : RE T (cxOf (L2.CX P w) P w K mg base N_law "law" (defScope s_law) a.f_law (.ref a.c_law) A outer s H Ex) (preE s_law) Mi.law_p := by
  exact (rs_lst (ra_cons (rs_str) (ra_cons (rs_str) (ra_cons (rs_str) (ra_cons (rs_str) (ra_nil))))))
theorem ok_law (Y : Txt T K mg base a) : FnOk P w K mg base (L2.CX P w) 11 a.f_law a.d_law ["script"] (spLawP T K mg Mi.law) := fn_lawP (N := N_law) (j0 := 1) (jd := 2) Y.F_law sc_law rfl ⟨_, rfl⟩ rfl (by first | exact Or.inl rfl | exact Or.inr (Or.inl rfl) | exact Or.inr (Or.inr rfl)) (by first | exact Or.inl rfl | exact Or.inr rfl) ⟨by decide, by decide⟩ rfl rfl (by decide) (by decide) (ok__law_rounds Y) Y.mg__law_rounds Y.F__law_rounds.kp (bd__law_rounds Y) (fn_fresh (ok__law_plain Y)) Y.mg__law_plain Y.F__law_plain.fun_.kp (bd__law_plain Y) (by decide) (by decide) rfl (by decide) (by first | exact Or.inl rfl | exact Or.inr rfl) (fun _ => rfl) (fun A outer s H Ex hr => pre_law Y A outer s H Ex hr) (fun A outer s H Ex hr => body_law Y A outer s H Ex hr)
end
end K14
set_option Elab.async false
set_option linter.all false
set_option maxRecDepth 100000
set_option maxHeartbeats 2000000
set_option autoImplicit false
namespace RS.L14
open PySem L2 K14
abbrev enc2 (p : Int × Int) : W := .tup [.int p.1, .int p.2]
theorem mi_roll : Mi._law_roll = rollM := rfl
section
variable {ρ : Env} {D : Dice} {r : List O} {N : Env → S → Prop} {P : Pk} {Q : W → S → Prop} {X : Str → S → Prop}
theorem s1 (h2 : ρ[2]? = some (some (.ref 0))) (k : ∀ b D', 0 ≤ b → b < 300 → N (ρ.set 3 (some (.lst ([(0, b)].map enc2)))) (Hl (dO D' :: r))) : Ps (Mi.law_s1 ρ (Hl (dO D :: r))) N P := by
  unfold Mi.law_s1
  simp -implicitDefEqProofs [h2, mi_roll]
  exact k _ _ (roN_ge (by omega)) (roN_lt (by omega))
/-- rising steps -/
structure Stp2 (m : Int) (n : Nat) (xs : List (Int × Int)) : Prop where
  ne : ∃ b, xs.head? = some (0, b)
  up : xs.Pairwise fun p q => p.1 < q.1 ∧ p.2 ≤ q.2
  lo : ∀ p ∈ xs, 0 ≤ p.1 ∧ 0 ≤ p.2 ∧ p.2 ≤ 1000 ∧ p.1 ≤ m
  len : xs.length = n
theorem last_max {α : Type} {R : α → α → Prop} {xs : List α} {z : α} (h : xs.Pairwise R) (e : xs.getLast? = some z) : ∀ p ∈ xs, p = z ∨ R p z := by
  obtain ⟨ys, rfl⟩ := List.getLast?_eq_some_iff.mp e
  intro p hp
  rcases List.mem_append.mp hp with hp | hp
  · exact .inr ((List.pairwise_append.mp h).2.2 p hp z (List.mem_singleton.mpr rfl))
  · exact .inl (List.mem_singleton.mp hp)
theorem Stp2.snoc {m : Int} {n : Nat} {xs : List (Int × Int)} {a b u v : Int} (h : Stp2 m n xs) (e : xs.getLast? = some (a, b)) (hu : 0 ≤ u) (hu2 : u < 900) (hv : 0 ≤ v) : Stp2 (m + 900) (n + 1) (xs ++ [(a + 1 + u, min 1000 (b + v))]) := by
  have hl := h.lo (a, b) (List.mem_of_getLast? e)
  have mx := last_max h.up e
  refine ⟨?_, ?_, ?_, by simp -implicitDefEqProofs [h.len]⟩
  · obtain ⟨b0, e0⟩ := h.ne
    exact ⟨b0, by cases xs with
      | nil => cases e0
      | cons x t => exact e0⟩
  · refine List.pairwise_append.mpr ⟨h.up, List.pairwise_singleton _ _, fun p hp q hq => ?_⟩
    rw [List.mem_singleton.mp hq]
    have l1 := h.lo p hp
    rcases mx p hp with rfl | ⟨z1, z2⟩
    · simp -implicitDefEqProofs at hl l1 ⊢; omega
    · simp -implicitDefEqProofs at z1 z2 hl l1 ⊢; omega
  · intro p hp
    rcases List.mem_append.mp hp with hp | hp
    · have := h.lo p hp; omega
    · rw [List.mem_singleton.mp hp]
      simp -implicitDefEqProofs at hl ⊢
      omega
theorem s3 {xs : List (Int × Int)} {a b : Int} (h2 : ρ[2]? = some (some (.ref 0))) (h3 : ρ[3]? = some (some (.lst (xs.map enc2)))) (hx : xs.getLast? = some (a, b)) (hz : xs.length ≤ 5)
   (k : ∀ u v D', 0 ≤ u → u < 900 → 0 ≤ v → v < 400 → N (ρ.set 3 (some (.lst ((xs ++ [(a + 1 + u, min 1000 (b + v))]).map enc2)))) (Hl (dO D' :: r))) : Ps (Mi.law_s3 ρ (Hl (dO D :: r))) N P := by
  unfold Mi.law_s3
  simp -implicitDefEqProofs [h2, h3, hx, mi_roll]
  refine ⟨by omega, ?_⟩
  have := k (roN D 900) (roN (roD D 900) 400) (roD (roD D 900) 400) (roN_ge (by omega)) (roN_lt (by omega)) (roN_ge (by omega)) (roN_lt (by omega))
  simpa using this
theorem s2 {b0 : Int} (hl : ρ.length = 44) (h2 : ρ[2]? = some (some (.ref 0))) (h3 : ρ[3]? = some (some (.lst ([(0, b0)].map enc2)))) (hb : 0 ≤ b0 ∧ b0 < 300)
   (k : ∀ ρ' xs n D', Same [3, 4] ρ ρ' → Stp2 3600 n xs → n ≤ 4 → ρ'[3]? = some (some (.lst (xs.map enc2))) → N ρ' (Hl (dO D' :: r))) : Ps (Mi.law_s2 ρ (Hl (dO D :: r))) N P := by
  unfold Mi.law_s2
  simp -implicitDefEqProofs [h2, mi_roll]
  have g := roN_ge (D := D) (m := 4) (by omega)
  have l := roN_lt (D := D) (m := 4) (by omega)
  refine ⟨b62_of (by omega) (by omega), for_rng (fun k ρ' s' => ∃ xs D', s' = Hl (dO D' :: r) ∧ Same [3, 4] ρ ρ' ∧ ρ'[3]? = some (some (.lst (xs.map enc2))) ∧ Stp2 (900 * k) (k + 1) xs) (by omega)
    ⟨[(0, b0)], _, rfl, .refl, h3, ⟨b0, rfl⟩, List.pairwise_singleton _ _, fun p hp => by rw [List.mem_singleton.mp hp]; simp -implicitDefEqProofs; omega, rfl⟩ (fun i hi ρ' s' ⟨xs, D', e1, sm, e3, st⟩ => ?_) (fun ρ' s' ⟨xs, D', e1, sm, e3, st⟩ => ?_)⟩
  · subst e1
    obtain ⟨⟨a, b⟩, hx⟩ : ∃ p, xs.getLast? = some p := by
      cases xs with
      | nil => cases st.len
      | cons x t => exact ⟨_, List.getLast?_cons⟩
    unfold Mi.law_s2_b
    simp -implicitDefEqProofs only [bSeq_p, Ps_then]
    refine s3 (xs := xs) (a := a) (b := b) (by rw [List.getElem?_set_ne (by decide), sm.get 2]; exact h2) (by rw [List.getElem?_set_ne (by decide)]; exact e3) hx (by rw [st.len]; omega) fun u v D'' hu hu2 hv hv2 => ?_
    refine ⟨xs ++ [(a + 1 + u, min 1000 (b + v))], _, rfl, (sm.set (by decide)).set (by decide), ?_, ?_⟩
    · rw [List.getElem?_set_self (by rw [List.length_set, sm.1, hl]; decide)]
    · have := st.snoc hx hu hu2 hv
      have e : ((900 * ((i + 1 : Nat) : Int)) : Int) = 900 * (i : Int) + 900 := by omega
      rw [e]
      exact this
  · subst e1
    exact k ρ' xs _ D' sm ⟨st.ne, st.up, fun p hp => by have := st.lo p hp; omega, st.len⟩ (by omega) e3
/-! ### the rules -/
abbrev rulesO (xs : List (Int × Int)) (f nv : Int) : O := .ins "CancelRules" [("steps", .tup (xs.map enc2)), ("fee", .int f), ("never", .int nv)]
abbrev ownW (xs : List (Int × Int)) (f nv : Int) : W := .dct [.inr "steps", .inr "fee", .inr "never"] [.lst (xs.map enc2), .int f, .int nv]
theorem s4 {xs : List (Int × Int)} (h2 : ρ[2]? = some (some (.ref 0))) (h3 : ρ[3]? = some (some (.lst (xs.map enc2))))
   (k : ∀ f nv D', 0 ≤ f → f < 90 → 0 ≤ nv → nv < 200 → N (ρ.set 5 (some (ownW xs f nv))) (Hl (dO D' :: r))) : Ps (Mi.law_s4 ρ (Hl (dO D :: r))) N P := by
  unfold Mi.law_s4
  simp -implicitDefEqProofs [h2, h3, mi_roll]
  exact k _ _ _ (roN_ge (by omega)) (roN_lt (by omega)) (roN_ge (by omega)) (roN_lt (by omega))
theorem any_false {α : Type} {xs : List α} {b : α → Bool} (h : ∀ x ∈ xs, b x = false) : (xs.filter fun _ => true).any (fun x => b x == true) = false := by
  rw [List.any_eq_false]
  intro x hx
  rw [h x (List.mem_filter.mp hx).1]
  decide
theorem s5 {xs : List (Int × Int)} {n : Nat} {f nv : Int} (h5 : ρ[5]? = some (some (ownW xs f nv))) (h3 : ρ[3]? = some (some (.lst (xs.map enc2)))) (st : Stp2 3600 n xs) (hn : n ≤ 4) (hf : 0 ≤ f) (hv : 0 ≤ nv)
   (k : N (ρ.set 6 (some (.ref 1))) (Hl [dO D, rulesO xs f nv])) : Ps (Mi.law_s5 ρ (Hl [dO D])) N P := by
  have hz := st.len
  obtain ⟨b0, hb0⟩ := st.ne
  obtain ⟨xs', e⟩ : ∃ t, xs = (0, b0) :: t := by
    cases xs with
    | nil => cases hb0
    | cons x t => cases hb0; exact ⟨t, rfl⟩
  have hne : decide (xs = []) = false := by rw [e]; rfl
  have h0 : (xs.map enc2)[0]? = some (enc2 (0, b0)) := by rw [e]; rfl
  have h0' : atI (xs.map enc2) 0 = some (enc2 (0, b0)) := by rw [e]; exact atI_0
  unfold Mi.law_s5
  simp -implicitDefEqProofs [h3, h5, Mi.CancelRules___init__, Mi.CancelRules___init___b]
  rw [hne, h0']
  simp -implicitDefEqProofs
  refine any_pure (xs := xs) enc2 at_S (fun _ => true) (fun p => !(decide (0 ≤ p.2) && decide (p.2 ≤ 1000))) (Same [4, 5] _) .refl (by omega) (by omega) (fun x hx ρ' hJ => ?_) ?_
  · have l := st.lo x hx
    simp -implicitDefEqProofs [set_get, hJ, hJ.1]
    simp -implicitDefEqProofs [l.2.1]
  rw [any_false (fun x hx => by have l := st.lo x hx; simp -implicitDefEqProofs; omega)]
  simp -implicitDefEqProofs
  rw [← List.drop_one, ← List.map_drop]
  refine any_pure (xs := xs.zip (xs.drop 1)) (fun p => W.tup [enc2 p.1, enc2 p.2]) at_Z (fun _ => true) (fun p => decide (p.2.1 ≤ p.1.1) || decide (p.2.2 < p.1.2)) (Same [6, 7] _) .refl (by simp -implicitDefEqProofs; omega) (by simp -implicitDefEqProofs; omega) (fun x hx ρ' hJ => ?_) ?_
  · have l := pw_zip st.up x hx
    simp -implicitDefEqProofs [set_get, hJ, hJ.1]
    simp -implicitDefEqProofs [show ¬ x.2.1 ≤ x.1.1 by omega]
  rw [any_false (fun x hx => by have l := pw_zip st.up x hx; simp -implicitDefEqProofs; omega)]
  simp -implicitDefEqProofs
  exact .intro (fun c => by have := of_decide_eq_true c; omega) fun _ => k
/-! ### what is given back -/
def partP (xs : List (Int × Int)) (a : Int) : Int := (((xs.filter fun p => decide (p.1 ≤ a)).map (·.2)).getLast?).getD 0
theorem part_bd {xs : List (Int × Int)} {n : Nat} {m a : Int} (st : Stp2 m n xs) : 0 ≤ partP xs a ∧ partP xs a ≤ 1000 := by
  unfold partP
  cases e : ((xs.filter fun p => decide (p.1 ≤ a)).map (·.2)).getLast? with
  | none => exact ⟨by decide, by decide⟩
  | some z =>
    obtain ⟨p, hp, rfl⟩ := List.mem_map.mp (List.mem_of_getLast? e)
    have := st.lo p (List.mem_filter.mp hp).1
    exact ⟨this.2.1, this.2.2.1⟩
abbrev HR (D : Dice) (xs : List (Int × Int)) (f nv : Int) (r : List O) : S := Hl (dO D :: rulesO xs f nv :: r)
theorem ahead_eq {xs : List (Int × Int)} {n : Nat} {f nv a : Int} (st : Stp2 3600 n xs) (hn : n ≤ 4) : Mi.CancelRules_part_ahead [.ref 1, .int a] (HR D xs f nv r) = .ok (.int (partP xs a)) (HR D xs f nv r) := by
  apply Pe.eq
  have hz := st.len
  unfold Mi.CancelRules_part_ahead Mi.CancelRules_part_ahead_b
  simp -implicitDefEqProofs
  refine lc_pure (xs := xs) enc2 at_S (fun p => decide (p.1 ≤ a)) (fun p => .int p.2) (by omega) (by omega) (fun x hx => by simp -implicitDefEqProofs [set_get]) ?_
  unfold partP
  generalize (xs.filter fun p => decide (p.1 ≤ a)) = F
  simp -implicitDefEqProofs [List.getLast?_map]
  cases hF : F.getLast? with
  | none =>
    rw [List.getLast?_eq_none_iff.mp hF]
    simp -implicitDefEqProofs
  | some z =>
    have hne : F ≠ [] := fun e => by rw [e] at hF; cases hF
    simp -implicitDefEqProofs [hne]
theorem lpart_eq {xs : List (Int × Int)} {n : Nat} {f nv a : Int} {s : S} (st : Stp2 3600 n xs) (hn : n ≤ 4) : Mi._law_part [ownW xs f nv, .int a] s = .ok (.int (partP xs a)) s := by
  apply Pe.eq
  have hz := st.len
  unfold Mi._law_part Mi._law_part_b
  simp -implicitDefEqProofs
  refine lc_pure (xs := xs) enc2 at_S (fun p => decide (p.1 ≤ a)) (fun p => .int p.2) (by omega) (by omega) (fun x hx => by simp -implicitDefEqProofs [set_get]) ?_
  unfold partP
  have hl := List.length_filter_le (fun p : Int × Int => decide (p.1 ≤ a)) xs
  generalize (xs.filter fun p => decide (p.1 ≤ a)) = F at hl
  simp -implicitDefEqProofs [List.getLast?_map]
  refine ⟨by omega, ?_⟩
  cases F.getLast? <;> simp -implicitDefEqProofs
def backP (xs : List (Int × Int)) (f nv : Int) (x : String) (paid a : Int) : Int := if x = "house" then paid else if x = "never" then 0 else if x = "force" then max 0 (paid - f) else max 0 (max 0 (paid - nv) * partP xs a / 1000 - f)
theorem given_eq {xs : List (Int × Int)} {n : Nat} {f nv a paid : Int} {x : String} (st : Stp2 3600 n xs) (hn : n ≤ 4) (hx : x = "one" ∨ x = "house" ∨ x = "never" ∨ x = "force") (hp : 0 ≤ paid) (hp2 : paid < 100000) (hv : 0 ≤ nv) : Mi.CancelRules_given_back [.ref 1, .str x, .int paid, .int a] (HR D xs f nv r) = .ok (.int (backP xs f nv x paid a)) (HR D xs f nv r) := by
  apply Pe.eq
  unfold Mi.CancelRules_given_back Mi.CancelRules_given_back_b backP
  have hb : ¬ paid < 0 := by omega
  have ha := ahead_eq (D := D) (r := r) (f := f) (nv := nv) (a := a) st hn
  rcases hx with rfl | rfl | rfl | rfl <;> simp -implicitDefEqProofs [hb, ha]
  exact mulOk_l (by omega)
theorem lback_eq {xs : List (Int × Int)} {n : Nat} {f nv a paid : Int} {x : String} {s : S} (st : Stp2 3600 n xs) (hn : n ≤ 4) (hx : x = "one" ∨ x = "house" ∨ x = "never" ∨ x = "force") (hp : 0 ≤ paid) (hp2 : paid < 100000) (hv : 0 ≤ nv) : Mi._law_back [ownW xs f nv, .str x, .int paid, .int a] s = .ok (.int (backP xs f nv x paid a)) s := by
  apply Pe.eq
  unfold Mi._law_back Mi._law_back_b backP
  have hb : ¬ paid < 0 := by omega
  have ha := lpart_eq (s := s) (f := f) (nv := nv) (a := a) st hn
  rcases hx with rfl | rfl | rfl | rfl <;> simp -implicitDefEqProofs [hb, ha] 
  · exact mulOk_l (by omega)
  · exact mulOk_r (by decide)
  · exact mulOk_r (by decide)
end
end RS.L14
set_option Elab.async false
set_option linter.all false
set_option maxRecDepth 100000
set_option maxHeartbeats 2000000
set_option autoImplicit false
namespace RS.L14
open PySem L2 K14
abbrev Sort4 (x : String) : Prop := x = "one" ∨ x = "house" ∨ x = "never" ∨ x = "force"
abbrev sortsW : W := .lst [.str "one", .str "house", .str "never", .str "force"]
section
variable {ρ : Env} {D : Dice} {r : List O} {N : Env → S → Prop} {P : Pk} {Q : W → S → Prop} {X : Str → S → Prop}
theorem s7 (h1 : ρ[1]? = some (some sortsW)) (h2 : ρ[2]? = some (some (.ref 0))) (k : ∀ (x : String) (paid a : Int) D', Sort4 x → 0 ≤ paid → paid < 2000 → -100 ≤ a → a < 2900 → N (((ρ.set 37 (some (.str x))).set 27 (some (.int paid))).set 18 (some (.int a))) (Hl (dO D' :: r))) : Ps (Mi.law_s7 ρ (Hl (dO D :: r))) N P := by
  unfold Mi.law_s7
  simp -implicitDefEqProofs [h1, h2, mi_roll]
  have g := roN_ge (D := D) (m := 4) (by omega)
  have l := roN_lt (D := D) (m := 4) (by omega)
  generalize roN D 4 = i at g l
  have g1 := roN_ge (D := roD D 4) (m := 2000) (by omega)
  have l1 := roN_lt (D := roD D 4) (m := 2000) (by omega)
  have g2 := roN_ge (D := roD (roD D 4) 2000) (m := 3000) (by omega)
  have l2 := roN_lt (D := roD (roD D 4) 2000) (m := 3000) (by omega)
  have hi : i = 0 ∨ i = 1 ∨ i = 2 ∨ i = 3 := by omega
  rcases hi with rfl | rfl | rfl | rfl <;> simp -implicitDefEqProofs <;> exact k _ _ _ _ (by simp -implicitDefEqProofs [Sort4]) g1 l1 (by omega) (by omega)
theorem s8 {xs : List (Int × Int)} {n : Nat} {f nv paid a : Int} {x : String} (h6 : ρ[6]? = some (some (.ref 1))) (h37 : ρ[37]? = some (some (.str x))) (h27 : ρ[27]? = some (some (.int paid))) (h18 : ρ[18]? = some (some (.int a))) (st : Stp2 3600 n xs) (hn : n ≤ 4) (hx : Sort4 x) (hp : 0 ≤ paid) (hp2 : paid < 2000) (hv : 0 ≤ nv)
   (k : N (ρ.set 15 (some (.int (backP xs f nv x paid a)))) (HR D xs f nv r)) : Ps (Mi.law_s8 ρ (HR D xs f nv r)) N P := by
  unfold Mi.law_s8
  have e := given_eq (D := D) (r := r) (f := f) (a := a) st hn hx hp (by omega) hv
  simp -implicitDefEqProofs [h6, h37, h27, h18, e]
  exact k
theorem back_bd {xs : List (Int × Int)} {n : Nat} {f nv a paid : Int} {x : String} (st : Stp2 3600 n xs) (hp : 0 ≤ paid) (hf : 0 ≤ f) (hv : 0 ≤ nv) : 0 ≤ backP xs f nv x paid a ∧ backP xs f nv x paid a ≤ paid := by
  have b := part_bd (a := a) st
  have key : max 0 (paid - nv) * partP xs a / 1000 ≤ paid := by
    have h1 : max 0 (paid - nv) * partP xs a ≤ max 0 (paid - nv) * 1000 := Int.mul_le_mul_of_nonneg_left b.2 (by omega)
    have h2 : max 0 (paid - nv) * partP xs a / 1000 ≤ max 0 (paid - nv) := by omega
    omega
  unfold backP
  split
  · omega
  · split
    · omega
    · split <;> omega
theorem s9 {xs : List (Int × Int)} {n : Nat} {f nv paid a : Int} {x : String} {s : S} (h5 : ρ[5]? = some (some (ownW xs f nv))) (h15 : ρ[15]? = some (some (.int (backP xs f nv x paid a)))) (h37 : ρ[37]? = some (some (.str x))) (h27 : ρ[27]? = some (some (.int paid))) (h18 : ρ[18]? = some (some (.int a))) (st : Stp2 3600 n xs) (hn : n ≤ 4) (hx : Sort4 x) (hp : 0 ≤ paid) (hp2 : paid < 2000) (hf : 0 ≤ f) (hv : 0 ≤ nv)
   (k : N ρ s) : Ps (Mi.law_s9 ρ s) N P := by
  unfold Mi.law_s9
  have e := lback_eq (s := s) (f := f) (a := a) st hn hx hp (by omega) hv
  have b := back_bd (x := x) (a := a) st hp hf hv
  simp -implicitDefEqProofs [h5, h15, h37, h27, h18, e]
  simp -implicitDefEqProofs [b.1, b.2]
  exact k
theorem s10 {xs : List (Int × Int)} {n : Nat} {f nv a : Int} (h6 : ρ[6]? = some (some (.ref 1))) (h5 : ρ[5]? = some (some (ownW xs f nv))) (h18 : ρ[18]? = some (some (.int a))) (st : Stp2 3600 n xs) (hn : n ≤ 4)
   (k : N ρ (HR D xs f nv r)) : Ps (Mi.law_s10 ρ (HR D xs f nv r)) N P := by
  unfold Mi.law_s10
  have e := ahead_eq (D := D) (r := r) (f := f) (nv := nv) (a := a) st hn
  have e2 := lpart_eq (s := HR D xs f nv r) (f := f) (nv := nv) (a := a) st hn
  simp -implicitDefEqProofs [h6, h5, h18, e, e2]
  exact k
theorem s6 {xs : List (Int × Int)} {n : Nat} {f nv : Int} (hl : ρ.length = 44) (h1 : ρ[1]? = some (some sortsW)) (h2 : ρ[2]? = some (some (.ref 0))) (h5 : ρ[5]? = some (some (ownW xs f nv))) (h6 : ρ[6]? = some (some (.ref 1))) (st : Stp2 3600 n xs) (hn : n ≤ 4) (hf : 0 ≤ f) (hv : 0 ≤ nv)
   (k : ∀ ρ' D' paid a, Same [4, 37, 27, 18, 15] ρ ρ' → ρ'[27]? = some (some (.int paid)) → ρ'[18]? = some (some (.int a)) → 0 ≤ paid → paid < 2000 → -100 ≤ a → a < 2900 → N ρ' (HR D' xs f nv r)) : Ps (Mi.law_s6 ρ (HR D xs f nv r)) N P := by
  unfold Mi.law_s6
  simp -implicitDefEqProofs
  refine ⟨b62_of (by decide) (by decide), ?_⟩
  refine for_rng (fun j ρ' s' => ∃ D', s' = HR D' xs f nv r ∧ Same [4, 37, 27, 18, 15] ρ ρ' ∧ (0 < j → ∃ paid a, ρ'[27]? = some (some (.int paid)) ∧ ρ'[18]? = some (some (.int a)) ∧ 0 ≤ paid ∧ paid < 2000 ∧ -100 ≤ a ∧ a < 2900)) (by omega)
    ⟨D, rfl, .refl, fun z => absurd z (by omega)⟩ (fun i hi ρ' s' ⟨D', e1, sm, _⟩ => ?_) (fun ρ' s' ⟨D', e1, sm, e3⟩ => ?_)
  · subst e1
    have hl' : ρ'.length = 44 := sm.1.trans hl
    unfold Mi.law_s6_b
    simp -implicitDefEqProofs only [bSeq_p, Ps_then]
    refine s7 (by simp -implicitDefEqProofs [set_get, sm.get 1, h1]) (by simp -implicitDefEqProofs [set_get, sm.get 2, h2]) fun x paid a D'' hx hp hp2 ha ha2 => ?_
    refine s8 (x := x) (paid := paid) (a := a) (by simp -implicitDefEqProofs [set_get, sm.get 6, h6]) (by simp -implicitDefEqProofs [set_get, hl']) (by simp -implicitDefEqProofs [set_get, hl']) (by simp -implicitDefEqProofs [set_get, hl']) st hn hx hp hp2 hv ?_
    refine s9 (x := x) (paid := paid) (a := a) (by simp -implicitDefEqProofs [set_get, sm.get 5, h5]) (by simp -implicitDefEqProofs [set_get, hl']) (by simp -implicitDefEqProofs [set_get, hl']) (by simp -implicitDefEqProofs [set_get, hl']) (by simp -implicitDefEqProofs [set_get, hl']) st hn hx hp hp2 hf hv ?_
    refine s10 (a := a) (by simp -implicitDefEqProofs [set_get, sm.get 6, h6]) (by simp -implicitDefEqProofs [set_get, sm.get 5, h5]) (by simp -implicitDefEqProofs [set_get, hl']) st hn ?_
    exact ⟨D'', rfl, by simp -implicitDefEqProofs [sm], fun _ => ⟨paid, a, by simp -implicitDefEqProofs [set_get, hl'], by simp -implicitDefEqProofs [set_get, hl'], hp, hp2, ha, ha2⟩⟩
  · subst e1
    obtain ⟨paid, a, e4, e5, b1, b2, b3, b4⟩ := e3 (by decide)
    exact k ρ' D' paid a sm e4 e5 b1 b2 b3 b4
end
end RS.L14
set_option Elab.async false
set_option linter.all false
set_option maxRecDepth 100000
set_option maxHeartbeats 2000000
set_option autoImplicit false
namespace RS.L14
open PySem L2 K14
theorem digits_len : ∀ (fuel n : Nat) (ds : List Char), (Nat.toDigitsCore 10 fuel n ds).length ≤ fuel + ds.length
  | 0, n, ds => by unfold Nat.toDigitsCore; omega
  | fuel + 1, n, ds => by
    unfold Nat.toDigitsCore
    simp -implicitDefEqProofs only
    split
    · simp -implicitDefEqProofs; omega
    · have := digits_len fuel (n / 10) (Nat.digitChar (n % 10) :: ds)
      simp -implicitDefEqProofs at this ⊢
      omega
theorem repr_len (n : Nat) : (Nat.repr n).length ≤ n + 1 := by
  unfold Nat.repr Nat.toDigits
  have := digits_len (n + 1) n []
  simp -implicitDefEqProofs at this ⊢
  exact this
theorem tos_len {i : Int} (h1 : 0 ≤ i) (h2 : i ≤ 100000) : (Str.ofString i.repr).length ≤ 100001 := by
  rw [len_of]
  obtain ⟨n, rfl⟩ := Int.eq_ofNat_of_zero_le h1
  have : (n : Int).repr = Nat.repr n := rfl
  rw [this]
  have := repr_len n
  omega
section
variable {ρ : Env} {D : Dice} {r : List O} {N : Env → S → Prop} {P : Pk} {Q : W → S → Prop} {X : Str → S → Prop}
theorem s11 {a : Int} (hl : ρ.length = 44) (h2 : ρ[2]? = some (some (.ref 0))) (h18 : ρ[18]? = some (some (.int a))) (k : ∀ pt ch D', 0 ≤ pt → pt ≤ 1000 → 0 ≤ ch → ch ≤ 1000 → N (((ρ.set 16 (some (.int pt))).set 17 (some (.int ch))).set 18 (some (.int (max 0 a)))) (Hl (dO D' :: r))) : Ps (Mi.law_s11 ρ (Hl (dO D :: r))) N P := by
  unfold Mi.law_s11
  simp -implicitDefEqProofs [h2, h18, mi_roll]
  have l1 := roN_lt (D := D) (m := 1001) (by omega)
  have l2 := roN_lt (D := roD D 1001) (m := 1001) (by omega)
  exact k _ _ _ (roN_ge (by omega)) (by omega) (roN_ge (by omega)) (by omega)
abbrev ableL (xs : List (Int × Int)) (pt : Int) : List W := (xs.filter fun p => decide (pt ≤ p.2)).map fun p => .int p.1
theorem s12 {xs : List (Int × Int)} {n : Nat} {pt : Int} (hl : ρ.length = 44) (h3 : ρ[3]? = some (some (.lst (xs.map enc2)))) (h16 : ρ[16]? = some (some (.int pt))) (st : Stp2 3600 n xs) (hn : n ≤ 4) {s : S} (k : N (ρ.set 7 (some (.lst (ableL xs pt)))) s) : Ps (Mi.law_s12 ρ s) N P := by
  unfold Mi.law_s12
  have hz := st.len
  simp -implicitDefEqProofs [h3]
  refine lc_pure (xs := xs) enc2 at_S (fun p => decide (pt ≤ p.2)) (fun p => .int p.1) (by omega) (by omega) (fun x hx => by simp -implicitDefEqProofs [set_get, hl, h16, -getElem?_pos]) ?_
  exact k
def lowP (xs : List (Int × Int)) (a : Int) : Int := match (xs.filter fun p => decide (p.1 ≤ a)).getLast? with
  | some p => p.1 - 1
  | none => 0
theorem s13 {xs : List (Int × Int)} {n : Nat} {a : Int} (hl : ρ.length = 44) (h3 : ρ[3]? = some (some (.lst (xs.map enc2)))) (h18 : ρ[18]? = some (some (.int a))) (ha : 0 ≤ a) (st : Stp2 3600 n xs) (hn : n ≤ 4) {s : S} (k : N (ρ.set 8 (some (.int (lowP xs a)))) s) : Ps (Mi.law_s13 ρ s) N P := by
  unfold Mi.law_s13
  have hz := st.len
  simp -implicitDefEqProofs [h3]
  refine lc_pure (xs := xs) enc2 at_S (fun p => decide (p.1 ≤ a)) (fun p => .int p.1) (by omega) (by omega) (fun x hx => by simp -implicitDefEqProofs [set_get, hl, h18, -getElem?_pos]) ?_
  have hne : (xs.filter fun p => decide (p.1 ≤ a)) ≠ [] := by
    obtain ⟨b0, e⟩ := st.ne
    cases xs with
    | nil => cases e
    | cons x t =>
      cases e
      rw [List.filter_cons_of_pos (by simpa using ha)]
      exact List.cons_ne_nil _ _
  unfold lowP at k
  generalize (xs.filter fun p => decide (p.1 ≤ a)) = F at hne k
  simp -implicitDefEqProofs [List.getLast?_map]
  cases hF : F.getLast? with
  | none => exact absurd (List.getLast?_eq_none_iff.mp hF) hne
  | some p =>
    rw [hF] at k
    simp -implicitDefEqProofs
    exact k
def waitP (xs : List (Int × Int)) (f nv paid a ch : Int) : Int := (ch * paid + (1000 - ch) * backP xs f nv "one" paid (lowP xs a)) / 1000
theorem s14 {xs : List (Int × Int)} {n : Nat} {f nv paid a ch : Int} (h5 : ρ[5]? = some (some (ownW xs f nv))) (h17 : ρ[17]? = some (some (.int ch))) (h27 : ρ[27]? = some (some (.int paid))) (h8 : ρ[8]? = some (some (.int (lowP xs a)))) (st : Stp2 3600 n xs) (hn : n ≤ 4) (hp : 0 ≤ paid) (hp2 : paid < 2000) (hf : 0 ≤ f) (hv : 0 ≤ nv) (hc : 0 ≤ ch) (hc2 : ch ≤ 1000) {s : S} (k : N (ρ.set 9 (some (.int (waitP xs f nv paid a ch)))) s) : Ps (Mi.law_s14 ρ s) N P := by
  unfold Mi.law_s14
  have e := lback_eq (s := s) (f := f) (a := lowP xs a) (x := "one") st hn (.inl rfl) hp (by omega) hv
  have b := back_bd (x := "one") (a := lowP xs a) st hp hf hv
  simp -implicitDefEqProofs [h5, h17, h27, h8, e]
  exact ⟨mulOk_r (by omega), mulOk_r (by omega), k⟩
def lastP (xs : List (Int × Int)) (pt : Int) : W := match (xs.filter fun p => decide (pt ≤ p.2)).head? with
  | some p => .int p.1
  | none => .non
theorem last_eq {xs : List (Int × Int)} {n : Nat} {f nv pt : Int} (st : Stp2 3600 n xs) (hn : n ≤ 4) (hp : 0 ≤ pt) (hp2 : pt ≤ 1000) : Mi.CancelRules_last_for [.ref 1, .int pt] (HR D xs f nv r) = .ok (lastP xs pt) (HR D xs f nv r) := by
  apply Pe.eq
  have hz := st.len
  unfold Mi.CancelRules_last_for Mi.CancelRules_last_for_b
  simp -implicitDefEqProofs [hp, hp2]
  refine lc_pure (xs := xs) enc2 at_S (fun p => decide (pt ≤ p.2)) (fun p => .int p.1) (by omega) (by omega) (fun x hx => by simp -implicitDefEqProofs [set_get]) ?_
  unfold lastP
  generalize (xs.filter fun p => decide (pt ≤ p.2)) = F
  cases F <;> simp -implicitDefEqProofs
theorem best_eq {xs : List (Int × Int)} {n : Nat} {f nv paid a ch : Int} (st : Stp2 3600 n xs) (hn : n ≤ 4) (hp : 0 ≤ paid) (hp2 : paid < 2000) (ha : 0 ≤ a) (hf : 0 ≤ f) (hv : 0 ≤ nv) (hc : 0 ≤ ch) (hc2 : ch ≤ 1000) : Mi.CancelRules_best_moment [.ref 1, .int paid, .int a, .int ch] (HR D xs f nv r) = .ok (.tup [.int (backP xs f nv "one" paid a), .int (waitP xs f nv paid a ch)]) (HR D xs f nv r) := by
  apply Pe.eq
  have hz := st.len
  have b := back_bd (x := "one") (a := lowP xs a) st hp hf hv
  have e0 := given_eq (D := D) (r := r) (f := f) (nv := nv) (a := a) (x := "one") st hn (.inl rfl) hp (by omega) hv
  have e1 := given_eq (D := D) (r := r) (f := f) (nv := nv) (a := lowP xs a) (x := "one") st hn (.inl rfl) hp (by omega) hv
  unfold Mi.CancelRules_best_moment Mi.CancelRules_best_moment_b
  simp -implicitDefEqProofs [hc, hc2, show ¬ min paid a < 0 by omega]
  refine lc_pure (xs := xs) enc2 at_S (fun p => decide (p.1 ≤ a)) (fun p => .int p.1) (by omega) (by omega) (fun x hx => by simp -implicitDefEqProofs [set_get]) ?_
  unfold waitP
  have el : lowP xs a = match (xs.filter fun p => decide (p.1 ≤ a)).getLast? with
    | some p => p.1 - 1
    | none => 0 := rfl
  generalize lowP xs a = lw at *
  generalize (xs.filter fun p => decide (p.1 ≤ a)) = F at el
  have m1 : mulOk ch paid = true := mulOk_l (by omega)
  have m2 : mulOk (1000 - ch) (backP xs f nv "one" paid lw) = true := mulOk_l (by omega)
  cases hF : F.getLast? with
  | none =>
    rw [hF] at el
    subst el
    rw [List.getLast?_eq_none_iff.mp hF]
    simp -implicitDefEqProofs [e0, e1, m1, m2]
  | some p =>
    rw [hF] at el
    have hne : F ≠ [] := fun e => by rw [e] at hF; cases hF
    simp -implicitDefEqProofs only at el
    subst el
    simp -implicitDefEqProofs [hne, List.getLast?_map, hF, e0, e1, m1, m2]
abbrev lineW (p : Int × Int) : W := .str (Str.ofString (toString p.1) ++ Str.ofString " " ++ Str.ofString (toString p.2))
theorem lines_eq {xs : List (Int × Int)} {n : Nat} {f nv : Int} (st : Stp2 3600 n xs) (hn : n ≤ 4) : Mi.CancelRules_rule_lines [.ref 1] (HR D xs f nv r) = .ok (.tup (xs.map lineW)) (HR D xs f nv r) := by
  apply Pe.eq
  have hz := st.len
  unfold Mi.CancelRules_rule_lines Mi.CancelRules_rule_lines_b
  simp -implicitDefEqProofs
  refine lc_pure (xs := xs) enc2 at_S (fun p => true) lineW (by omega) (by omega) (fun x hx => ?_) ?_
  · have b := st.lo x hx
    have t1 := tos_len (i := x.1) (by omega) (by omega)
    have t2 := tos_len (i := x.2) (by omega) (by omega)
    simp -implicitDefEqProofs [set_get, len_app, log_ok (i := x.1) (by omega) (by omega), log_ok (i := x.2) (by omega) (by omega)]
    have : (Str.ofString " ").length = 1 := rfl
    omega
  · simp -implicitDefEqProofs
theorem s15 {xs : List (Int × Int)} {n : Nat} {f nv paid a ch pt : Int} (hl : ρ.length = 44) (h3 : ρ[3]? = some (some (.lst (xs.map enc2)))) (h5 : ρ[5]? = some (some (ownW xs f nv))) (h6 : ρ[6]? = some (some (.ref 1))) (h16 : ρ[16]? = some (some (.int pt))) (h17 : ρ[17]? = some (some (.int ch))) (h27 : ρ[27]? = some (some (.int paid))) (h18 : ρ[18]? = some (some (.int a)))
    (h7 : ρ[7]? = some (some (.lst (ableL xs pt)))) (h9 : ρ[9]? = some (some (.int (waitP xs f nv paid a ch)))) (st : Stp2 3600 n xs) (hn : n ≤ 4) (hp : 0 ≤ paid) (hp2 : paid < 2000) (ha : 0 ≤ a) (hf : 0 ≤ f) (hv : 0 ≤ nv) (hc : 0 ≤ ch) (hc2 : ch ≤ 1000) (hq : 0 ≤ pt) (hq2 : pt ≤ 1000) (k : N ρ (HR D xs f nv r)) : Ps (Mi.law_s15 ρ (HR D xs f nv r)) N P := by
  have hz := st.len
  unfold Mi.law_s15
  have e0 := lback_eq (s := HR D xs f nv r) (f := f) (a := a) (x := "one") st hn (.inl rfl) hp (by omega) hv
  have e1 := last_eq (D := D) (r := r) (f := f) (nv := nv) (pt := pt) st hn hq hq2
  have e2 := best_eq (D := D) (r := r) (f := f) (nv := nv) (a := a) st hn hp hp2 ha hf hv hc hc2
  have e3 := lines_eq (D := D) (r := r) (f := f) (nv := nv) st hn
  unfold lastP at e1
  unfold ableL at h7
  generalize (xs.filter fun p => decide (pt ≤ p.2)) = F at e1 h7
  cases F
  all_goals
    simp -implicitDefEqProofs at e1 h7
    simp -implicitDefEqProofs [h3, h5, h6, h16, h17, h27, h18, h7, h9, e0, e1, e2, e3]
    refine lc_pure (xs := xs) enc2 at_S (fun p => true) lineW (by omega) (by omega) (fun x hx => ?_) ?_
    · have b := st.lo x hx
      have t1 := tos_len (i := x.1) (by omega) (by omega)
      have t2 := tos_len (i := x.2) (by omega) (by omega)
      simp -implicitDefEqProofs [set_get, hl, len_app, log_ok (i := x.1) (by omega) (by omega), log_ok (i := x.2) (by omega) (by omega), -getElem?_pos]
      have : (Str.ofString " ").length = 1 := rfl
      omega
    · simp -implicitDefEqProofs
      exact k
end
end RS.L14
set_option Elab.async false
set_option linter.all false
set_option maxRecDepth 100000
set_option maxHeartbeats 2000000
set_option autoImplicit false
namespace RS.L14
open PySem L2 K14
abbrev Row : Type := String × String × Int × Int
abbrev encR (q : Row) : W := .tup [.str q.1, .str q.2.1, .int q.2.2.1, .int q.2.2.2]
@[simp] theorem map_encR {rows : List Row} {q : Row} : (rows ++ [q]).map encR = rows.map encR ++ [encR q] := by simp -implicitDefEqProofs
abbrev HK (D : Dice) (R : O) (rows : List Row) (r : List O) : S := Hl (dO D :: R :: .ins "CancelBook" [("rows", .ref 3)] :: .lst (rows.map encR) :: r)
structure RowOk (q : Row) : Prop where
  who : q.1 = "a" ∨ q.1 = "b" ∨ q.1 = "c"
  sort : Sort4 q.2.1
  lo : 0 ≤ q.2.2.2
  le : q.2.2.2 ≤ q.2.2.1
  hi : q.2.2.1 < 90
section
variable {ρ : Env} {D : Dice} {R : O} {r : List O} {N : Env → S → Prop} {P : Pk} {Q : W → S → Prop} {X : Str → S → Prop}
theorem s16 (k : N ((ρ.set 19 (some (.ref 2))).set 20 (some (.lst []))) (HK D R [] [])) : Ps (Mi.law_s16 ρ (Hl [dO D, R])) N P := by
  unfold Mi.law_s16
  simp -implicitDefEqProofs [Mi.CancelBook___init__, Mi.CancelBook___init___b]
  exact k
theorem s18 (h1 : ρ[1]? = some (some sortsW)) (h2 : ρ[2]? = some (some (.ref 0)))
    (k : ∀ (who sort : String) (paid back : Int) D', (who = "a" ∨ who = "b" ∨ who = "c" ∨ who = "") → (Sort4 sort ∨ sort = "odd") → 0 ≤ paid → paid < 90 → 0 ≤ back → back < 90 → N ((((ρ.set 38 (some (.str who))).set 37 (some (.str sort))).set 27 (some (.int paid))).set 15 (some (.int back))) (Hl (dO D' :: r))) : Ps (Mi.law_s18 ρ (Hl (dO D :: r))) N P := by
  unfold Mi.law_s18
  simp -implicitDefEqProofs [h1, h2, mi_roll]
  have a1 := roN_ge (D := D) (m := 17) (by omega)
  have a2 := roN_lt (D := D) (m := 17) (by omega)
  have b1 := roN_ge (D := roD D 17) (m := 21) (by omega)
  have b2 := roN_lt (D := roD D 17) (m := 21) (by omega)
  have c1 := roN_ge (D := roD (roD D 17) 21) (m := 90) (by omega)
  have c2 := roN_lt (D := roD (roD D 17) 21) (m := 90) (by omega)
  have d1 := roN_ge (D := roD (roD (roD D 17) 21) 90) (m := 90) (by omega)
  have d2 := roN_lt (D := roD (roD (roD D 17) 21) 90) (m := 90) (by omega)
  have hi : roN D 17 / 5 = 0 ∨ roN D 17 / 5 = 1 ∨ roN D 17 / 5 = 2 ∨ roN D 17 / 5 = 3 := by omega
  have hj : roN (roD D 17) 21 / 5 = 0 ∨ roN (roD D 17) 21 / 5 = 1 ∨ roN (roD D 17) 21 / 5 = 2 ∨ roN (roD D 17) 21 / 5 = 3 ∨ roN (roD D 17) 21 / 5 = 4 := by omega
  rcases hi with hi | hi | hi | hi <;> rw [hi] <;> simp -implicitDefEqProofs <;> rcases hj with hj | hj | hj | hj | hj <;> rw [hj] <;> simp -implicitDefEqProofs <;> exact k _ _ _ _ _ (by simp -implicitDefEqProofs) (by simp -implicitDefEqProofs [Sort4]) c1 c2 d1 d2
theorem s19 {who sort : String} {paid back : Int} (h38 : ρ[38]? = some (some (.str who))) (h37 : ρ[37]? = some (some (.str sort))) (h27 : ρ[27]? = some (some (.int paid))) (h15 : ρ[15]? = some (some (.int back))) {s : S}
    (k : N (ρ.set 21 (some (.bl (decide (who ≠ "" ∧ sort ≠ "odd" ∧ back ≤ paid))))) s) : Ps (Mi.law_s19 ρ s) N P := by
  unfold Mi.law_s19
  simp -implicitDefEqProofs [h38, h37, h27, h15]
  refine .intro (fun c => ?_) (fun c => ?_)
  · simp -implicitDefEqProofs at c
    simpa [c] using k
  · simp -implicitDefEqProofs at c
    refine .intro (fun c2 => ?_) (fun c2 => ?_)
    · simp -implicitDefEqProofs at c2
      simpa [c, c2] using k
    · simp -implicitDefEqProofs at c2
      simpa [c, c2] using k
theorem s20 {rows : List Row} {who sort : String} {paid back : Int} {g : Bool} (h20 : ρ[20]? = some (some (.lst (rows.map encR)))) (h38 : ρ[38]? = some (some (.str who))) (h37 : ρ[37]? = some (some (.str sort))) (h27 : ρ[27]? = some (some (.int paid))) (h15 : ρ[15]? = some (some (.int back))) (h21 : ρ[21]? = some (some (.bl g))) {s : S} (hz : rows.length ≤ 1000)
    (k : N (ρ.set 20 (some (.lst ((rows ++ if g = true then [(who, sort, paid, back)] else []).map encR)))) s) : Ps (Mi.law_s20 ρ s) N P := by
  unfold Mi.law_s20
  cases g
  · simp -implicitDefEqProofs [h20, h38, h37, h27, h15, h21]
    simp -implicitDefEqProofs at k
    exact ⟨by omega, k⟩
  · simp -implicitDefEqProofs [h20, h38, h37, h27, h15, h21]
    simp -implicitDefEqProofs at k
    exact ⟨by omega, k⟩
theorem note_ok {rows : List Row} {who sort : String} {paid back : Int} (hz : rows.length ≤ 1000) (h1 : who ≠ "") (h2 : Sort4 sort) (h3 : 0 ≤ back) (h4 : back ≤ paid) : Pe (Mi.CancelBook_note_one [.ref 2, .str who, .str sort, .int paid, .int back] (HK D R rows r)) (fun w s => w = .non ∧ s = HK D R (rows ++ [(who, sort, paid, back)]) r) X := by
  unfold Mi.CancelBook_note_one Mi.CancelBook_note_one_b
  rcases h2 with rfl | rfl | rfl | rfl <;> simp -implicitDefEqProofs [h1, h3, h4] <;> exact ⟨by omega, by unfold HK; rw [map_encR]⟩
theorem note_bad {rows : List Row} {who sort : String} {paid back : Int} (h : ¬ (who ≠ "" ∧ sort ≠ "odd" ∧ back ≤ paid)) (h2 : Sort4 sort ∨ sort = "odd") (h3 : 0 ≤ back) : Pe (Mi.CancelBook_note_one [.ref 2, .str who, .str sort, .int paid, .int back] (HK D R rows r)) (fun w s => False) (fun c s => c = "CancelError" ∧ s = HK D R rows r) := by
  unfold Mi.CancelBook_note_one Mi.CancelBook_note_one_b
  by_cases c1 : who = ""
  · simp -implicitDefEqProofs [c1]
  · rcases h2 with (rfl | rfl | rfl | rfl) | rfl
    all_goals
      simp -implicitDefEqProofs at h
      first
        | (have h := h c1
           simp -implicitDefEqProofs [c1, h3, show ¬ back ≤ paid by omega]; done)
        | (simp -implicitDefEqProofs [c1]; done)
theorem s21 {rows : List Row} {who sort : String} {paid back : Int} (h19 : ρ[19]? = some (some (.ref 2))) (h38 : ρ[38]? = some (some (.str who))) (h37 : ρ[37]? = some (some (.str sort))) (h27 : ρ[27]? = some (some (.int paid))) (h15 : ρ[15]? = some (some (.int back))) (h21 : ρ[21]? = some (some (.bl (decide (who ≠ "" ∧ sort ≠ "odd" ∧ back ≤ paid)))))
    (h20 : ρ[20]? = some (some (.lst ((rows ++ if (decide (who ≠ "" ∧ sort ≠ "odd" ∧ back ≤ paid)) = true then [(who, sort, paid, back)] else []).map encR)))) (hz : rows.length ≤ 1000) (h2 : Sort4 sort ∨ sort = "odd") (h3 : 0 ≤ back)
    (k : N ρ (HK D R (rows ++ if (decide (who ≠ "" ∧ sort ≠ "odd" ∧ back ≤ paid)) = true then [(who, sort, paid, back)] else []) r)) : Ps (Mi.law_s21 ρ (HK D R rows r)) N P := by
  unfold Mi.law_s21
  by_cases c : who ≠ "" ∧ sort ≠ "odd" ∧ back ≤ paid
  · have s4 : Sort4 sort := h2.elim id fun z => absurd z c.2.1
    simp -implicitDefEqProofs only [decide_eq_true c, if_true] at h21 h20 k
    simp -implicitDefEqProofs [h19, h38, h37, h27, h15, h21]
    refine (note_ok hz c.1 s4 h3 c.2.2).mono (fun w s ⟨e1, e2⟩ => ?_) (fun _ _ z => z)
    subst e1 e2
    simp -implicitDefEqProofs [h19, h20]
    rw [neR (l := (rows ++ [(who, sort, paid, back)]).map encR) (by simp -implicitDefEqProofs) (by simp -implicitDefEqProofs) (by simp -implicitDefEqProofs)]
    simp -implicitDefEqProofs
    exact k
  · simp -implicitDefEqProofs only [decide_eq_false c] at h21 h20 k
    simp -implicitDefEqProofs at h21 h20 k
    simp -implicitDefEqProofs [h19, h38, h37, h27, h15, h21]
    refine (note_bad c h2 h3).mono (fun w s z => z.elim) (fun c' s ⟨e1, e2⟩ => ?_)
    subst e1 e2
    simp -implicitDefEqProofs [h19, h20]
    rw [neR (l := rows.map encR) (by simp -implicitDefEqProofs) (by simp -implicitDefEqProofs) (by simp -implicitDefEqProofs)]
    simp -implicitDefEqProofs
    exact k
theorem s17 (hl : ρ.length = 44) (h1 : ρ[1]? = some (some sortsW)) (h2 : ρ[2]? = some (some (.ref 0))) (h19 : ρ[19]? = some (some (.ref 2))) (h20 : ρ[20]? = some (some (.lst [])))
    (k : ∀ ρ' D' rows, Same [10, 38, 37, 27, 15, 21, 20] ρ ρ' → ρ'[20]? = some (some (.lst (rows.map encR))) → rows.length ≤ 20 → (∀ q ∈ rows, RowOk q) → N ρ' (HK D' R rows r)) : Ps (Mi.law_s17 ρ (HK D R [] r)) N P := by
  unfold Mi.law_s17
  simp -implicitDefEqProofs [h2, mi_roll]
  have g := roN_ge (D := D) (m := 20) (by omega)
  have l := roN_lt (D := D) (m := 20) (by omega)
  refine ⟨b62_of (by omega) (by omega), ?_⟩
  refine for_rng (fun j ρ' s' => ∃ D' rows, s' = HK D' R rows r ∧ Same [10, 38, 37, 27, 15, 21, 20] ρ ρ' ∧ ρ'[20]? = some (some (.lst (rows.map encR))) ∧ rows.length ≤ j ∧ (∀ q ∈ rows, RowOk q)) (by omega)
    ⟨_, [], rfl, .refl, h20, Nat.le_refl _, fun _ z => nomatch z⟩ (fun i hi ρ' s' ⟨D', rows, e1, sm, e2, e3, e4⟩ => ?_) (fun ρ' s' ⟨D', rows, e1, sm, e2, e3, e4⟩ => ?_)
  · subst e1
    have hl' : ρ'.length = 44 := sm.1.trans hl
    unfold Mi.law_s17_b
    simp -implicitDefEqProofs only [bSeq_p, Ps_then]
    refine s18 (by simp -implicitDefEqProofs [set_get, sm.get 1, h1]) (by simp -implicitDefEqProofs [set_get, sm.get 2, h2]) fun who sort paid back D'' w1 w2 p1 p2 b1 b2 => ?_
    refine s19 (who := who) (sort := sort) (paid := paid) (back := back) (by simp -implicitDefEqProofs [set_get, hl']) (by simp -implicitDefEqProofs [set_get, hl']) (by simp -implicitDefEqProofs [set_get, hl']) (by simp -implicitDefEqProofs [set_get, hl']) ?_
    refine s20 (rows := rows) (who := who) (sort := sort) (paid := paid) (back := back) (g := decide (who ≠ "" ∧ sort ≠ "odd" ∧ back ≤ paid)) (by simp -implicitDefEqProofs [set_get, e2]) (by simp -implicitDefEqProofs [set_get, hl']) (by simp -implicitDefEqProofs [set_get, hl']) (by simp -implicitDefEqProofs [set_get, hl']) (by simp -implicitDefEqProofs [set_get, hl']) (by simp -implicitDefEqProofs [set_get, hl']) (by omega) ?_
    refine s21 (D := D'') (R := R) (rows := rows) (who := who) (sort := sort) (paid := paid) (back := back) (by simp -implicitDefEqProofs [set_get, sm.get 19, h19]) (by simp -implicitDefEqProofs [set_get, hl']) (by simp -implicitDefEqProofs [set_get, hl']) (by simp -implicitDefEqProofs [set_get, hl']) (by simp -implicitDefEqProofs [set_get, hl']) (by simp -implicitDefEqProofs [set_get, hl']) (by rw [set_get, if_pos rfl, if_pos (by simp -implicitDefEqProofs [hl'])]) (by omega) w2 b1 ?_
    refine ⟨D'', _, rfl, by simp -implicitDefEqProofs [sm], by rw [set_get, if_pos rfl, if_pos (by simp -implicitDefEqProofs [hl'])], ?_, ?_⟩
    · rw [List.length_append]
      split <;> simp -implicitDefEqProofs <;> omega
    · intro q hq
      rcases List.mem_append.mp hq with hq | hq
      · exact e4 q hq
      · split at hq
        · rename_i c
          have c := of_decide_eq_true c
          rw [List.mem_singleton.mp hq]
          refine ⟨?_, w2.elim id fun z => absurd z c.2.1, b1, c.2.2, p2⟩
          rcases w1 with z | z | z | z
          · exact .inl z
          · exact .inr (.inl z)
          · exact .inr (.inr z)
          · exact absurd z c.1
        · exact nomatch hq
  · subst e1
    exact k ρ' D' rows sm e2 (by omega) e4
end
end RS.L14
set_option Elab.async false
set_option linter.all false
set_option maxRecDepth 100000
set_option maxHeartbeats 2000000
set_option autoImplicit false
namespace RS.L14
open PySem L2 K14
/-- the names of the rows of a sort -/
def nv (rows : List Row) : List String := (rows.filter fun q => decide (q.2.1 = "never")).map (·.1)
theorem nv_len {rows : List Row} : (nv rows).length ≤ rows.length := by
  unfold nv
  rw [List.length_map]
  exact List.length_filter_le _ _
abbrev cnt (l : List String) (x : String) : Int := (l.countP fun y => decide (y = x) : Nat)
abbrev Tri : Type := Int × Nat × String
abbrev encT (t : Tri) : W := .tup [.int t.1, .int (t.2.1 : Nat), sW t.2.2]
/-- the counts with places -/
def tris (l : List String) : List Tri := (ded l).zipIdx.map fun p => (-cnt l p.1, p.2, p.1)
theorem toks_inj {a b : Tri} (h : PySem.W.keyToks (dW (encT a)) = PySem.W.keyToks (dW (encT b))) : a = b := by
  obtain ⟨a1, a2, a3⟩ := a
  obtain ⟨b1, b2, b3⟩ := b
  have h : [Sum.inl 1, Sum.inl a1, .inl 1, .inl (a2 : Int), .inl 1, .inr (Str.ofString a3).cps.toList, .inl 0] = [Sum.inl 1, Sum.inl b1, .inl 1, .inl (b2 : Int), .inl 1, .inr (Str.ofString b3).cps.toList, .inl 0] := h
  simp -implicitDefEqProofs at h
  obtain ⟨h1, h2, h3⟩ := h
  have h3 : Str.ofString a3 = Str.ofString b3 := by
    cases e1 : Str.ofString a3
    cases e2 : Str.ofString b3
    rw [e1, e2] at h3
    simp -implicitDefEqProofs at h3
    rw [h3]
  have h3 := ofString_inj h3
  subst h1 h3
  have : a2 = b2 := by omega
  rw [this]
section
variable {ρ : Env} {D : Dice} {R : O} {r : List O} {N : Env → S → Prop} {P : Pk} {Q : W → S → Prop} {X : Str → S → Prop}
theorem count_s {l : List String} {x : String} : (l.map sW).countP (fun w => decide (w = sW x)) = l.countP fun y => decide (y = x) := by
  rw [List.countP_map]
  congr 1
  funext y
  simp -implicitDefEqProofs
theorem s22 {rows : List Row} (hl : ρ.length = 44) (h20 : ρ[20]? = some (some (.lst (rows.map encR)))) (hz : rows.length ≤ 20) {s : S} (k : N (ρ.set 11 (some (.lst ((nv rows).map sW)))) s) : Ps (Mi.law_s22 ρ s) N P := by
  unfold Mi.law_s22
  simp -implicitDefEqProofs [h20]
  refine lc_pure (xs := rows) encR at_S (fun q => decide (q.2.1 = "never")) (fun q => sW q.1) (by omega) (by omega) (fun x hx => by simp -implicitDefEqProofs [set_get, hl, -getElem?_pos]) ?_
  unfold nv at k
  rw [List.map_map] at k
  exact k
theorem s23 {l : List String} (hl : ρ.length = 44) (h2 : ρ[2]? = some (some (.ref 0))) (h11 : ρ[11]? = some (some (.lst (l.map sW)))) (hz : l.length ≤ 20)
    (k : ∀ bk le D', 0 ≤ bk → bk < 40 → 1 ≤ le → le ≤ 3 → N (((ρ.set 22 (some (.lst ((ded l).map sW)))).set 23 (some (.int bk))).set 24 (some (.int le))) (Hl (dO D' :: r))) : Ps (Mi.law_s23 ρ (Hl (dO D :: r))) N P := by
  unfold Mi.law_s23
  simp -implicitDefEqProofs [h2, h11]
  refine lc_pure (xs := l) sW at_S (fun _ => true) (fun x => .tup [sW x, .int 1]) (by omega) (by omega) (fun x hx => by simp -implicitDefEqProofs [set_get, hl, -getElem?_pos]) ?_
  rw [filter_tt]
  rw [fDict_m (fun _ _ => rfl)]
  have hk := ded_keys (v := fun _ => W.int 1) l
  have hf := ded_eq (v := fun _ => W.int 1) l
  generalize mergeW [] (l.map fun x => (sW x, W.int 1)) = M at hk hf
  have e : ∀ s, fList true [W.dct (M.map fun p => toKey p.1) (M.map (·.2))] s = .ok (.lst ((ded l).map sW)) s := fun s => by
    rw [fList_d, zip_back, hf]
    · rfl
    · intro p hp
      have : p.1 ∈ (ded l).map sW := by rw [← hf]; exact List.mem_map.mpr ⟨p, hp, rfl⟩
      obtain ⟨x, _, e⟩ := List.mem_map.mp this
      rw [← e]
      rfl
  simp -implicitDefEqProofs [mi_roll, e]
  have a1 := roN_lt (D := D) (m := 40) (by omega)
  have a2 := roN_lt (D := roD D 40) (m := 3) (by omega)
  have a3 := roN_ge (D := roD D 40) (m := 3) (by omega)
  exact k _ _ _ (roN_ge (by omega)) a1 (by omega) (by omega)
theorem count_s' {l : List String} {x : String} : l.countP ((fun w => decide (w = sW x)) ∘ sW) = l.countP fun y => decide (y = x) := by
  congr 1
  funext y
  simp -implicitDefEqProofs
theorem s24 {l : List String} {le : Int} (hl : ρ.length = 44) (h22 : ρ[22]? = some (some (.lst ((ded l).map sW)))) (h11 : ρ[11]? = some (some (.lst (l.map sW)))) (h24 : ρ[24]? = some (some (.int le))) (hz : l.length ≤ 20) {s : S}
    (k : N (ρ.set 12 (some (.lst (((srtE encT (tris l)).filter fun t => decide (le ≤ -t.1)).map fun t => sW t.2.2)))) s) : Ps (Mi.law_s24 ρ s) N P := by
  have hd : (ded l).length ≤ l.length := by have := ded_len l []; simpa [ded] using this
  unfold Mi.law_s24
  simp -implicitDefEqProofs [h22]
  refine lc_pure (xs := (ded l).zipIdx) (fun p => .tup [.int (p.2 : Nat), sW p.1]) at_E (fun _ => true) (fun p => encT (-cnt l p.1, p.2, p.1)) (by simp -implicitDefEqProofs; omega) (by simp -implicitDefEqProofs) (fun x hx => by simp -implicitDefEqProofs [set_get, hl, h11, -getElem?_pos, count_s']) ?_
  rw [filter_tt]
  have e : ((ded l).zipIdx.map fun p => encT (-cnt l p.1, p.2, p.1)) = (tris l).map encT := by
    unfold tris
    rw [List.map_map]
    rfl
  rw [e]
  have hs : ∀ s, sortW s ((tris l).map encT) = some ((srtE encT (tris l)).map encT) := fun s => by
    rw [sortW_rows (by simp -implicitDefEqProofs) (fun a ha b hb => ?_) (.inl fun a ha => ?_), srt_map]
    · obtain ⟨t, _, rfl⟩ := List.mem_map.mp ha
      obtain ⟨u, _, rfl⟩ := List.mem_map.mp hb
      rfl
    · obtain ⟨t, _, rfl⟩ := List.mem_map.mp ha
      rfl
  have ht : (tris l).length ≤ 20 := by unfold tris; simp -implicitDefEqProofs; omega
  simp -implicitDefEqProofs [hs]
  refine lc_pure (xs := srtE encT (tris l)) encT at_S (fun t => decide (le ≤ -t.1)) (fun t => sW t.2.2) (by rw [srtE_len]; omega) (by simp -implicitDefEqProofs) (fun x hx => by simp -implicitDefEqProofs [set_get, hl, h24, -getElem?_pos]) ?_
  exact k
end
end RS.L14
set_option Elab.async false
set_option linter.all false
set_option maxRecDepth 100000
set_option maxHeartbeats 2000000
set_option autoImplicit false
namespace RS.L14
open PySem L2 K14
abbrev SO : List String := ["one", "house", "never", "force"]
def so (rows : List Row) (who : String) : List String := (rows.filter fun q => decide (q.1 = who)).map (·.2.1)
def c2 (rows : List Row) (who x : String) : Nat := (rows.filter fun q => decide (q.1 = who ∧ q.2.1 = x)).length
theorem so_cnt {rows : List Row} {who x : String} : (so rows who).countP (fun y => decide (y = x)) = c2 rows who x := by
  unfold so c2
  rw [List.countP_map, List.countP_filter, List.countP_eq_length_filter]
  congr 2
  funext q
  simp -implicitDefEqProofs
  exact Bool.and_comm _ _
theorem so_mem {rows : List Row} {who x : String} : (x ∈ so rows who) = (c2 rows who x ≠ 0) := by
  unfold so c2
  apply propext
  rw [Ne, List.length_eq_zero_iff, List.filter_eq_nil_iff]
  simp -implicitDefEqProofs
section
variable {ρ : Env} {D : Dice} {R : O} {r : List O} {N : Env → S → Prop} {P : Pk} {Q : W → S → Prop} {X : Str → S → Prop}
theorem kept_eq {rows : List Row} (hz : rows.length ≤ 20) (hr : ∀ q ∈ rows, RowOk q) : Mi.CancelBook_kept_of_all [.ref 2] (HK D R rows r) = .ok (.int (rows.map fun q => q.2.2.1 - q.2.2.2).sum) (HK D R rows r) := by
  apply Pe.eq
  unfold Mi.CancelBook_kept_of_all Mi.CancelBook_kept_of_all_b
  simp -implicitDefEqProofs
  refine sum_pure (xs := rows) encR (at_L rfl) (fun _ => true) (fun q => q.2.2.1 - q.2.2.2) 90 (Same [1] _) .refl (by omega) (by omega) (fun x hx ρ' hJ => by simp -implicitDefEqProofs [set_get, hJ, hJ.1]) (by decide) (fun q hq => ?_) (by decide) (by omega) ?_
  · have := hr q hq
    have h1 := this.lo; have h2 := this.le; have h3 := this.hi
    omega
  · simp -implicitDefEqProofs
abbrev cL (rows : List Row) (who : String) : List (W × W) := (SO.filter fun x => decide (c2 rows who x ≠ 0)).map fun x => (sW x, W.int (c2 rows who x : Nat))
theorem cL_nd {rows : List Row} {who : String} : mergeW [] (cL rows who) = cL rows who := by
  refine mergeW_nd _ [] ?_
  rw [List.nil_append, List.map_map]
  have e : ((fun x : W × W => x.1) ∘ fun x : String => (sW x, W.int (c2 rows who x : Nat))) = sW := rfl
  rw [e]
  have : (SO.map sW).Nodup := by decide +kernel
  refine List.Pairwise.map sW (R := fun a b => sW a ≠ sW b) (fun a b h => h) ?_
  refine List.Pairwise.filter _ ?_
  exact List.pairwise_map.mp this
theorem counts_eq {rows : List Row} {who : String} (hz : rows.length ≤ 20) : Mi.CancelBook_counts_of [.ref 2, sW who] (HK D R rows r) = .ok (.dct ((cL rows who).map fun p => toKey p.1) ((cL rows who).map (·.2))) (HK D R rows r) := by
  apply Pe.eq
  unfold Mi.CancelBook_counts_of Mi.CancelBook_counts_of_b
  simp -implicitDefEqProofs
  refine lc_pure (xs := rows) encR (at_L rfl) (fun q => decide (q.1 = who)) (fun q => sW q.2.1) (by omega) (by omega) (fun x hx => by simp -implicitDefEqProofs [set_get]) ?_
  have e : ((rows.filter fun q => decide (q.1 = who)).map fun q => sW q.2.1) = (so rows who).map sW := by
    unfold so
    rw [List.map_map]
    rfl
  rw [e]
  have hl : (so rows who).length ≤ 20 := by
    unfold so
    rw [List.length_map]
    exact Nat.le_trans (List.length_filter_le _ _) hz
  refine dc_pure (xs := SO) sW (fun i _ => rfl) (fun x => decide (c2 rows who x ≠ 0)) sW (fun x => W.int (c2 rows who x : Nat)) (by decide) (by decide) (fun x hx => ?_) ?_
  · simp -implicitDefEqProofs [set_get, count_s', so_cnt, so_mem]
  · rw [cL_nd]
    simp -implicitDefEqProofs
theorem never_pe {rows : List Row} {bk : Int} (hz : rows.length ≤ 20) (hb : 0 ≤ bk) (hb2 : bk < 40) (h1 : max 1 (rows.length : Int) ≤ bk → Q (.int (1000 * ((nv rows).length : Int) / bk)) (HK D R rows r)) (h2 : bk < max 1 (rows.length : Int) → X "CancelError" (HK D R rows r)) : Pe (Mi.CancelBook_never_part [.ref 2, .int bk] (HK D R rows r)) Q X := by
  unfold Mi.CancelBook_never_part Mi.CancelBook_never_part_b
  simp -implicitDefEqProofs
  refine .intro (fun c => h2 (of_decide_eq_true c)) (fun c => ?_)
  have c := of_decide_eq_false c
  refine lc_pure (xs := rows) encR (at_L rfl) (fun q => decide (q.2.1 = "never")) (fun q => .int 1) (by omega) (by omega) (fun x hx => by simp -implicitDefEqProofs [set_get]) ?_
  have e : ((rows.filter fun q => decide (q.2.1 = "never")).map fun q => W.int 1).length = (nv rows).length := by
    unfold nv
    simp -implicitDefEqProofs
  simp -implicitDefEqProofs [e]
  have := h1 (by omega)
  exact ⟨mulOk_l (by decide), by omega, this⟩
theorem sort_tri {ys : List Tri} {s : S} : sortW s (ys.map encT) = some ((srtE encT ys).map encT) := by
  rw [sortW_rows (by simp -implicitDefEqProofs) (fun a ha b hb => ?_) (.inl fun a ha => ?_), srt_map]
  · obtain ⟨t, _, rfl⟩ := List.mem_map.mp ha
    obtain ⟨u, _, rfl⟩ := List.mem_map.mp hb
    rfl
  · obtain ⟨t, _, rfl⟩ := List.mem_map.mp ha
    rfl
/-- a triple as the loop makes it -/
def trP (l : List String) (p : String × Nat) : Tri := (-cnt l p.1, p.2, p.1)
theorem worst_pe {rows : List Row} {le : Int} (hz : rows.length ≤ 20) (h1 : 1 ≤ le) (h2 : le ≤ 3)
    (k : ∀ r', Q (.tup (((srtE encT (tris (nv rows))).filter fun t => decide (le ≤ -t.1)).map fun t => sW t.2.2)) (HK D R rows r')) : Pe (Mi.CancelBook_worst_ones [.ref 2, .int le] (HK D R rows [])) Q X := by
  have hn : (nv rows).length ≤ 20 := Nat.le_trans nv_len hz
  have hd : (ded (nv rows)).length ≤ 20 := by have := ded_len (nv rows) []; simp -implicitDefEqProofs only [List.length_nil] at this; unfold ded; omega
  unfold Mi.CancelBook_worst_ones Mi.CancelBook_worst_ones_b Mi.CancelBook_worst_ones_s1 Mi.CancelBook_worst_ones_s2 Mi.CancelBook_worst_ones_s3 Mi.CancelBook_worst_ones_s4
  simp -implicitDefEqProofs [show ¬ le < 1 by omega]
  refine lc_pure (xs := rows) encR (at_L rfl) (fun q => decide (q.2.1 = "never")) (fun q => sW q.1) (by omega) (by omega) (fun x hx => by simp -implicitDefEqProofs [set_get]) ?_
  have e : ((rows.filter fun q => decide (q.2.1 = "never")).map fun q => sW q.1) = (nv rows).map sW := by
    unfold nv
    rw [List.map_map]
    rfl
  rw [e]
  generalize hl : nv rows = l at *
  refine dc_pure (xs := l) sW at_S (fun _ => true) sW (fun _ => .bl true) (by omega) (by simp -implicitDefEqProofs) (fun x hx => by simp -implicitDefEqProofs [set_get]) ?_
  rw [filter_tt]
  have e2 : (mergeW [] (l.map fun x => (sW x, W.bl true))).map (kW ∘ fun p => toKey p.1) = (ded l).map sW := by rw [← List.map_map]; exact ded_keys l
  have e3 : (mergeW [] (l.map fun x => (sW x, W.bl true))).length = (ded l).length := by
    have := congrArg List.length (ded_eq (v := fun _ => W.bl true) l)
    simpa using this
  rw [e2, e3]
  unfold HK
  simp -implicitDefEqProofs only [Hl_nx, Hl_new, List.length_cons, List.length_nil, List.cons_append, List.nil_append]
  have tlen : (tris l).length ≤ 20 := by unfold tris; simp -implicitDefEqProofs; omega
  refine for_gen (p := itET ((ded l).map sW)) (n := (ded l).length) (fun j ρ' s' => ρ'.length = 8 ∧ ρ'[1]? = some (some (.int le)) ∧ ρ'[2]? = some (some (.lst (l.map sW))) ∧ ρ'[4]? = some (some (.ref 4)) ∧ s' = HK D R rows [.lst (((((ded l).zipIdx.take j).map (trP l)).filter fun t => decide (le ≤ -t.1)).map encT)])
    (fun j hj ρ' s' ⟨g1, g2, g3, g4, g5⟩ => ?_) (fun ρ' s' ⟨g1, g2, g3, g4, g5⟩ => ?_) (ded l).length 0 _ _ _ (by omega) (by omega) ⟨rfl, rfl, rfl, rfl, rfl⟩
  · have hj' : j < (ded l).zipIdx.length := by rw [List.length_zipIdx]; exact hj
    refine ⟨.tup [.int (j : Nat), sW (ded l)[j]], by
      rw [at_E j (by omega), List.getElem?_map, List.getElem?_eq_getElem hj', List.getElem_zipIdx]
      simp -implicitDefEqProofs, ?_⟩
    have tk : (ded l).zipIdx.take (j + 1) = (ded l).zipIdx.take j ++ [((ded l)[j], j)] := by
      rw [List.take_succ, List.getElem?_eq_getElem hj', List.getElem_zipIdx]
      simp -implicitDefEqProofs
    have len1 : (((((ded l).zipIdx.take j).map (trP l)).filter fun t => decide (le ≤ -t.1)).map encT).length ≤ 20 := by
      rw [List.length_map]
      refine Nat.le_trans (List.length_filter_le _ _) ?_
      rw [List.length_map, List.length_take, List.length_zipIdx]
      omega
    subst g5
    simp -implicitDefEqProofs only [tk, List.map_append, List.filter_append]
    generalize hacc : ((((ded l).zipIdx.take j).map (trP l)).filter fun t => decide (le ≤ -t.1)).map encT = acc at len1
    unfold Mi.CancelBook_worst_ones_s4_b Mi.CancelBook_worst_ones_s5
    simp -implicitDefEqProofs [set_get, g1, g2, g3, g4, count_s', -getElem?_pos]
    refine .intro (fun c => ⟨by omega, ?_⟩) (fun c => ⟨by omega, ?_⟩)
    · have c := of_decide_eq_true c
      rw [List.filter_cons_of_pos (by simpa [trP] using c)]
      rfl
    · have c := of_decide_eq_false c
      rw [List.filter_cons_of_neg (by simpa [trP] using c)]
      simp -implicitDefEqProofs
  · subst g5
    unfold Mi.CancelBook_worst_ones_s6
    have tk : (((ded l).zipIdx.take (ded l).length).map (trP l)).filter (fun t => decide (le ≤ -t.1)) = (tris l).filter fun t => decide (le ≤ -t.1) := by
      rw [List.take_of_length_le (by rw [List.length_zipIdx]; exact Nat.le_refl _)]
      rfl
    rw [tk]
    simp -implicitDefEqProofs [g4, sort_tri]
    refine ⟨by rw [at_E _ (by simp -implicitDefEqProofs), List.getElem?_eq_none (by simp -implicitDefEqProofs)], ?_⟩
    have len2 : ((tris l).filter fun t => decide (le ≤ -t.1)).length ≤ 20 := Nat.le_trans (List.length_filter_le _ _) tlen
    refine col_pure (xs := srtE encT ((tris l).filter fun t => decide (le ≤ -t.1))) encT at_S (fun _ => true) (fun t => sW t.2.2) (Same [7, 5, 6] _) .refl (by simp -implicitDefEqProofs) (by simp -implicitDefEqProofs) (fun x hx ρ1 hJ => by simp -implicitDefEqProofs [set_get, hJ, hJ.1, g1, -getElem?_pos]) ?_
    rw [filter_tt, srt_filter (fun a _ b _ h => toks_inj h)]
    refine ⟨?_, k _⟩
    rw [List.length_map]
    have := List.length_filter_le (fun t : Tri => decide (le ≤ -t.1)) (srtE encT (tris l))
    rw [srtE_len] at this
    omega
end
end RS.L14
set_option Elab.async false
set_option linter.all false
set_option maxRecDepth 100000
set_option maxHeartbeats 2000000
set_option autoImplicit false
namespace RS.L14
open PySem L2 K14
section
variable {ρ : Env} {D : Dice} {R : O} {r : List O} {N : Env → S → Prop} {P : Pk} {Q : W → S → Prop} {X : Str → S → Prop}
abbrev itemsW (rows : List Row) (who : String) : W := .lst ((SO.filter fun x => decide (c2 rows who x ≠ 0)).map fun x => .tup [sW x, .int (c2 rows who x : Nat)])
def cK (rows : List Row) (who : String) : List Key := (cL rows who).map fun p => toKey p.1
def cV (rows : List Row) (who : String) : List W := (cL rows who).map (·.2)
theorem counts_eq' {rows : List Row} {who : String} (hz : rows.length ≤ 20) : Mi.CancelBook_counts_of [.ref 2, sW who] (HK D R rows r) = .ok (.dct (cK rows who) (cV rows who)) (HK D R rows r) := counts_eq hz
theorem items_eq {rows : List Row} {who : String} {s : S} : liK true (.dct (cK rows who) (cV rows who)) s = .ok (itemsW rows who) s := by
  unfold cK cV
  rw [liK_d, zip_back]
  · rw [List.map_map]; rfl
  · intro p hp
    obtain ⟨x, _, rfl⟩ := List.mem_map.mp hp
    rfl
theorem s25 {rows : List Row} {bk le : Int} (hl : ρ.length = 44) (h1 : ρ[1]? = some (some sortsW)) (h19 : ρ[19]? = some (some (.ref 2))) (h20 : ρ[20]? = some (some (.lst (rows.map encR)))) (h11 : ρ[11]? = some (some (.lst ((nv rows).map sW)))) (h23 : ρ[23]? = some (some (.int bk))) (h24 : ρ[24]? = some (some (.int le)))
    (h12 : ρ[12]? = some (some (.lst (((srtE encT (tris (nv rows))).filter fun t => decide (le ≤ -t.1)).map fun t => sW t.2.2)))) (hz : rows.length ≤ 20) (hr : ∀ q ∈ rows, RowOk q) (hb : 0 ≤ bk) (hb2 : bk < 40) (hle : 1 ≤ le) (hle2 : le ≤ 3)
    (k : ∀ r', N ρ (HK D R rows r')) : Ps (Mi.law_s25 ρ (HK D R rows [])) N P := by
  unfold Mi.law_s25
  have e1 := kept_eq (D := D) (R := R) (r := []) hz hr
  simp -implicitDefEqProofs [h19, h20, e1]
  refine lc_pure (xs := rows) encR at_S (fun _ => true) (fun q => .int (q.2.2.1 - q.2.2.2)) (by omega) (by omega) (fun x hx => by simp -implicitDefEqProofs [set_get, hl, -getElem?_pos]) ?_
  rw [filter_tt]
  simp -implicitDefEqProofs
  refine lc_pure (xs := ["a", "z"]) sW (fun i _ => rfl) (fun _ => true) (fun who => itemsW rows who) (by decide) (by decide) (fun x hx => ?_) ?_
  · have e2 := counts_eq' (D := D) (R := R) (r := []) (who := x) hz
    simp -implicitDefEqProofs [set_get, hl, h19, e2, items_eq, -getElem?_pos, -liK_d]
  rw [filter_tt]
  simp -implicitDefEqProofs
  refine lc_pure (xs := ["a", "z"]) sW (fun i _ => rfl) (fun _ => true) (fun who => itemsW rows who) (by decide) (by decide) (fun x hx => ?_) ?_
  · simp -implicitDefEqProofs [set_get, hl, h1, h20, -getElem?_pos]
    refine lc_pure (xs := SO) sW (fun i _ => rfl) (fun y => decide (c2 rows x y ≠ 0)) (fun y => .tup [sW y, .int (c2 rows x y : Nat)]) (by decide) (by decide) (fun y hy => ?_) ?_
    · simp -implicitDefEqProofs [set_get, hl, h20, -getElem?_pos]
      refine lc_pure (xs := rows) encR at_S (fun q => decide (q.1 = x ∧ q.2.1 = y)) (fun _ => .int 1) (by omega) (by simp -implicitDefEqProofs) (fun q hq => by simp -implicitDefEqProofs [set_get, hl, -getElem?_pos]) ?_
      have hlen : (rows.filter fun q => decide (q.1 = x ∧ q.2.1 = y)).length = c2 rows x y := rfl
      have hnil : (rows.filter fun q => decide (q.1 = x ∧ q.2.1 = y)) = [] ↔ c2 rows x y = 0 := by rw [← hlen, List.length_eq_zero_iff]
      generalize (rows.filter fun q => decide (q.1 = x ∧ q.2.1 = y)) = F at hlen hnil
      simp -implicitDefEqProofs [hnil]
      intro _
      refine lc_pure (xs := rows) encR at_S (fun q => decide (q.1 = x ∧ q.2.1 = y)) (fun _ => .int 1) (by omega) (by simp -implicitDefEqProofs) (fun q hq => by simp -implicitDefEqProofs [set_get, hl, -getElem?_pos]) ?_
      exact ⟨by rw [List.length_map]; rfl, rfl⟩
    · simp -implicitDefEqProofs
  rw [filter_tt]
  simp -implicitDefEqProofs [h24]
  refine worst_pe hz hle hle2 fun r' => ?_
  simp -implicitDefEqProofs [h12, h23, h19]
  refine never_pe hz hb hb2 (fun c => ?_) (fun c => ?_)
  · simp -implicitDefEqProofs [h23, h11, c]
    exact ⟨mulOk_l (by decide), by omega, k _⟩
  · simp -implicitDefEqProofs [h23, h11, show ¬ max 1 (rows.length : Int) ≤ bk by omega]
    exact k _
end
end RS.L14
set_option Elab.async false
set_option linter.all false
set_option maxRecDepth 100000
set_option maxHeartbeats 2000000
set_option autoImplicit false
namespace RS.L14
open PySem L2 K14
abbrev Wish3 : Type := Int × Int × Int
abbrev enc3 (p : Wish3) : W := .tup [.int p.1, .int p.2.1, .int p.2.2]
structure WishOk (p : Wish3) : Prop where
  b1 : 1 ≤ p.2.1
  b2 : p.2.1 ≤ 5
  c1 : 1 ≤ p.2.2
  c2 : p.2.2 ≤ 3
abbrev Trq : Type := Int × Int × Nat
abbrev encQ (t : Trq) : W := .tup [.int t.1, .int t.2.1, .int (t.2.2 : Nat)]
def ordQ (ws : List Wish3) : List Trq := srtE encQ (ws.zipIdx.map fun p => (p.1.1, -p.1.2.1, p.2))
theorem sort_trq {ys : List Trq} {s : S} : sortW s (ys.map encQ) = some ((srtE encQ ys).map encQ) := by
  rw [sortW_rows (by simp -implicitDefEqProofs) (fun a ha b hb => ?_) (.inl fun a ha => ?_), srt_map]
  · obtain ⟨t, _, rfl⟩ := List.mem_map.mp ha
    obtain ⟨u, _, rfl⟩ := List.mem_map.mp hb
    rfl
  · obtain ⟨t, _, rfl⟩ := List.mem_map.mp ha
    rfl
theorem ordQ_mem {ws : List Wish3} {t : Trq} (h : t ∈ ordQ ws) : t.2.2 < ws.length := by
  have h := srtE_mem.mp h
  obtain ⟨p, hp, rfl⟩ := List.mem_map.mp h
  obtain ⟨i, hi, e⟩ := List.mem_iff_getElem.mp hp
  rw [List.getElem_zipIdx] at e
  rw [List.length_zipIdx] at hi
  rw [← e]
  simpa using hi
theorem ordQ_len {ws : List Wish3} : (ordQ ws).length = ws.length := by
  unfold ordQ
  rw [srtE_len, List.length_map, List.length_zipIdx]
def wq (ws : List Wish3) (p : Nat) : Int := (ws[p]?.map (·.2.2)).getD 0
def stQ (ws : List Wish3) (l : Int × List Nat) (p : Nat) : Int × List Nat := if wq ws p ≤ l.1 then (l.1 - wq ws p, l.2 ++ [p]) else l
def runQ (ws : List Wish3) (free : Int) (ps : List Nat) : Int × List Nat := ps.foldl (stQ ws) (free, [])
def placesQ (ws : List Wish3) : List Nat := (ordQ ws).map (·.2.2)
abbrev natW (l : List Nat) : List W := l.map fun p => .int (p : Nat)
section
variable {ρ : Env} {D : Dice} {R : O} {r : List O} {N : Env → S → Prop} {P : Pk} {Q : W → S → Prop} {X : Str → S → Prop}
theorem s26 (h2 : ρ[2]? = some (some (.ref 0))) (k : ∀ a b c d e f g h D', 0 ≤ a → a < 900 → 0 ≤ b → b < 900 → 0 ≤ c → c < 900 → 0 ≤ d → d < 60 → 1 ≤ e → e ≤ 900 → 0 ≤ f → f < 300 → 1 ≤ g → g ≤ 12 → 0 ≤ h → h < 90 → N ((((((((ρ.set 25 (some (.int a))).set 26 (some (.int b))).set 27 (some (.int c))).set 28 (some (.int d))).set 29 (some (.int e))).set 30 (some (.int f))).set 31 (some (.int g))).set 32 (some (.int h))) (Hl (dO D' :: r))) : Ps (Mi.law_s26 ρ (Hl (dO D :: r))) N P := by
  unfold Mi.law_s26
  simp -implicitDefEqProofs [h2, mi_roll]
  have ge : ∀ D m, 0 < m → 0 ≤ roN D m := fun D m h => roN_ge h
  have lt : ∀ D m, 0 < m → roN D m < m := fun D m h => roN_lt h
  refine k _ _ _ _ _ _ _ _ _ (ge _ _ ?_) (lt _ _ ?_) (ge _ _ ?_) (lt _ _ ?_) (ge _ _ ?_) (lt _ _ ?_) (ge _ _ ?_) (lt _ _ ?_) ?_ ?_ (ge _ _ ?_) (lt _ _ ?_) ?_ ?_ (ge _ _ ?_) (lt _ _ ?_) <;> first | decide | skip
  · have := ge (roD (roD (roD (roD D 900) 900) 900) 60) 900 (by decide); omega
  · have := lt (roD (roD (roD (roD D 900) 900) 900) 60) 900 (by decide); omega
  · have := ge (roD (roD (roD (roD (roD (roD D 900) 900) 900) 60) 900) 300) 12 (by decide); omega
  · have := lt (roD (roD (roD (roD (roD (roD D 900) 900) 900) 60) 900) 300) 12 (by decide); omega
theorem s27 {b c d : Int} (h26 : ρ[26]? = some (some (.int b))) (h27 : ρ[27]? = some (some (.int c))) (h28 : ρ[28]? = some (some (.int d))) {s : S} (k : N (ρ.set 13 (some (.int (b - c + d)))) s) : Ps (Mi.law_s27 ρ s) N P := by
  unfold Mi.law_s27
  simp -implicitDefEqProofs [h26, h27, h28]
  exact k
theorem s28 {a b c d : Int} (h25 : ρ[25]? = some (some (.int a))) (h26 : ρ[26]? = some (some (.int b))) (h27 : ρ[27]? = some (some (.int c))) (h28 : ρ[28]? = some (some (.int d))) (h13 : ρ[13]? = some (some (.int (b - c + d)))) (ha : 0 ≤ a) (hb : 0 ≤ b) (hc : 0 ≤ c) (hd : 0 ≤ d) {s : S} (k : N ρ s) : Ps (Mi.law_s28 ρ s) N P := by
  unfold Mi.law_s28
  simp -implicitDefEqProofs [h25, h26, h27, h28, h13, Mi.change_price, Mi.change_price_b, show ¬ min a (min b (min c d)) < 0 by omega]
  refine .intro (fun z => ?_) (fun z => ?_)
  · have z := of_decide_eq_true z
    simp -implicitDefEqProofs [h25, h26, h27, h28, h13, z]
    refine .intro (fun y => ?_) (fun y => ?_)
    · have y := of_decide_eq_true y
      simp -implicitDefEqProofs [h28, show max (b - c + d) d = d by omega]
      exact k
    · have y := of_decide_eq_false y
      simp -implicitDefEqProofs [h13, show max (b - c + d) d = b - c + d by omega]
      exact k
  · have z := of_decide_eq_false z
    simp -implicitDefEqProofs [h25, h26, h27, h28, h13, z]
    exact k
theorem s29 {e f g h : Int} (h29 : ρ[29]? = some (some (.int e))) (h30 : ρ[30]? = some (some (.int f))) (h31 : ρ[31]? = some (some (.int g))) (h32 : ρ[32]? = some (some (.int h))) (he : 1 ≤ e) (he2 : e ≤ 900) (hf : 0 ≤ f) (hf2 : f < 300) (hg : 1 ≤ g) (hg2 : g ≤ 12) {s : S} (k : N ρ s) : Ps (Mi.law_s29 ρ s) N P := by
  unfold Mi.law_s29
  have m1 : mulOk e f = true := mulOk_l (by omega)
  have m2 : mulOk 30 g = true := mulOk_l (by omega)
  have m3 : mulOk e (1000 + f) = true := mulOk_l (by omega)
  have q : e + e * f / 1000 = e * (1000 + f) / 1000 := by
    rw [Int.mul_add]
    omega
  simp -implicitDefEqProofs [h29, h30, h31, h32, Mi.voucher_for, Mi.voucher_for_b, show ¬ e < 1 by omega, show ¬ f < 0 by omega, show ¬ g < 1 by omega, m1, m2, m3, q]
  exact k
theorem s30 (hl : ρ.length = 44) (h2 : ρ[2]? = some (some (.ref 0))) (k : ∀ (ws : List Wish3) (free : Int) D', ws.length ≤ 6 → (∀ p ∈ ws, WishOk p) → 0 ≤ free → free < 8 → N (((ρ.set 33 (some (.lst (ws.map enc3)))).set 34 (some (.int free))).set 35 (some (.lst []))) (Hl (dO D' :: r))) : Ps (Mi.law_s30 ρ (Hl (dO D :: r))) N P := by
  unfold Mi.law_s30
  simp -implicitDefEqProofs [h2, mi_roll]
  have g := roN_ge (D := D) (m := 7) (by omega)
  have l := roN_lt (D := D) (m := 7) (by omega)
  refine ⟨b62_of (by omega) (by omega), ?_⟩
  generalize hn : (roN D 7).toNat = n
  refine lc_gen (p := itR 0 1 n) (n := n) (fun j acc s' => ∃ D' ws, s' = Hl (dO D' :: r) ∧ acc = ws.map enc3 ∧ ws.length = j ∧ ∀ p ∈ ws, WishOk p) (by omega) (fun j acc s' ⟨D', ws, _, e, e2, _⟩ => by rw [e, List.length_map]; omega) (fun j hj acc s' ⟨D', ws, e1, e2, e3, e4⟩ => ?_) (fun acc s' ⟨D', ws, e1, e2, e3, e4⟩ => ?_) n 0 (n + 1) [] _ (by omega) (by omega) ⟨_, [], rfl, rfl, rfl, fun _ z => nomatch z⟩
  · subst e1 e2
    refine ⟨.int j, by
      show some (if j < n then some (W.int (0 + (j : Nat) * 1)) else none) = _
      rw [if_pos hj]
      congr 3
      omega, ?_⟩
    simp -implicitDefEqProofs [set_get, h2, -getElem?_pos]
    refine ⟨⟨_, _, _, rfl⟩, ws ++ [(roN D' 5, 1 + roN (roD D' 5) 5, 1 + roN (roD (roD D' 5) 5) 3)], by simp -implicitDefEqProofs, by simp -implicitDefEqProofs [e3], fun a b c h => ?_⟩
    rcases List.mem_append.mp h with h | h
    · exact e4 _ h
    · rw [List.mem_singleton.mp h]
      have a1 := roN_ge (D := roD D' 5) (m := 5) (by omega)
      have a2 := roN_lt (D := roD D' 5) (m := 5) (by omega)
      have b1 := roN_ge (D := roD (roD D' 5) 5) (m := 3) (by omega)
      have b2 := roN_lt (D := roD (roD D' 5) 5) (m := 3) (by omega)
      exact ⟨by simp -implicitDefEqProofs; omega, by simp -implicitDefEqProofs; omega, by simp -implicitDefEqProofs; omega, by simp -implicitDefEqProofs; omega⟩
  · subst e1 e2
    refine ⟨by
      show some (if n < n then some (W.int (0 + (n : Nat) * 1)) else none) = _
      rw [if_neg (by omega)], ?_⟩
    simp -implicitDefEqProofs [h2, mi_roll]
    exact k ws _ _ (by omega) e4 (roN_ge (by omega)) (roN_lt (by omega))
theorem s31 {v : W} (h34 : ρ[34]? = some (some v)) {s : S} (k : N (ρ.set 14 (some v)) s) : Ps (Mi.law_s31 ρ s) N P := by
  unfold Mi.law_s31
  simp -implicitDefEqProofs [h34]
  exact k
theorem runQ_snoc {ws : List Wish3} {free : Int} {ps : List Nat} {p : Nat} : runQ ws free (ps ++ [p]) = stQ ws (runQ ws free ps) p := by
  unfold runQ
  rw [List.foldl_append]
  rfl
theorem run_len {ws : List Wish3} {free : Int} (ps : List Nat) : (runQ ws free ps).2.length ≤ ps.length := by
  have : ∀ (ps : List Nat) (l : Int × List Nat), (ps.foldl (stQ ws) l).2.length ≤ l.2.length + ps.length := by
    intro ps
    induction ps with
    | nil => intro l; simp -implicitDefEqProofs
    | cons p ps ih =>
      intro l
      rw [List.foldl_cons]
      have h1 := ih (stQ ws l p)
      have h2 : (stQ ws l p).2.length ≤ l.2.length + 1 := by unfold stQ; split <;> simp -implicitDefEqProofs
      rw [List.length_cons]
      omega
  have h := this ps (free, [])
  simp -implicitDefEqProofs at h
  exact h
theorem run_bd {ws : List Wish3} {free : Int} (hf : 0 ≤ free) (ps : List Nat) : 0 ≤ (runQ ws free ps).1 := by
  have : ∀ (ps : List Nat) (l : Int × List Nat), 0 ≤ l.1 → 0 ≤ (ps.foldl (stQ ws) l).1 := by
    intro ps
    induction ps with
    | nil => intro l h; exact h
    | cons p ps ih =>
      intro l h
      rw [List.foldl_cons]
      refine ih _ ?_
      unfold stQ
      split
      · simp -implicitDefEqProofs; omega
      · exact h
  exact this ps (free, []) hf
theorem wq_at {ws : List Wish3} {p : Nat} (h : p < ws.length) : ws[p]? = some ws[p] ∧ wq ws p = ws[p].2.2 := by
  have e := List.getElem?_eq_getElem h
  exact ⟨e, by unfold wq; rw [e]; rfl⟩
theorem s32 {ws : List Wish3} {free : Int} (hl : ρ.length = 44) (h33 : ρ[33]? = some (some (.lst (ws.map enc3)))) (h14 : ρ[14]? = some (some (.int free))) (h35 : ρ[35]? = some (some (.lst []))) (hz : ws.length ≤ 6) (hw : ∀ p ∈ ws, WishOk p) {s : S}
    (k : ∀ ρ', Same [4, 36, 14, 35] ρ ρ' → ρ'[35]? = some (some (.lst (natW (runQ ws free (placesQ ws)).2))) → N ρ' s) : Ps (Mi.law_s32 ρ s) N P := by
  unfold Mi.law_s32
  simp -implicitDefEqProofs [h33]
  refine lc_pure (xs := ws.zipIdx) (fun p => .tup [.int (p.2 : Nat), enc3 p.1]) at_E (fun _ => true) (fun p => encQ (p.1.1, -p.1.2.1, p.2)) (by simp -implicitDefEqProofs; omega) (by simp -implicitDefEqProofs) (fun x hx => by simp -implicitDefEqProofs [set_get, hl, -getElem?_pos]) ?_
  rw [filter_tt]
  have e : (ws.zipIdx.map fun p => encQ (p.1.1, -p.1.2.1, p.2)) = (ws.zipIdx.map fun p => (p.1.1, -p.1.2.1, p.2)).map encQ := by rw [List.map_map]; rfl
  rw [e]
  simp -implicitDefEqProofs only [fSorted_l, sort_trq, oL_s]
  have e2 : srtE encQ (ws.zipIdx.map fun p => (p.1.1, -p.1.2.1, p.2)) = ordQ ws := rfl
  rw [e2]
  simp -implicitDefEqProofs
  refine lc_pure (xs := ordQ ws) encQ at_S (fun _ => true) (fun t => .int (t.2.2 : Nat)) (by rw [ordQ_len]; omega) (by simp -implicitDefEqProofs) (fun x hx => by simp -implicitDefEqProofs [set_get, hl, -getElem?_pos]) ?_
  rw [filter_tt]
  have e3 : ((ordQ ws).map fun t => W.int (t.2.2 : Nat)) = natW (placesQ ws) := by unfold placesQ; rw [natW, List.map_map]; rfl
  rw [e3]
  simp -implicitDefEqProofs
  refine for_lst (fun j ρ' s' => s' = s ∧ Same [4, 36, 14, 35] ρ ρ' ∧ ρ'[14]? = some (some (.int (runQ ws free ((placesQ ws).take j)).1)) ∧ ρ'[35]? = some (some (.lst (natW (runQ ws free ((placesQ ws).take j)).2)))) (by simp -implicitDefEqProofs) ⟨rfl, .refl, h14, h35⟩ (fun j w hj ρ' s' ⟨g1, sm, g2, g3⟩ => ?_) (fun ρ' s' ⟨g1, sm, g2, g3⟩ => ?_)
  · subst g1
    have hl' : ρ'.length = 44 := sm.1.trans hl
    rw [List.getElem?_map] at hj
    obtain ⟨p, hp, rfl⟩ := Option.map_eq_some_iff.mp hj
    have hpm : p < ws.length := by
      have := List.mem_of_getElem? hp
      obtain ⟨t, ht, rfl⟩ := List.mem_map.mp this
      exact ordQ_mem ht
    obtain ⟨q1, q2⟩ := wq_at hpm
    have tk : (placesQ ws).take (j + 1) = (placesQ ws).take j ++ [p] := by rw [List.take_succ, hp]; rfl
    rw [tk, runQ_snoc]
    have rl := run_len (ws := ws) (free := free) ((placesQ ws).take j)
    have pl : ((placesQ ws).take j).length ≤ 6 := by
      rw [List.length_take]
      have : (placesQ ws).length = ws.length := by unfold placesQ; rw [List.length_map, ordQ_len]
      omega
    generalize runQ ws free ((placesQ ws).take j) = st at *
    have ix : atI (ws.map enc3) (p : Int) = some (enc3 ws[p]) := by rw [atI_nat, List.getElem?_map, q1]; rfl
    have h33' : ρ'[33]? = some (some (.lst (ws.map enc3))) := by rw [sm.get 33]; exact h33
    have wb := hw ws[p] (List.getElem_mem hpm)
    unfold Mi.law_s32_b Mi.law_s33 Mi.law_s34 Mi.law_s35 stQ
    rw [q2]
    by_cases c : ws[p].2.2 ≤ st.1
    · simp -implicitDefEqProofs [set_get, hl', g2, g3, h33', ix, c, -getElem?_pos]
      exact ⟨mulOk_r (by decide), by omega, sm⟩
    · simp -implicitDefEqProofs [set_get, hl', g2, g3, h33', ix, c, -getElem?_pos]
      exact ⟨mulOk_r (by decide), by omega, sm⟩
  · subst g1
    rw [natW, List.length_map, List.take_of_length_le (Nat.le_refl _)] at g3
    exact k ρ' sm g3
end
end RS.L14
set_option Elab.async false
set_option linter.all false
set_option maxRecDepth 100000
set_option maxHeartbeats 2000000
set_option autoImplicit false
namespace RS.L14
open PySem L2 K14
section
variable {ρ : Env} {D : Dice} {R : O} {r : List O} {N : Env → S → Prop} {P : Pk} {Q : W → S → Prop} {X : Str → S → Prop}
@[simp] theorem app_get {α : Type} {L : List α} {o : α} : (L ++ [o])[L.length]? = some o := by simp -implicitDefEqProofs
@[simp] theorem app_set {α : Type} {L : List α} {o o' : α} : (L ++ [o]).set L.length o' = L ++ [o'] := by
  rw [List.set_append_right _ _ (Nat.le_refl _), Nat.sub_self]
  rfl
theorem wait_pe {ws : List Wish3} {free : Int} {L : List O} (hz : ws.length ≤ 6) (hw : ∀ p ∈ ws, WishOk p) (hf : 0 ≤ free)
    (k : ∀ L', Q (.tup (natW (runQ ws free (placesQ ws)).2)) (Hl L')) : Pe (Mi.waiting_order [.lst (ws.map enc3), .int free] (Hl L)) Q X := by
  unfold Mi.waiting_order Mi.waiting_order_b Mi.waiting_order_s1 Mi.waiting_order_s2 Mi.waiting_order_s3 Mi.waiting_order_s4
  simp -implicitDefEqProofs [show ¬ free < 0 by omega]
  refine any_pure (xs := ws) enc3 at_S (fun _ => true) (fun p => decide (min p.2.1 p.2.2 < 1)) (Same [2] _) .refl (by simp -implicitDefEqProofs) (by simp -implicitDefEqProofs) (fun x hx ρ' hJ => by
    have b := hw x hx
    have b1 := b.b1; have b2 := b.c1
    simp -implicitDefEqProofs [set_get, hJ, hJ.1, -getElem?_pos]) ?_
  rw [any_false (fun x hx => by
    have b := hw x hx
    have b1 := b.b1; have b2 := b.c1
    simp -implicitDefEqProofs; omega)]
  simp -implicitDefEqProofs
  refine col_pure (xs := ws.zipIdx) (fun p => .tup [.int (p.2 : Nat), enc3 p.1]) at_E (fun _ => true) (fun p => encQ (p.1.1, -p.1.2.1, p.2)) (Same [4, 2] _) .refl (by simp -implicitDefEqProofs) (by simp -implicitDefEqProofs) (fun x hx ρ' hJ => by simp -implicitDefEqProofs [set_get, hJ, hJ.1, -getElem?_pos]) ?_
  rw [filter_tt]
  have e : (ws.zipIdx.map fun p => encQ (p.1.1, -p.1.2.1, p.2)) = (ws.zipIdx.map fun p => (p.1.1, -p.1.2.1, p.2)).map encQ := by rw [List.map_map]; rfl
  rw [e]
  simp -implicitDefEqProofs only [sort_trq, oL_s]
  have e2 : srtE encQ (ws.zipIdx.map fun p => (p.1.1, -p.1.2.1, p.2)) = ordQ ws := rfl
  rw [e2]
  simp -implicitDefEqProofs
  refine ⟨by omega, ?_⟩
  refine for_lst (fun j ρ' s' => ρ'.length = 9 ∧ ρ'[0]? = some (some (.lst (ws.map enc3))) ∧ ρ'[6]? = some (some (.ref L.length)) ∧ ρ'[5]? = some (some (.int (runQ ws free ((placesQ ws).take j)).1)) ∧ s' = Hl (L ++ [.lst (natW (runQ ws free ((placesQ ws).take j)).2)])) (by simp -implicitDefEqProofs) ⟨rfl, rfl, rfl, rfl, rfl⟩ (fun j w hj ρ' s' ⟨g1, g2, g3, g4, g5⟩ => ?_) (fun ρ' s' ⟨g1, g2, g3, g4, g5⟩ => ?_)
  · subst g5
    rw [List.getElem?_map] at hj
    obtain ⟨t, ht, rfl⟩ := Option.map_eq_some_iff.mp hj
    have hpm : t.2.2 < ws.length := ordQ_mem (List.mem_of_getElem? ht)
    obtain ⟨q1, q2⟩ := wq_at hpm
    have hp : (placesQ ws)[j]? = some t.2.2 := by unfold placesQ; rw [List.getElem?_map, ht]; rfl
    have tk : (placesQ ws).take (j + 1) = (placesQ ws).take j ++ [t.2.2] := by rw [List.take_succ, hp]; rfl
    rw [tk, runQ_snoc]
    have rl := run_len (ws := ws) (free := free) ((placesQ ws).take j)
    have pl : ((placesQ ws).take j).length ≤ 6 := by
      rw [List.length_take]
      have : (placesQ ws).length = ws.length := by unfold placesQ; rw [List.length_map, ordQ_len]
      omega
    generalize runQ ws free ((placesQ ws).take j) = st at *
    have ix : atI (ws.map enc3) (t.2.2 : Int) = some (enc3 ws[t.2.2]) := by rw [atI_nat, List.getElem?_map, q1]; rfl
    unfold Mi.waiting_order_s4_b Mi.waiting_order_s5 stQ
    rw [q2]
    by_cases c : ws[t.2.2].2.2 ≤ st.1
    · simp -implicitDefEqProofs [set_get, g1, g2, g3, g4, ix, c, -getElem?_pos]
      omega
    · simp -implicitDefEqProofs [set_get, g1, g2, g3, g4, ix, c, -getElem?_pos]
  · subst g5
    have tk : (placesQ ws).take (ordQ ws).length = placesQ ws := by
      rw [List.take_of_length_le]
      unfold placesQ
      rw [List.length_map]
      exact Nat.le_refl _
    rw [List.length_map, tk]
    unfold Mi.waiting_order_s6
    simp -implicitDefEqProofs [g3]
    exact k _
theorem s36 {ws : List Wish3} {free : Int} {L : List O} (h33 : ρ[33]? = some (some (.lst (ws.map enc3)))) (h34 : ρ[34]? = some (some (.int free))) (h35 : ρ[35]? = some (some (.lst (natW (runQ ws free (placesQ ws)).2)))) (hz : ws.length ≤ 6) (hw : ∀ p ∈ ws, WishOk p) (hf : 0 ≤ free)
    (k : ∀ L', N ρ (Hl L')) : Ps (Mi.law_s36 ρ (Hl L)) N P := by
  unfold Mi.law_s36
  simp -implicitDefEqProofs [h33, h34]
  refine wait_pe hz hw hf fun L' => ?_
  simp -implicitDefEqProofs [h35]
  exact k L'
end
end RS.L14
set_option Elab.async false
set_option linter.all false
set_option maxRecDepth 100000
set_option maxHeartbeats 2000000
set_option autoImplicit false
namespace RS.L14
open PySem L2 K14
theorem body_go {ρ : Env} {D : Dice} {P : Pk} (hl : ρ.length = 44) (h1 : ρ[1]? = some (some sortsW)) (h2 : ρ[2]? = some (some (.ref 0))) : Ps (Mi.law_b ρ (Hl [dO D])) (fun _ _ => True) P := by
  unfold Mi.law_b
  simp -implicitDefEqProofs only [bSeq_p, Ps_then]
  refine s1 h2 fun b0 D1 hb hb2 => ?_
  refine s2 (by simp -implicitDefEqProofs [hl]) (by simp -implicitDefEqProofs [set_get, h2, -getElem?_pos]) (by simp -implicitDefEqProofs [set_get, hl, -getElem?_pos]) ⟨hb, hb2⟩ fun ρ2 xs n D2 sm st hn h3 => ?_
  have hl' : ρ2.length = 44 := by rw [sm.1]; simp -implicitDefEqProofs [hl]
  have h1' : ρ2[1]? = some (some sortsW) := by rw [sm.get 1]; simp -implicitDefEqProofs [set_get, h1, -getElem?_pos]
  have h2' : ρ2[2]? = some (some (.ref 0)) := by rw [sm.get 2]; simp -implicitDefEqProofs [set_get, h2, -getElem?_pos]
  clear sm hl h1 h2
  refine s4 h2' h3 fun f nv' D3 hf hf2 hv hv2 => ?_
  refine s5 (xs := xs) (f := f) (nv := nv') (by simp -implicitDefEqProofs [set_get, hl', -getElem?_pos]) (by simp -implicitDefEqProofs [set_get, h3, -getElem?_pos]) st hn hf hv ?_
  have g1 : ((ρ2.set 5 (some (ownW xs f nv'))).set 6 (some (.ref 1)))[1]? = some (some sortsW) := by simp -implicitDefEqProofs [set_get, h1', -getElem?_pos]
  have g2 : ((ρ2.set 5 (some (ownW xs f nv'))).set 6 (some (.ref 1)))[2]? = some (some (.ref 0)) := by simp -implicitDefEqProofs [set_get, h2', -getElem?_pos]
  have g3 : ((ρ2.set 5 (some (ownW xs f nv'))).set 6 (some (.ref 1)))[3]? = some (some (.lst (xs.map enc2))) := by simp -implicitDefEqProofs [set_get, h3, -getElem?_pos]
  have g5 : ((ρ2.set 5 (some (ownW xs f nv'))).set 6 (some (.ref 1)))[5]? = some (some (ownW xs f nv')) := by simp -implicitDefEqProofs [set_get, hl', -getElem?_pos]
  have g6 : ((ρ2.set 5 (some (ownW xs f nv'))).set 6 (some (.ref 1)))[6]? = some (some (.ref 1)) := by simp -implicitDefEqProofs [set_get, hl', -getElem?_pos]
  have gl : ((ρ2.set 5 (some (ownW xs f nv'))).set 6 (some (.ref 1))).length = 44 := by simp -implicitDefEqProofs [hl']
  generalize ((ρ2.set 5 (some (ownW xs f nv'))).set 6 (some (.ref 1))) = ρ5 at *
  clear h3 h1' h2' hl' ρ2
  refine s6 (r := []) gl g1 g2 g5 g6 st hn hf hv fun ρ6 D4 paid a sm h27 h18 hp hp2 ha ha2 => ?_
  have k1 := (sm.get 1).trans g1
  have k2 := (sm.get 2).trans g2
  have k3 := (sm.get 3).trans g3
  have k5 := (sm.get 5).trans g5
  have k6 := (sm.get 6).trans g6
  have kl := sm.1.trans gl
  clear sm g1 g2 g3 g5 g6 gl ρ5
  refine s11 kl k2 h18 fun pt ch D5 p1 p2 c1 c2 => ?_
  have hm : (0 : Int) ≤ max 0 a := by omega
  refine s12 (xs := xs) (pt := pt) (by simp -implicitDefEqProofs [kl]) (by simp -implicitDefEqProofs [set_get, k3, -getElem?_pos]) (by simp -implicitDefEqProofs [set_get, kl, -getElem?_pos]) st hn ?_
  refine s13 (xs := xs) (a := max 0 a) (by simp -implicitDefEqProofs [kl]) (by simp -implicitDefEqProofs [set_get, k3, -getElem?_pos]) (by simp -implicitDefEqProofs [set_get, kl, -getElem?_pos]) hm st hn ?_
  refine s14 (xs := xs) (f := f) (nv := nv') (paid := paid) (a := max 0 a) (ch := ch) (by simp -implicitDefEqProofs [set_get, k5, -getElem?_pos]) (by simp -implicitDefEqProofs [set_get, kl, -getElem?_pos]) (by simp -implicitDefEqProofs [set_get, h27, -getElem?_pos]) (by simp -implicitDefEqProofs [set_get, kl, -getElem?_pos]) st hn hp hp2 hf hv c1 c2 ?_
  refine s15 (r := []) (xs := xs) (f := f) (nv := nv') (paid := paid) (a := max 0 a) (ch := ch) (pt := pt) (by simp -implicitDefEqProofs [kl]) (by simp -implicitDefEqProofs [set_get, k3, -getElem?_pos]) (by simp -implicitDefEqProofs [set_get, k5, -getElem?_pos]) (by simp -implicitDefEqProofs [set_get, k6, -getElem?_pos]) (by simp -implicitDefEqProofs [set_get, kl, -getElem?_pos]) (by simp -implicitDefEqProofs [set_get, kl, -getElem?_pos]) (by simp -implicitDefEqProofs [set_get, h27, -getElem?_pos]) (by simp -implicitDefEqProofs [set_get, kl, -getElem?_pos]) (by simp -implicitDefEqProofs [set_get, kl, -getElem?_pos]) (by simp -implicitDefEqProofs [set_get, kl, -getElem?_pos]) st hn hp hp2 hm hf hv c1 c2 p1 p2 ?_
  refine s16 ?_
  generalize hρ : List.set (List.set (List.set (List.set (List.set (List.set (List.set (List.set ρ6 16 _) 17 _) 18 _) 7 _) 8 _) 9 _) 19 _) 20 _ = ρ7
  have gl : ρ7.length = 44 := by rw [← hρ]; simp -implicitDefEqProofs [kl]
  have g1 : ρ7[1]? = some (some sortsW) := by rw [← hρ]; simp -implicitDefEqProofs [set_get, k1, -getElem?_pos]
  have g2 : ρ7[2]? = some (some (.ref 0)) := by rw [← hρ]; simp -implicitDefEqProofs [set_get, k2, -getElem?_pos]
  have g19 : ρ7[19]? = some (some (.ref 2)) := by rw [← hρ]; simp -implicitDefEqProofs [set_get, kl, -getElem?_pos]
  have g20 : ρ7[20]? = some (some (.lst [])) := by rw [← hρ]; simp -implicitDefEqProofs [set_get, kl, -getElem?_pos]
  clear hρ k1 k2 k3 k5 k6 kl h27 h18
  refine s17 gl g1 g2 g19 g20 fun ρ8 D6 rows sm h20 hz hr => ?_
  have k1 := (sm.get 1).trans g1
  have k2 := (sm.get 2).trans g2
  have k19 := (sm.get 19).trans g19
  have kl := sm.1.trans gl
  clear sm g1 g2 g19 g20 gl
  have hn' : (nv rows).length ≤ 20 := Nat.le_trans nv_len hz
  refine s22 kl h20 hz ?_
  refine s23 (l := nv rows) (by simp -implicitDefEqProofs [kl]) (by simp -implicitDefEqProofs [set_get, k2, -getElem?_pos]) (by simp -implicitDefEqProofs [set_get, kl, -getElem?_pos]) hn' fun bk le D7 b1 b2 l1 l2 => ?_
  refine s24 (l := nv rows) (le := le) (by simp -implicitDefEqProofs [kl]) (by simp -implicitDefEqProofs [set_get, kl, -getElem?_pos]) (by simp -implicitDefEqProofs [set_get, kl, -getElem?_pos]) (by simp -implicitDefEqProofs [set_get, kl, -getElem?_pos]) hn' ?_
  refine s25 (rows := rows) (bk := bk) (le := le) (by simp -implicitDefEqProofs [kl]) (by simp -implicitDefEqProofs [set_get, k1, -getElem?_pos]) (by simp -implicitDefEqProofs [set_get, k19, -getElem?_pos]) (by simp -implicitDefEqProofs [set_get, h20, -getElem?_pos]) (by simp -implicitDefEqProofs [set_get, kl, -getElem?_pos]) (by simp -implicitDefEqProofs [set_get, kl, -getElem?_pos]) (by simp -implicitDefEqProofs [set_get, kl, -getElem?_pos]) (by simp -implicitDefEqProofs [set_get, kl, -getElem?_pos]) hz hr b1 b2 l1 l2 fun r' => ?_
  generalize hρ : List.set (List.set (List.set (List.set (List.set ρ8 11 _) 22 _) 23 _) 24 _) 12 _ = ρ9
  have gl : ρ9.length = 44 := by rw [← hρ]; simp -implicitDefEqProofs [kl]
  have g2 : ρ9[2]? = some (some (.ref 0)) := by rw [← hρ]; simp -implicitDefEqProofs [set_get, k2, -getElem?_pos]
  clear hρ k1 k2 k19 kl h20
  refine s26 g2 fun o w p fe mo pa ms dy D8 a1 a2 b1 b2 c1 c2 d1 d2 e1 e2 f1 f2 m1 m2 y1 y2 => ?_
  refine s27 (b := w) (c := p) (d := fe) (by simp -implicitDefEqProofs [set_get, gl, -getElem?_pos]) (by simp -implicitDefEqProofs [set_get, gl, -getElem?_pos]) (by simp -implicitDefEqProofs [set_get, gl, -getElem?_pos]) ?_
  refine s28 (a := o) (b := w) (c := p) (d := fe) (by simp -implicitDefEqProofs [set_get, gl, -getElem?_pos]) (by simp -implicitDefEqProofs [set_get, gl, -getElem?_pos]) (by simp -implicitDefEqProofs [set_get, gl, -getElem?_pos]) (by simp -implicitDefEqProofs [set_get, gl, -getElem?_pos]) (by simp -implicitDefEqProofs [set_get, gl, -getElem?_pos]) a1 b1 c1 d1 ?_
  refine s29 (e := mo) (f := pa) (g := ms) (h := dy) (by simp -implicitDefEqProofs [set_get, gl, -getElem?_pos]) (by simp -implicitDefEqProofs [set_get, gl, -getElem?_pos]) (by simp -implicitDefEqProofs [set_get, gl, -getElem?_pos]) (by simp -implicitDefEqProofs [set_get, gl, -getElem?_pos]) e1 e2 f1 f2 m1 m2 ?_
  refine s30 (by simp -implicitDefEqProofs [gl]) (by simp -implicitDefEqProofs [set_get, g2, -getElem?_pos]) fun ws free D9 hws hw hf1 hf2 => ?_
  refine s31 (v := .int free) (by simp -implicitDefEqProofs [set_get, gl, -getElem?_pos]) ?_
  refine s32 (ws := ws) (free := free) (by simp -implicitDefEqProofs [gl]) (by simp -implicitDefEqProofs [set_get, gl, -getElem?_pos]) (by simp -implicitDefEqProofs [set_get, gl, -getElem?_pos]) (by simp -implicitDefEqProofs [set_get, gl, -getElem?_pos]) hws hw fun ρ10 sm h35 => ?_
  refine s36 (ws := ws) (free := free) (by rw [sm.get 33]; simp -implicitDefEqProofs [set_get, gl, -getElem?_pos]) (by rw [sm.get 34]; simp -implicitDefEqProofs [set_get, gl, -getElem?_pos]) h35 hws hw hf1 fun L' => ?_
  trivial
theorem plain0 : isT (Mi._law_plain [] S0) = true := by kernel_rfl
theorem plain (ns : List Int) : LawTrue Mi.law ns :=
  law_trueP (b := Mi.law_b) (me := Mi.law_p) (w0 := sortsW) (j0 := 1) (jd := 2) (n := 44) (by rfl) plain0 (fun D => body_go rfl rfl rfl) ns
end RS.L14
set_option Elab.async false
set_option linter.all false
set_option maxRecDepth 100000
set_option maxHeartbeats 0
set_option autoImplicit false
namespace K14
open PySem PySem.Spec PyProof.Rows L2 RS
/-! ### the end -/
def d__law_told : He.DefD := ⟨("_law_told", none), "_law_told", "_law_told", defArgs s__law_told, defBody s__law_told, defScope s__law_told, [], []⟩
def d_change_price : He.DefD := ⟨("change_price", none), "change_price", "change_price", defArgs s_change_price, defBody s_change_price, defScope s_change_price, [], []⟩
def d_voucher_for : He.DefD := ⟨("voucher_for", none), "voucher_for", "voucher_for", defArgs s_voucher_for, defBody s_voucher_for, defScope s_voucher_for, [], []⟩
def d_waiting_order : He.DefD := ⟨("waiting_order", none), "waiting_order", "waiting_order", defArgs s_waiting_order, defBody s_waiting_order, defScope s_waiting_order, [], []⟩
def d__law_dice : He.DefD := ⟨("_law_dice", none), "_law_dice", "_law_dice", defArgs s__law_dice, defBody s__law_dice, defScope s__law_dice, [], []⟩
def d__law_roll : He.DefD := ⟨("_law_roll", none), "_law_roll", "_law_roll", defArgs s__law_roll, defBody s__law_roll, defScope s__law_roll, [], []⟩
def d__law_rounds : He.DefD := ⟨("_law_rounds", none), "_law_rounds", "_law_rounds", defArgs s__law_rounds, defBody s__law_rounds, defScope s__law_rounds, [], []⟩
def d__law_part : He.DefD := ⟨("_law_part", none), "_law_part", "_law_part", defArgs s__law_part, defBody s__law_part, defScope s__law_part, [], []⟩
def d__law_back : He.DefD := ⟨("_law_back", none), "_law_back", "_law_back", defArgs s__law_back, defBody s__law_back, defScope s__law_back, [], []⟩
def d_CancelBook___init__ : He.DefD := ⟨("CancelBook", some "__init__"), "__init__", "CancelBook.__init__", defArgs s_CancelBook___init__, defBody s_CancelBook___init__, defScope s_CancelBook___init__, [], []⟩
def d_CancelBook_counts_of : He.DefD := ⟨("CancelBook", some "counts_of"), "counts_of", "CancelBook.counts_of", defArgs s_CancelBook_counts_of, defBody s_CancelBook_counts_of, defScope s_CancelBook_counts_of, [], []⟩
def d_CancelBook_kept_of_all : He.DefD := ⟨("CancelBook", some "kept_of_all"), "kept_of_all", "CancelBook.kept_of_all", defArgs s_CancelBook_kept_of_all, defBody s_CancelBook_kept_of_all, defScope s_CancelBook_kept_of_all, [], []⟩
def d_CancelBook_never_part : He.DefD := ⟨("CancelBook", some "never_part"), "never_part", "CancelBook.never_part", defArgs s_CancelBook_never_part, defBody s_CancelBook_never_part, defScope s_CancelBook_never_part, [], []⟩
def d_CancelBook_note_one : He.DefD := ⟨("CancelBook", some "note_one"), "note_one", "CancelBook.note_one", defArgs s_CancelBook_note_one, defBody s_CancelBook_note_one, defScope s_CancelBook_note_one, [], []⟩
def d_CancelBook_worst_ones : He.DefD := ⟨("CancelBook", some "worst_ones"), "worst_ones", "CancelBook.worst_ones", defArgs s_CancelBook_worst_ones, defBody s_CancelBook_worst_ones, defScope s_CancelBook_worst_ones, [], []⟩
def d_CancelRules___init__ : He.DefD := ⟨("CancelRules", some "__init__"), "__init__", "CancelRules.__init__", defArgs s_CancelRules___init__, defBody s_CancelRules___init__, defScope s_CancelRules___init__, [], []⟩
def d_CancelRules_part_ahead : He.DefD := ⟨("CancelRules", some "part_ahead"), "part_ahead", "CancelRules.part_ahead", defArgs s_CancelRules_part_ahead, defBody s_CancelRules_part_ahead, defScope s_CancelRules_part_ahead, [], []⟩
def d_CancelRules_given_back : He.DefD := ⟨("CancelRules", some "given_back"), "given_back", "CancelRules.given_back", defArgs s_CancelRules_given_back, defBody s_CancelRules_given_back, defScope s_CancelRules_given_back, [], []⟩
def d_CancelRules_best_moment : He.DefD := ⟨("CancelRules", some "best_moment"), "best_moment", "CancelRules.best_moment", defArgs s_CancelRules_best_moment, defBody s_CancelRules_best_moment, defScope s_CancelRules_best_moment, [], []⟩
def d_CancelRules_last_for : He.DefD := ⟨("CancelRules", some "last_for"), "last_for", "CancelRules.last_for", defArgs s_CancelRules_last_for, defBody s_CancelRules_last_for, defScope s_CancelRules_last_for, [], []⟩
def d_CancelRules_rule_lines : He.DefD := ⟨("CancelRules", some "rule_lines"), "rule_lines", "CancelRules.rule_lines", defArgs s_CancelRules_rule_lines, defBody s_CancelRules_rule_lines, defScope s_CancelRules_rule_lines, [], []⟩
def d__law_plain : He.DefD := ⟨("_law_plain", none), "_law_plain", "_law_plain", defArgs s__law_plain, defBody s__law_plain, defScope s__law_plain, [], []⟩
def d_law : He.DefD := ⟨("law", none), "law", "law", defArgs s_law, defBody s_law, defScope s_law, [], []⟩
def fn : List He.DefD := [d__law_told, d_change_price, d_voucher_for, d_waiting_order, d__law_dice, d__law_roll, d__law_rounds, d__law_part, d__law_back, d_CancelBook___init__, d_CancelBook_counts_of, d_CancelBook_kept_of_all, d_CancelBook_never_part, d_CancelBook_note_one, d_CancelBook_worst_ones, d_CancelRules___init__, d_CancelRules_part_ahead, d_CancelRules_given_back, d_CancelRules_best_moment, d_CancelRules_last_for, d_CancelRules_rule_lines, d__law_plain, d_law]
def tf : TfL := [(("waiting_order", none), "waiting_order.<locals>.<genexpr>"), (("CancelBook", some "kept_of_all"), "CancelBook.kept_of_all.<locals>.<genexpr>"), (("CancelBook", some "worst_ones"), "CancelBook.worst_ones.<locals>.<genexpr>"), (("CancelRules", some "__init__"), "CancelRules.__init__.<locals>.<genexpr>"), (("_law_plain", none), "_law_plain.<locals>.<lambda>"), (("law", none), "law.<locals>.<lambda>")]
def gk : List (Str × W) := [("SORTS_OF_CANCEL", (.tup [(.str "one"), (.str "house"), (.str "never"), (.str "force")]))]
def fa : List He.Fa := ([.glo "_law_told", .glo "CancelError", .exm "CancelError" "CancelError" true, .glo "change_price", .glo "voucher_for", .glo "waiting_order", .glo "_law_dice", .glo "_law_roll", .glo "_law_rounds", .glo "_law_part", .glo "_law_back", .mkr "CancelBook", .meth "CancelBook" "counts_of", .meth "CancelBook" "kept_of_all", .meth "CancelBook" "never_part", .meth "CancelBook" "note_one", .meth "CancelBook" "worst_ones", .mkr "CancelRules", .meth "CancelRules" "part_ahead", .meth "CancelRules" "given_back", .meth "CancelRules" "best_moment", .meth "CancelRules" "last_for", .meth "CancelRules" "rule_lines", .glo "_law_plain", .glo "law", .glo "CancelBook", .cls "CancelBook", .glo "CancelRules", .cls "CancelRules", .free "abs"] : List He.Fa) ++ ([.free "any", .free "dict", .free "enumerate", .free "int", .free "len", .free "list", .free "max", .free "min", .free "range", .free "sorted", .free "str", .free "sum", .free "tuple", .free "zip", .exc "CancelError", .noat "CancelRules" "fee", .noat "CancelRules" "never", .noat "CancelBook" "rows", .noat "CancelRules" "steps"] : List He.Fa)
def ex (K : PySem.W.Frag) : Bool := tfEx tf K && gksB K gk
def ad (K : PySem.W.Frag) : Ad where
  f__law_told := He.fAd K ("_law_told", none)
  d__law_told := fdOf K ("_law_told", none)
  C_CancelError := He.ga K "CancelError"
  f_change_price := He.fAd K ("change_price", none)
  d_change_price := fdOf K ("change_price", none)
  f_voucher_for := He.fAd K ("voucher_for", none)
  d_voucher_for := fdOf K ("voucher_for", none)
  f_waiting_order := He.fAd K ("waiting_order", none)
  d_waiting_order := fdOf K ("waiting_order", none)
  c_waiting_order := (He.cT K ("waiting_order", none)).1
  t_waiting_order := (He.cT K ("waiting_order", none)).2
  f__law_dice := He.fAd K ("_law_dice", none)
  d__law_dice := fdOf K ("_law_dice", none)
  f__law_roll := He.fAd K ("_law_roll", none)
  d__law_roll := fdOf K ("_law_roll", none)
  f__law_rounds := He.fAd K ("_law_rounds", none)
  d__law_rounds := fdOf K ("_law_rounds", none)
  f__law_part := He.fAd K ("_law_part", none)
  d__law_part := fdOf K ("_law_part", none)
  f__law_back := He.fAd K ("_law_back", none)
  d__law_back := fdOf K ("_law_back", none)
  f_CancelBook___init__ := He.fAd K ("CancelBook", some "__init__")
  d_CancelBook___init__ := fdOf K ("CancelBook", some "__init__")
  f_CancelBook_counts_of := He.fAd K ("CancelBook", some "counts_of")
  d_CancelBook_counts_of := fdOf K ("CancelBook", some "counts_of")
  f_CancelBook_kept_of_all := He.fAd K ("CancelBook", some "kept_of_all")
  d_CancelBook_kept_of_all := fdOf K ("CancelBook", some "kept_of_all")
  c_CancelBook_kept_of_all := (He.cT K ("CancelBook", some "kept_of_all")).1
  t_CancelBook_kept_of_all := (He.cT K ("CancelBook", some "kept_of_all")).2
  f_CancelBook_never_part := He.fAd K ("CancelBook", some "never_part")
  d_CancelBook_never_part := fdOf K ("CancelBook", some "never_part")
  f_CancelBook_note_one := He.fAd K ("CancelBook", some "note_one")
  d_CancelBook_note_one := fdOf K ("CancelBook", some "note_one")
  f_CancelBook_worst_ones := He.fAd K ("CancelBook", some "worst_ones")
  d_CancelBook_worst_ones := fdOf K ("CancelBook", some "worst_ones")
  c_CancelBook_worst_ones := (He.cT K ("CancelBook", some "worst_ones")).1
  t_CancelBook_worst_ones := (He.cT K ("CancelBook", some "worst_ones")).2
  f_CancelRules___init__ := He.fAd K ("CancelRules", some "__init__")
  d_CancelRules___init__ := fdOf K ("CancelRules", some "__init__")
  c_CancelRules___init__ := (He.cT K ("CancelRules", some "__init__")).1
  t_CancelRules___init__ := (He.cT K ("CancelRules", some "__init__")).2
  f_CancelRules_part_ahead := He.fAd K ("CancelRules", some "part_ahead")
  d_CancelRules_part_ahead := fdOf K ("CancelRules", some "part_ahead")
  f_CancelRules_given_back := He.fAd K ("CancelRules", some "given_back")
  d_CancelRules_given_back := fdOf K ("CancelRules", some "given_back")
  f_CancelRules_best_moment := He.fAd K ("CancelRules", some "best_moment")
  d_CancelRules_best_moment := fdOf K ("CancelRules", some "best_moment")
  f_CancelRules_last_for := He.fAd K ("CancelRules", some "last_for")
  d_CancelRules_last_for := fdOf K ("CancelRules", some "last_for")
  f_CancelRules_rule_lines := He.fAd K ("CancelRules", some "rule_lines")
  d_CancelRules_rule_lines := fdOf K ("CancelRules", some "rule_lines")
  f__law_plain := He.fAd K ("_law_plain", none)
  d__law_plain := fdOf K ("_law_plain", none)
  c__law_plain := (He.cT K ("_law_plain", none)).1
  t__law_plain := (He.cT K ("_law_plain", none)).2
  f_law := He.fAd K ("law", none)
  d_law := fdOf K ("law", none)
  c_law := (He.cT K ("law", none)).1
  t_law := (He.cT K ("law", none)).2
  C_CancelBook := He.ga K "CancelBook"
  C_CancelRules := He.ga K "CancelRules"
theorem txt {w : World} {K : PySem.W.Frag} {h : Heap} {mg : Str → Option Value} {base : Heap} (X : K.In h) (G : h.Ns mainGlobals mg) (c : He.SaysX fa fn [] (tf.map (·.1)) ex w h K) (hb : ∀ p ∈ tfC tf K, LamX.TabB base mg p.1 p.2) : Txt (tfT tf K) K mg base (ad K) where
  mg__law_told := (He.glo_ok X G (c.t.d.fact 0 (f := .glo "_law_told") rfl))
  F__law_told := fun_of (p := ("_law_told", none)) (c.t.d.def_ 0 (d := d__law_told) rfl)
  mg_CancelError := (He.glo_ok X G (c.t.d.fact 1 (f := .glo "CancelError") rfl))
  ee_CancelError := He.exm_ok (c.t.d.fact 2 (f := .exm "CancelError" "CancelError" true) rfl)
  mg_change_price := (He.glo_ok X G (c.t.d.fact 3 (f := .glo "change_price") rfl))
  F_change_price := fun_of (p := ("change_price", none)) (c.t.d.def_ 1 (d := d_change_price) rfl)
  mg_voucher_for := (He.glo_ok X G (c.t.d.fact 4 (f := .glo "voucher_for") rfl))
  F_voucher_for := fun_of (p := ("voucher_for", none)) (c.t.d.def_ 2 (d := d_voucher_for) rfl)
  mg_waiting_order := (He.glo_ok X G (c.t.d.fact 5 (f := .glo "waiting_order") rfl))
  F_waiting_order := funC_of (p := ("waiting_order", none)) (c.t.d.def_ 3 (d := d_waiting_order) rfl)
  t_waiting_order := tab_of (He.ba c.more).1 hb 0 (p := ("waiting_order", none))
  mg__law_dice := (He.glo_ok X G (c.t.d.fact 6 (f := .glo "_law_dice") rfl))
  F__law_dice := fun_of (p := ("_law_dice", none)) (c.t.d.def_ 4 (d := d__law_dice) rfl)
  mg__law_roll := (He.glo_ok X G (c.t.d.fact 7 (f := .glo "_law_roll") rfl))
  F__law_roll := fun_of (p := ("_law_roll", none)) (c.t.d.def_ 5 (d := d__law_roll) rfl)
  mg__law_rounds := (He.glo_ok X G (c.t.d.fact 8 (f := .glo "_law_rounds") rfl))
  F__law_rounds := fun_of (p := ("_law_rounds", none)) (c.t.d.def_ 6 (d := d__law_rounds) rfl)
  mg__law_part := (He.glo_ok X G (c.t.d.fact 9 (f := .glo "_law_part") rfl))
  F__law_part := fun_of (p := ("_law_part", none)) (c.t.d.def_ 7 (d := d__law_part) rfl)
  mg__law_back := (He.glo_ok X G (c.t.d.fact 10 (f := .glo "_law_back") rfl))
  F__law_back := fun_of (p := ("_law_back", none)) (c.t.d.def_ 8 (d := d__law_back) rfl)
  F_CancelBook___init__ := fun_of (p := ("CancelBook", some "__init__")) (c.t.d.def_ 9 (d := d_CancelBook___init__) rfl)
  mk_CancelBook := He.mkr_ok (c.t.d.fact 11 (f := .mkr "CancelBook") rfl)
  F_CancelBook_counts_of := fun_of (p := ("CancelBook", some "counts_of")) (c.t.d.def_ 10 (d := d_CancelBook_counts_of) rfl)
  me_CancelBook_counts_of := He.meth_ok (c.t.d.fact 12 (f := .meth "CancelBook" "counts_of") rfl)
  F_CancelBook_kept_of_all := funC_of (p := ("CancelBook", some "kept_of_all")) (c.t.d.def_ 11 (d := d_CancelBook_kept_of_all) rfl)
  t_CancelBook_kept_of_all := tab_of (He.ba c.more).1 hb 1 (p := ("CancelBook", some "kept_of_all"))
  me_CancelBook_kept_of_all := He.meth_ok (c.t.d.fact 13 (f := .meth "CancelBook" "kept_of_all") rfl)
  F_CancelBook_never_part := fun_of (p := ("CancelBook", some "never_part")) (c.t.d.def_ 12 (d := d_CancelBook_never_part) rfl)
  me_CancelBook_never_part := He.meth_ok (c.t.d.fact 14 (f := .meth "CancelBook" "never_part") rfl)
  F_CancelBook_note_one := fun_of (p := ("CancelBook", some "note_one")) (c.t.d.def_ 13 (d := d_CancelBook_note_one) rfl)
  me_CancelBook_note_one := He.meth_ok (c.t.d.fact 15 (f := .meth "CancelBook" "note_one") rfl)
  F_CancelBook_worst_ones := funC_of (p := ("CancelBook", some "worst_ones")) (c.t.d.def_ 14 (d := d_CancelBook_worst_ones) rfl)
  t_CancelBook_worst_ones := tab_of (He.ba c.more).1 hb 2 (p := ("CancelBook", some "worst_ones"))
  me_CancelBook_worst_ones := He.meth_ok (c.t.d.fact 16 (f := .meth "CancelBook" "worst_ones") rfl)
  F_CancelRules___init__ := funC_of (p := ("CancelRules", some "__init__")) (c.t.d.def_ 15 (d := d_CancelRules___init__) rfl)
  t_CancelRules___init__ := tab_of (He.ba c.more).1 hb 3 (p := ("CancelRules", some "__init__"))
  mk_CancelRules := He.mkr_ok (c.t.d.fact 17 (f := .mkr "CancelRules") rfl)
  F_CancelRules_part_ahead := fun_of (p := ("CancelRules", some "part_ahead")) (c.t.d.def_ 16 (d := d_CancelRules_part_ahead) rfl)
  me_CancelRules_part_ahead := He.meth_ok (c.t.d.fact 18 (f := .meth "CancelRules" "part_ahead") rfl)
  F_CancelRules_given_back := fun_of (p := ("CancelRules", some "given_back")) (c.t.d.def_ 17 (d := d_CancelRules_given_back) rfl)
  me_CancelRules_given_back := He.meth_ok (c.t.d.fact 19 (f := .meth "CancelRules" "given_back") rfl)
  F_CancelRules_best_moment := fun_of (p := ("CancelRules", some "best_moment")) (c.t.d.def_ 18 (d := d_CancelRules_best_moment) rfl)
  me_CancelRules_best_moment := He.meth_ok (c.t.d.fact 20 (f := .meth "CancelRules" "best_moment") rfl)
  F_CancelRules_last_for := fun_of (p := ("CancelRules", some "last_for")) (c.t.d.def_ 19 (d := d_CancelRules_last_for) rfl)
  me_CancelRules_last_for := He.meth_ok (c.t.d.fact 21 (f := .meth "CancelRules" "last_for") rfl)
  F_CancelRules_rule_lines := fun_of (p := ("CancelRules", some "rule_lines")) (c.t.d.def_ 20 (d := d_CancelRules_rule_lines) rfl)
  me_CancelRules_rule_lines := He.meth_ok (c.t.d.fact 22 (f := .meth "CancelRules" "rule_lines") rfl)
  mg__law_plain := (He.glo_ok X G (c.t.d.fact 23 (f := .glo "_law_plain") rfl))
  F__law_plain := funC_of (p := ("_law_plain", none)) (c.t.d.def_ 21 (d := d__law_plain) rfl)
  t__law_plain := tab_of (He.ba c.more).1 hb 4 (p := ("_law_plain", none))
  mg_law := (He.glo_ok X G (c.t.d.fact 24 (f := .glo "law") rfl))
  F_law := funC_of (p := ("law", none)) (c.t.d.def_ 22 (d := d_law) rfl)
  t_law := tab_of (He.ba c.more).1 hb 5 (p := ("law", none))
  mg_CancelBook := (He.glo_ok X G (c.t.d.fact 25 (f := .glo "CancelBook") rfl))
  cl_CancelBook := He.cls_ok (c.t.d.fact 26 (f := .cls "CancelBook") rfl)
  mg_CancelRules := (He.glo_ok X G (c.t.d.fact 27 (f := .glo "CancelRules") rfl))
  cl_CancelRules := He.cls_ok (c.t.d.fact 28 (f := .cls "CancelRules") rfl)
  n_abs := He.free_ok X G (c.t.d.fact 29 (f := .free "abs") rfl)
  n_any := He.free_ok X G (c.t.d.fact 30 (f := .free "any") rfl)
  n_dict := He.free_ok X G (c.t.d.fact 31 (f := .free "dict") rfl)
  n_enumerate := He.free_ok X G (c.t.d.fact 32 (f := .free "enumerate") rfl)
  n_int := He.free_ok X G (c.t.d.fact 33 (f := .free "int") rfl)
  n_len := He.free_ok X G (c.t.d.fact 34 (f := .free "len") rfl)
  n_list := He.free_ok X G (c.t.d.fact 35 (f := .free "list") rfl)
  n_max := He.free_ok X G (c.t.d.fact 36 (f := .free "max") rfl)
  n_min := He.free_ok X G (c.t.d.fact 37 (f := .free "min") rfl)
  n_range := He.free_ok X G (c.t.d.fact 38 (f := .free "range") rfl)
  n_sorted := He.free_ok X G (c.t.d.fact 39 (f := .free "sorted") rfl)
  n_str := He.free_ok X G (c.t.d.fact 40 (f := .free "str") rfl)
  n_sum := He.free_ok X G (c.t.d.fact 41 (f := .free "sum") rfl)
  n_tuple := He.free_ok X G (c.t.d.fact 42 (f := .free "tuple") rfl)
  n_zip := He.free_ok X G (c.t.d.fact 43 (f := .free "zip") rfl)
  k_SORTS_OF_CANCEL := gks_of X G (He.ba c.more).2 0
  x_CancelError := err_of (He.glo_ok X G (c.t.d.fact 1 (f := .glo "CancelError") rfl)) (c.t.d.fact 44 (f := .exc "CancelError") rfl)
  fl_fee := (fld_cons (He.glo_ok X G (c.t.d.fact 27 (f := .glo "CancelRules") rfl)) (c.t.d.fact 28 (f := .cls "CancelRules") rfl) (c.t.d.fact 45 (f := .noat "CancelRules" "fee") rfl) fld_nil)
  fl_never := (fld_cons (He.glo_ok X G (c.t.d.fact 27 (f := .glo "CancelRules") rfl)) (c.t.d.fact 28 (f := .cls "CancelRules") rfl) (c.t.d.fact 46 (f := .noat "CancelRules" "never") rfl) fld_nil)
  fl_rows := (fld_cons (He.glo_ok X G (c.t.d.fact 25 (f := .glo "CancelBook") rfl)) (c.t.d.fact 26 (f := .cls "CancelBook") rfl) (c.t.d.fact 47 (f := .noat "CancelBook" "rows") rfl) fld_nil)
  fl_steps := (fld_cons (He.glo_ok X G (c.t.d.fact 27 (f := .glo "CancelRules") rfl)) (c.t.d.fact 28 (f := .cls "CancelRules") rfl) (c.t.d.fact 48 (f := .noat "CancelRules" "steps") rfl) fld_nil)
abbrev R : PySem.W.OpenRow := PySem.W.OpenLaw.row PySem.Challenge.rw_rentstack_k14_wishes_taken_back
def loose : List Str := (["RentFault", "CancelError", "SORTS_OF_CANCEL", "CancelRules", "CancelBook", "change_price", "voucher_for", "waiting_order", "_law_dice", "_law_roll", "_law_rounds", "_law_told", "_law_part", "_law_back", "_law_plain"] : List Str)
abbrev hk : PySem.W.Hook := He.hookX 5 fa fn [] (tf.map (·.1)) ex
def ob (s : PySem.W.SharedT) : He.AlX := He.obsX 5 fa fn [] (tf.map (·.1)) ex (HandSHeadRun.getT s)
theorem ob_eq (s : PySem.W.SharedT) : ob s = hk.obs s.abs := He.obsX_eq (HandSHeadRun.getT_eq s)
theorem run (w : World) : HandSHeadRun.RunEq R (PySem.W.view R.prog [18]) hk ob 3000 loose w := by
  intro os
  kernel_rfl
theorem law_at (plain : ∀ ns : List Int, LawTrue Mi.law ns) (w : World) {mg : Str → Option Value} {fa' : Addr} {h : Heap} (Y : ∃ K : PySem.W.Frag, K.In h ∧ He.SaysX fa fn [] (tf.map (·.1)) ex w h K) (G : h.Ns mainGlobals mg) (hfa : mg ("law" : Str) = some (.ref fa')) :
    ∃ K : PySem.W.Frag, K.In h ∧ LamX.LawAtS PySem.Challenge.rw_rentstack_k14_wishes_taken_back w K (L2.CX PySem.Challenge.pw_rentstack_k14_wishes_taken_back w) 11 63 "script" mg fa' h := by
  obtain ⟨K, X, c⟩ := Y
  have e := hfa.symm.trans (He.glo_ok X G (c.t.d.fact 24 (f := .glo "law") rfl))
  cases e
  have tt : ∀ p ∈ tfC tf K, ∃ d ∈ tf.map (·.1), p = He.cT K d := fun p hp => by
    obtain ⟨d, hd, e⟩ := List.mem_map.mp hp
    exact ⟨d.1, List.mem_map.mpr ⟨d, hd, rfl⟩, e.symm⟩
  have Fl : FunC K "law" "law" s_law (He.fAd K ("law", none)) (fdOf K ("law", none)) (He.cT K ("law", none)).1 := funC_of (p := ("law", none)) (c.t.d.def_ 22 (d := d_law) rfl)
  have bl := fun_bindsA (ps := ["script"]) Fl.fun_ fun _ _ _ _ _ _ us hl => match us, hl with | [_], _ => rfl
  refine ⟨K, X, fdOf K ("law", none), tfC tf K, spLawP (tfT tf K) K mg Mi.law, fun p hp => ?_, fun p hp => ?_, fun p hp => ?_, fun s v => bl s [v] rfl, fun H a ns _ _ hT hS => sp_endP (tf_tabs hT) hS (plain ns), fun base _ _ hb => ok_law (txt X G c hb)⟩
  · obtain ⟨d, hd, rfl⟩ := tt p hp
    exact c.empty d hd
  · obtain ⟨d, hd, rfl⟩ := tt p hp
    exact c.out d hd
  · obtain ⟨d, hd, rfl⟩ := tt p hp
    exact PySem.W.codeHd_of_K X (c.hd d hd)
end K14
open PySem PySem.W PySem.Calls PyProof.Rows
theorem K14.holds (plain : ∀ ns : List Int, RS.LawTrue K14.Mi.law ns) : PySem.Challenge.rw_rentstack_k14_wishes_taken_back.Holds := by
  w_on; o_law
  refine HandSHeadRun.head_any (r := OpenLaw.row PySem.Challenge.rw_rentstack_k14_wishes_taken_back) (q := view (OpenLaw.row PySem.Challenge.rw_rentstack_k14_wishes_taken_back).prog [18]) (H := K14.hk) (ob := K14.ob) (M := 3000) (loose := K14.loose) (d := HandSHeadRun.topDef (OpenLaw.row PySem.Challenge.rw_rentstack_k14_wishes_taken_back).prog 18) (kwd := []) K14.ob_eq
    (by kernel_rfl) (fun s => by kernel_rfl) K14.run (by kernel_rfl) (by kernel_rfl) (by kernel_rfl) (by rfl) (by first | assumption | decide +kernel) (by decide +kernel) ⟨rfl, rfl, rfl, rfl, rfl, by decide +kernel⟩ ?hw ?hc
  case hw => w_witness2
  case hc =>
    refine LamX.walk_ofTsE (l := PySem.Challenge.rw_rentstack_k14_wishes_taken_back) (n := 63) (k := 11) (x := "script") (CX := fun w => L2.CX PySem.Challenge.pw_rentstack_k14_wishes_taken_back w) rfl (by decide) (by kernel_rfl) ⟨rfl, by decide, by decide⟩ (fun w mg fa h Y G hmg0 => ?F) (fun _ _ _ _ _ z => RS.cx_no z)
    have hmg : mg ("law" : PySem.Str) = some (.ref fa) := by
      have e : (HandSHeadRun.topDef (OpenLaw.row PySem.Challenge.rw_rentstack_k14_wishes_taken_back).prog 18).name = ("law" : PySem.Str) := by kernel_rfl
      rw [← e]
      exact hmg0
    exact K14.law_at plain w Y G hmg
namespace K14
end K14
set_option maxRecDepth 100000
set_option maxHeartbeats 0
theorem PySem.Challenge.cw_rentstack_k14_wishes_taken_back_holds : PySem.Challenge.rw_rentstack_k14_wishes_taken_back.Holds := by
  exact K14.holds RS.L14.plain
