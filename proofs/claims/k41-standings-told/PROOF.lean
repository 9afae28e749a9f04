import PyProof.Rows.All
import Wide.All
import OpenK.AllK
import Wide.FinOn
import KE.KStateDown
import Lean
import HandS.Base
import HandS.Call
import HandS.Ends
import HandS.More
import HandS.Words
import HandS.WordsExc
import HandS.Defaults
import HandS.Head0
import HandS.Head1
import HandS.Head2
import HandS.HeadEnd
import HandS.HeadHook1
import HandS.HeadHook2
import HandS.ForMost
import HandS.ForExc
import HandS.IsInst
import HandS.TupMul
import HandS.TupAny
import PySem.Challenge.RW_namedlater_k41_standings_told
set_option Elab.async false
set_option linter.all false
set_option maxRecDepth 100000
set_option maxHeartbeats 0
section
namespace NL
open PySem PySem.Spec PyProof.Rows L2

/-! ### values, objects, heaps of our own -/
inductive Va where
  | non | bl (b : Bool) | int (i : Int) | str (s : List Nat) | tup (l : List Va) | ref (a : Nat) | fn (i : Nat) | cl (i : Nat)
  /-- a list that nobody changes (the script) -/
  | kl (l : List Va)
  deriving Inhabited

inductive Ob where
  | lst (l : List Va)
  | dic (l : List (Va × Va))
  | ins (c : Nat) (fs : List (Nat × Va))

abbrev Hep := List Ob
abbrev Env' := List (Option Va)

/-- all references lie below n -/
def Va.bel (n : Nat) : Va → Bool
  | .tup l => belL n l
  | .kl l => belL n l
  | .ref a => decide (a < n)
  | _ => true
where belL (n : Nat) : List Va → Bool
  | [] => true
  | v :: vs => Va.bel n v && belL n vs

def Ob.bel (n : Nat) : Ob → Bool
  | .lst l => l.all (Va.bel n)
  | .dic l => l.all fun p => Va.bel n p.1 && Va.bel n p.2
  | .ins _ fs => fs.all fun p => Va.bel n p.2

theorem belL_all (n : Nat) : ∀ l : List Va, Va.bel.belL n l = l.all (Va.bel n)
  | [] => rfl
  | v :: vs => by rw [Va.bel.belL, List.all_cons, belL_all n vs]

/-- a text that the machine can hold -/
def sOk (l : List Nat) : Bool := decide (l.length ≤ 100000) && l.all fun c => decide (c < 1114112)

def S (l : List Nat) : Str := ⟨l.toArray⟩
theorem S_len (l : List Nat) : (S l).length = l.length := by simp [S, Str.length]
theorem S_inj {a b : List Nat} (h : S a = S b) : a = b := by
  have e : a.toArray = b.toArray := congrArg Str.cps h
  simpa using congrArg Array.toList e
theorem S_eq (a b : List Nat) : (S a = S b) ↔ a = b := ⟨S_inj, fun e => by rw [e]⟩

/-! ### the program's statics -/
structure Pg where
  P : Program
  w : World
  K : PySem.W.Frag
  mg : Str → Option Value
  base : Heap
  fa : Nat → Addr
  ca : Nat → Addr
  /-- the fields' names, by their numbers -/
  fd : Nat → Str

/-- a list that stands still -/
def SqF (K : PySem.W.Frag) (H : Hp) (a : Addr) (xs : List V) : Prop :=
  (∃ o, H a = some (.frz o (.lst xs))) ∨
    ∃ (o : Obj) (its : Array Value) (n : Nat), K.lookup a = some o ∧ o.cls = .type "list" ∧ o.dict = none ∧ o.data = .seq its n ∧ its.size ≤ sizeLine ∧ Vals xs its.toList
theorem SqF.sq {K : PySem.W.Frag} {H : Hp} {a : Addr} {xs : List V} (h : SqF K H a xs) : SqL K H a xs := by
  rcases h with ⟨o, h⟩ | h
  · exact .inl (.inr ⟨o, h⟩)
  · exact .inr h
section
variable (g : Pg) (r : Nat → Addr) (n : Nat) (H : Hp)
mutual
/-- our value as a value of the layer -/
inductive RV : Va → V → Prop
  | non : RV .non .non
  | bl (b : Bool) : RV (.bl b) (.bl b)
  | int (i : Int) : RV (.int i) (.int i)
  | str (l : List Nat) : sOk l = true → RV (.str l) (.str (S l))
  | tup {l : List Va} {a : Addr} {vs : List V} : SqT g.K H a vs → vs.length ≤ sizeLine → RVs l vs → RV (.tup l) (.ref a)
  | kl {l : List Va} {a : Addr} {vs : List V} : SqF g.K H a vs → vs.length ≤ sizeLine → RVs l vs → RV (.kl l) (.ref a)
  | ref {i : Nat} : i < n → RV (.ref i) (.ref (r i))
  | fn {i : Nat} : RV (.fn i) (.ref (g.fa i))
  | cl {i : Nat} : RV (.cl i) (.ref (g.ca i))
inductive RVs : List Va → List V → Prop
  | nil : RVs [] []
  | cons {v : Va} {vs : List Va} {x : V} {xs : List V} : RV v x → RVs vs xs → RVs (v :: vs) (x :: xs)
end

/-- the pairs of a dict whose keys are ints and texts -/
inductive RKs : List (Va × Va) → List (Key × V) → Prop
  | nil : RKs [] []
  | int {i : Int} {v : Va} {x : V} {vs : List (Va × Va)} {xs : List (Key × V)} : RV g r n H v x → RKs vs xs → RKs ((.int i, v) :: vs) ((.inl i, x) :: xs)
  | str {s : List Nat} {v : Va} {x : V} {vs : List (Va × Va)} {xs : List (Key × V)} : sOk s = true → RV g r n H v x → RKs vs xs → RKs ((.str s, v) :: vs) ((.inr (S s), x) :: xs)
inductive RFs : List (Nat × Va) → List (Str × V) → Prop
  | nil : RFs [] []
  | cons {f : Nat} {v : Va} {x : V} {vs : List (Nat × Va)} {xs : List (Str × V)} : RV g r n H v x → RFs vs xs → RFs ((f, v) :: vs) ((g.fd f, x) :: xs)

inductive RO : Ob → HO → Prop
  | lst {l : List Va} {vs : List V} : RVs g r n H l vs → vs.length ≤ sizeLine → RO (.lst l) (.lst vs)
  | dic {l : List (Va × Va)} {ks : List (Key × V)} : RKs g r n H l ks → RO (.dic l) (.dK ks)
  | ins {c : Nat} {fs : List (Nat × Va)} {gs : List (Str × V)} {dx : Addr} : RFs g r n H fs gs → RO (.ins c fs) (.ins (g.ca c) dx gs)
end

/-- our heap as the layer's -/
structure RH (g : Pg) (r : Nat → Addr) (h : Hep) (H : Hp) : Prop where
  inj : ∀ i j, i < h.length → j < h.length → r i = r j → i = j
  ob : ∀ i o, h[i]? = some o → ∃ O, H (r i) = some O ∧ RO g r h.length H o O

/-- the locals -/
def RE (g : Pg) (r : Nat → Addr) (n : Nat) (H : Hp) : Env' → L2.St → Prop
  | [], [] => True
  | none :: e, _ :: s => RE g r n H e s
  | some v :: e, some x :: s => RV g r n H v x ∧ RE g r n H e s
  | _, _ => False

/-- tuples stay, and what stands still -/
structure Keep (H H' : Hp) : Prop where
  tup : ∀ a xs, Rd H a (.tup xs) → Rd H' a (.tup xs)
  frz : ∀ a o u, H a = some (.frz o u) → H' a = some (.frz o u)
theorem Keep.refl (H : Hp) : Keep H H := ⟨fun _ _ h => h, fun _ _ _ h => h⟩
theorem Keep.trans {H H1 H2 : Hp} (a : Keep H H1) (b : Keep H1 H2) : Keep H H2 := ⟨fun p xs h => b.tup p xs (a.tup p xs h), fun p o u h => b.frz p o u (a.frz p o u h)⟩
theorem Keep.sqT {K : PySem.W.Frag} {H H' : Hp} (k : Keep H H') {a : Addr} {xs : List V} (h : SqT K H a xs) : SqT K H' a xs := by
  rcases h with h | h
  · exact .inl (k.tup a xs h)
  · exact .inr h
theorem Keep.sqF {K : PySem.W.Frag} {H H' : Hp} (k : Keep H H') {a : Addr} {xs : List V} (h : SqF K H a xs) : SqF K H' a xs := by
  rcases h with ⟨o, h⟩ | h
  · exact .inl ⟨o, k.frz a _ _ h⟩
  · exact .inr h
/-- a new object -/
theorem Keep.new {H : Hp} {p : Addr} {o : HO} (hp : H p = none) : Keep H (upd H p o) := by
  refine ⟨fun a xs h => ?_, fun a q u h => by rw [upd_ne (ne_of_none h hp)]; exact h⟩
  have ne : a ≠ p := by
    rintro rfl
    rcases h with h | ⟨_, h⟩ <;> rw [hp] at h <;> cases h
  rcases h with h | ⟨q, h⟩
  · exact .inl (by rw [upd_ne ne]; exact h)
  · exact .inr ⟨q, by rw [upd_ne ne]; exact h⟩
/-- a changed one -/
theorem Keep.mut {H : Hp} {p : Addr} {o o' : HO} (hp : H p = some o) (hm : Mut (some o)) : Keep H (upd H p o') := by
  refine ⟨fun a xs h => ?_, fun a q u h => ?_⟩
  · have ne : a ≠ p := by
      rintro rfl
      rcases h with h | ⟨_, h⟩ <;> (rw [hp] at h; cases h; exact hm)
    rcases h with h | ⟨q, h⟩
    · exact .inl (by rw [upd_ne ne]; exact h)
    · exact .inr ⟨q, by rw [upd_ne ne]; exact h⟩
  · have ne : a ≠ p := by
      rintro rfl
      rw [hp] at h
      cases h
      exact hm
    rw [upd_ne ne]
    exact h

/-- the world has grown: numbers below n mean what they meant, tuples stay, what has no number stays, new numbers stand for what was free -/
structure Grow (r : Nat → Addr) (n : Nat) (H : Hp) (r' : Nat → Addr) (n' : Nat) (H' : Hp) : Prop where
  le : n ≤ n'
  same : ∀ i, i < n → r' i = r i
  keep : Keep H H'
  frame : ∀ a o, H a = some o → (∀ i, i < n → r i ≠ a) → H' a = some o
  fresh : ∀ i, n ≤ i → i < n' → H (r' i) = none
  dom : ∀ a o, H a = some o → ∃ o', H' a = some o'
theorem Grow.refl {r : Nat → Addr} {n : Nat} {H : Hp} : Grow r n H r n H := ⟨Nat.le_refl _, fun _ _ => rfl, Keep.refl H, fun _ _ h _ => h, fun i h1 h2 => absurd h2 (Nat.not_lt_of_le h1), fun a o h => ⟨o, h⟩⟩
theorem Grow.trans {r r1 r2 : Nat → Addr} {n n1 n2 : Nat} {H H1 H2 : Hp} (a : Grow r n H r1 n1 H1) (b : Grow r1 n1 H1 r2 n2 H2) : Grow r n H r2 n2 H2 where
  le := Nat.le_trans a.le b.le
  same := fun i hi => (b.same i (Nat.lt_of_lt_of_le hi a.le)).trans (a.same i hi)
  keep := a.keep.trans b.keep
  frame := fun p o e h => b.frame p o (a.frame p o e h) fun i hi => by
    by_cases q : i < n
    · rw [a.same i q]; exact h i q
    · intro z
      have := a.fresh i (Nat.le_of_not_lt q) hi
      rw [z, e] at this
      cases this
  fresh := fun i h1 h2 => by
    by_cases q : i < n1
    · rw [b.same i q]; exact a.fresh i h1 q
    · have e := b.fresh i (Nat.le_of_not_lt q) h2
      cases e2 : H (r2 i) with
      | none => rfl
      | some o =>
        obtain ⟨o', e3⟩ := a.dom _ _ e2
        rw [e3] at e
        cases e
  dom := fun p o e => by
    obtain ⟨o1, e1⟩ := a.dom p o e
    exact b.dom p o1 e1
def ext (r : Nat → Addr) (n : Nat) (p : Addr) : Nat → Addr := fun i => if i = n then p else r i
theorem ext_at {r : Nat → Addr} {n : Nat} {p : Addr} : ext r n p n = p := if_pos rfl
theorem ext_ne {r : Nat → Addr} {n : Nat} {p : Addr} {i : Nat} (h : i ≠ n) : ext r n p i = r i := if_neg h
/-- a new object without a number -/
theorem Grow.newT {r : Nat → Addr} {n : Nat} {H : Hp} {p : Addr} {o : HO} (hp : H p = none) : Grow r n H r n (upd H p o) :=
  ⟨Nat.le_refl _, fun _ _ => rfl, Keep.new hp, fun a o e _ => by rw [upd_ne (ne_of_none e hp)]; exact e, fun i h1 h2 => absurd h2 (Nat.not_lt_of_le h1), fun a o e => ⟨o, by rw [upd_ne (ne_of_none e hp)]; exact e⟩⟩
/-- a new object with a number -/
theorem Grow.newO {r : Nat → Addr} {n : Nat} {H : Hp} {p : Addr} {o : HO} (hp : H p = none) : Grow r n H (ext r n p) (n + 1) (upd H p o) :=
  ⟨Nat.le_succ _, fun i hi => ext_ne (Nat.ne_of_lt hi), Keep.new hp, fun a o e _ => by rw [upd_ne (ne_of_none e hp)]; exact e, fun i h1 h2 => by
    have : i = n := by omega
    subst this
    rw [ext_at]
    exact hp, fun a o e => ⟨o, by rw [upd_ne (ne_of_none e hp)]; exact e⟩⟩
/-- a numbered object changed -/
theorem Grow.put {r : Nat → Addr} {n : Nat} {H : Hp} {a : Nat} {o o' : HO} (ha : a < n) (hO : H (r a) = some o) (hm : Mut (some o)) : Grow r n H r n (upd H (r a) o') :=
  ⟨Nat.le_refl _, fun _ _ => rfl, Keep.mut hO hm, fun p q e k => by rw [upd_ne fun z => k a ha z.symm]; exact e, fun i h1 h2 => absurd h2 (Nat.not_lt_of_le h1), fun p q e => by
    by_cases z : p = r a
    · subst z; exact ⟨_, upd_same⟩
    · exact ⟨q, by rw [upd_ne z]; exact e⟩⟩

section
variable {g : Pg} {r r' : Nat → Addr} {n n' : Nat} {H H' : Hp}
mutual
theorem RV.mono (G : Grow r n H r' n' H') : ∀ {v : Va} {x : V}, RV g r n H v x → RV g r' n' H' v x
  | _, _, .non => .non
  | _, _, .bl b => .bl b
  | _, _, .int i => .int i
  | _, _, .str l h => .str l h
  | _, _, .tup h1 h2 h3 => .tup (G.keep.sqT h1) h2 (RVs.mono G h3)
  | _, _, .kl h1 h2 h3 => .kl (G.keep.sqF h1) h2 (RVs.mono G h3)
  | _, _, .ref (i := i) h => by rw [← G.same i h]; exact .ref (Nat.lt_of_lt_of_le h G.le)
  | _, _, .fn => .fn
  | _, _, .cl => .cl
theorem RVs.mono (G : Grow r n H r' n' H') : ∀ {v : List Va} {x : List V}, RVs g r n H v x → RVs g r' n' H' v x
  | _, _, .nil => .nil
  | _, _, .cons h1 h2 => .cons (RV.mono G h1) (RVs.mono G h2)
end
theorem RKs.mono (G : Grow r n H r' n' H') {v : List (Va × Va)} {x : List (Key × V)} (h : RKs g r n H v x) : RKs g r' n' H' v x := by
  induction h with
  | nil => exact .nil
  | int a _ ih => exact .int (a.mono G) ih
  | str e a _ ih => exact .str e (a.mono G) ih
theorem RFs.mono (G : Grow r n H r' n' H') {v : List (Nat × Va)} {x : List (Str × V)} (h : RFs g r n H v x) : RFs g r' n' H' v x := by
  induction h with
  | nil => exact .nil
  | cons a _ ih => exact .cons (a.mono G) ih
theorem RO.mono (G : Grow r n H r' n' H') {v : Ob} {x : HO} (h : RO g r n H v x) : RO g r' n' H' v x := by
  cases h with
  | lst a b => exact .lst (a.mono G) b
  | dic a => exact .dic (a.mono G)
  | ins a => exact .ins (a.mono G)
theorem RE.mono (G : Grow r n H r' n' H') : ∀ {e : Env'} {s : L2.St}, RE g r n H e s → RE g r' n' H' e s
  | [], [], _ => trivial
  | none :: e, _ :: s, h => RE.mono (e := e) (s := s) G h
  | some v :: e, some x :: s, h => ⟨h.1.mono G, RE.mono (e := e) (s := s) G h.2⟩
  | some _ :: _, none :: _, h => h.elim
  | [], _ :: _, h => h.elim
  | some _ :: _, [], h => h.elim
  | none :: _, [], h => h.elim
theorem RVs.length : ∀ {l : List Va} {xs : List V}, RVs g r n H l xs → l.length = xs.length
  | _, _, .nil => rfl
  | _, _, .cons _ t => by simp [RVs.length t]
theorem RVs.get : ∀ {l : List Va} {xs : List V} {i : Nat} {v : Va}, RVs g r n H l xs → l[i]? = some v → ∃ x, xs[i]? = some x ∧ RV g r n H v x
  | _, _, _, _, .nil, e => by simp at e
  | _, _, 0, _, .cons a _, e => by simp at e; subst e; exact ⟨_, rfl, a⟩
  | _, _, i + 1, v, .cons _ t, e => by
    obtain ⟨x, h1, h2⟩ := RVs.get (i := i) (v := v) t (by simpa using e)
    exact ⟨x, by simpa using h1, h2⟩
theorem RVs.append : ∀ {l m : List Va} {xs ys : List V}, RVs g r n H l xs → RVs g r n H m ys → RVs g r n H (l ++ m) (xs ++ ys)
  | _, _, _, _, .nil, b => b
  | _, _, _, _, .cons a t, b => .cons a (RVs.append t b)
theorem RVs.take : ∀ {l : List Va} {xs : List V} (k : Nat), RVs g r n H l xs → RVs g r n H (l.take k) (xs.take k)
  | _, _, 0, _ => .nil
  | _, _, _ + 1, .nil => .nil
  | _, _, k + 1, .cons a t => .cons a (RVs.take k t)
theorem RVs.drop : ∀ {l : List Va} {xs : List V} (k : Nat), RVs g r n H l xs → RVs g r n H (l.drop k) (xs.drop k)
  | _, _, 0, h => h
  | _, _, _ + 1, .nil => .nil
  | _, _, k + 1, .cons _ t => RVs.drop k t
theorem RVs.set {v : Va} {x : V} (a : RV g r n H v x) : ∀ {l : List Va} {xs : List V} (k : Nat), RVs g r n H l xs → RVs g r n H (l.set k v) (xs.set k x)
  | _, _, _, .nil => .nil
  | _, _, 0, .cons _ t => .cons a t
  | _, _, k + 1, .cons b t => .cons b (RVs.set a k t)
theorem RE.get : ∀ {e : Env'} {s : L2.St} {i : Nat} {v : Va}, RE g r n H e s → e[i]? = some (some v) → ∃ x, s[i]? = some (some x) ∧ RV g r n H v x
  | [], [], _, _, _, e => by simp at e
  | some v :: _, some x :: _, 0, _, h, e => by simp at e; subst e; exact ⟨x, rfl, h.1⟩
  | none :: _, _ :: _, 0, _, h, e => by simp at e
  | none :: e, _ :: s, i + 1, v, h, q => by
    obtain ⟨x, h1, h2⟩ := RE.get (e := e) (s := s) (i := i) (v := v) h (by simpa using q)
    exact ⟨x, by simpa using h1, h2⟩
  | some _ :: e, some _ :: s, i + 1, v, h, q => by
    obtain ⟨x, h1, h2⟩ := RE.get (e := e) (s := s) (i := i) (v := v) h.2 (by simpa using q)
    exact ⟨x, by simpa using h1, h2⟩
  | some _ :: _, none :: _, _, _, h, _ => h.elim
  | [], _ :: _, _, _, h, _ => h.elim
  | some _ :: _, [], _, _, h, _ => h.elim
  | none :: _, [], _, _, h, _ => h.elim
theorem RE.set {v : Va} {x : V} (a : RV g r n H v x) : ∀ {e : Env'} {s : L2.St} (i : Nat), RE g r n H e s → RE g r n H (e.set i (some v)) (s.set i (some x))
  | [], [], _, _ => trivial
  | some _ :: _, some _ :: _, 0, h => ⟨a, h.2⟩
  | none :: e, _ :: s, 0, h => ⟨a, h⟩
  | none :: e, _ :: s, i + 1, h => RE.set (e := e) (s := s) a i h
  | some _ :: e, some _ :: s, i + 1, h => ⟨h.1, RE.set (e := e) (s := s) a i h.2⟩
  | some _ :: _, none :: _, _, h => h.elim
  | [], _ :: _, _, h => h.elim
  | some _ :: _, [], _, h => h.elim
  | none :: _, [], _, h => h.elim
theorem RE.length : ∀ {e : Env'} {s : L2.St}, RE g r n H e s → e.length = s.length
  | [], [], _ => rfl
  | some _ :: e, some _ :: s, h => by simp [RE.length (e := e) (s := s) h.2]
  | none :: e, _ :: s, h => by simp [RE.length (e := e) (s := s) h]
  | some _ :: _, none :: _, h => h.elim
  | [], _ :: _, h => h.elim
  | some _ :: _, [], h => h.elim
  | none :: _, [], h => h.elim
/-- an old value, the world cut back to m -/
theorem RV.cut {m : Nat} : ∀ {v : Va} {x : V}, RV g r n H v x → Va.bel m v = true → RV g r m H v x
  | .non, _, h, _ => by cases h; exact .non
  | .bl _, _, h, _ => by cases h; exact .bl _
  | .int _, _, h, _ => by cases h; exact .int _
  | .str _, _, h, _ => by cases h with | str _ e => exact .str _ e
  | .ref i, _, h, q => by cases h with | ref e => exact .ref (by simpa [Va.bel] using q)
  | .fn _, _, h, _ => by cases h; exact .fn
  | .cl _, _, h, _ => by cases h; exact .cl
  | .tup l, _, h, q => by
    cases h with
    | tup h1 h2 h3 => exact .tup h1 h2 (cutL h3 (by simpa [Va.bel] using q))
  | .kl l, _, h, q => by
    cases h with
    | kl h1 h2 h3 => exact .kl h1 h2 (cutL h3 (by simpa [Va.bel] using q))
where cutL {m : Nat} : ∀ {l : List Va} {xs : List V}, RVs g r n H l xs → Va.bel.belL m l = true → RVs g r m H l xs
  | [], _, h, _ => by cases h; exact .nil
  | v :: l, _, h, q => by
    cases h with
    | cons a b =>
      rw [Va.bel.belL, Bool.and_eq_true] at q
      exact .cons (RV.cut a q.1) (cutL b q.2)
theorem RVs.cut {m : Nat} {l : List Va} {xs : List V} (h : RVs g r n H l xs) (q : l.all (Va.bel m) = true) : RVs g r m H l xs := RV.cut.cutL h (by rw [belL_all]; exact q)
theorem RO.cut {m : Nat} {o : Ob} {O : HO} (h : RO g r n H o O) (q : o.bel m = true) : RO g r m H o O := by
  cases h with
  | lst a b => exact .lst (a.cut q) b
  | dic a =>
    refine .dic ?_
    induction a with
    | nil => exact .nil
    | int a _ ih =>
      have q' := q
      simp only [Ob.bel, List.all_cons, Bool.and_eq_true] at q'
      exact .int (a.cut q'.1.2) (ih (by simpa [Ob.bel] using q'.2))
    | str e a _ ih =>
      have q' := q
      simp only [Ob.bel, List.all_cons, Bool.and_eq_true] at q'
      exact .str e (a.cut q'.1.2) (ih (by simpa [Ob.bel] using q'.2))
  | ins a =>
    refine .ins ?_
    induction a with
    | nil => exact .nil
    | cons a _ ih =>
      have q' := q
      simp only [Ob.bel, List.all_cons, Bool.and_eq_true] at q'
      exact .cons (a.cut q'.1) (ih (by simpa [Ob.bel] using q'.2))
mutual
theorem RV.bel : ∀ {v : Va} {x : V}, RV g r n H v x → Va.bel n v = true
  | _, _, .non => rfl
  | _, _, .bl _ => rfl
  | _, _, .int _ => rfl
  | _, _, .str _ _ => rfl
  | _, _, .tup _ _ h => by rw [Va.bel]; exact RVs.bel h
  | _, _, .kl _ _ h => by rw [Va.bel]; exact RVs.bel h
  | _, _, .ref h => by simpa [Va.bel] using h
  | _, _, .fn => rfl
  | _, _, .cl => rfl
theorem RVs.bel : ∀ {v : List Va} {x : List V}, RVs g r n H v x → Va.bel.belL n v = true
  | _, _, .nil => rfl
  | _, _, .cons h1 h2 => by rw [Va.bel.belL, RV.bel h1, RVs.bel h2]; rfl
end
theorem RVs.all {v : List Va} {x : List V} (h : RVs g r n H v x) : v.all (Va.bel n) = true := by rw [← belL_all]; exact h.bel
theorem RO.bel {o : Ob} {O : HO} (h : RO g r n H o O) : o.bel n = true := by
  cases h with
  | lst a b => exact a.all
  | dic a =>
    show List.all _ _ = true
    induction a with
    | nil => rfl
    | int a _ ih => simp only [List.all_cons, Bool.and_eq_true]; exact ⟨⟨rfl, a.bel⟩, ih⟩
    | str e a _ ih => simp only [List.all_cons, Bool.and_eq_true]; exact ⟨⟨rfl, a.bel⟩, ih⟩
  | ins a =>
    show List.all _ _ = true
    induction a with
    | nil => rfl
    | cons a _ ih => simp only [List.all_cons, Bool.and_eq_true]; exact ⟨a.bel, ih⟩
end

/-! ### one new object, one changed -/
section
variable {g : Pg} {r : Nat → Addr} {h : Hep} {H : Hp}
theorem RH.lt (R : RH g r h H) {i : Nat} (hi : i < h.length) : ∃ O, H (r i) = some O := by
  obtain ⟨O, e, _⟩ := R.ob i h[i] (by simp [hi])
  exact ⟨O, e⟩
theorem RH.grow {p : Addr} {O : HO} (hp : H p = none) : Grow r h.length H (ext r h.length p) (h.length + 1) (upd H p O) := Grow.newO hp
theorem RH.new {p : Addr} {o : Ob} {O : HO} (R : RH g r h H) (hp : H p = none) (ho : RO g r h.length H o O) : RH g (ext r h.length p) (h ++ [o]) (upd H p O) where
  inj := fun i j hi hj e => by
    rw [List.length_append, List.length_singleton] at hi hj
    by_cases h1 : i = h.length
    · subst h1
      by_cases h2 : j = h.length
      · exact h2.symm
      · rw [ext_at, ext_ne h2] at e
        obtain ⟨q, hq⟩ := R.lt (i := j) (by omega)
        rw [← e, hp] at hq; cases hq
    · by_cases h2 : j = h.length
      · subst h2
        rw [ext_at, ext_ne h1] at e
        obtain ⟨q, hq⟩ := R.lt (i := i) (by omega)
        rw [e, hp] at hq; cases hq
      · rw [ext_ne h1, ext_ne h2] at e
        exact R.inj i j (by omega) (by omega) e
  ob := fun i o' e => by
    rw [List.length_append, List.length_singleton]
    by_cases h1 : i = h.length
    · subst h1
      rw [List.getElem?_append_right (Nat.le_refl _), Nat.sub_self] at e
      simp at e; subst e
      exact ⟨O, by rw [ext_at, upd_same], ho.mono (RH.grow hp)⟩
    · have hi : i < h.length := by
        have := (List.getElem?_eq_some_iff.mp e).1
        rw [List.length_append, List.length_singleton] at this
        omega
      rw [List.getElem?_append_left hi] at e
      obtain ⟨O', e1, e2⟩ := R.ob i o' e
      exact ⟨O', by rw [ext_ne h1, upd_ne (ne_of_none e1 hp)]; exact e1, e2.mono (RH.grow hp)⟩
theorem RH.put {a : Nat} {o : Ob} {O O' : HO} (R : RH g r h H) (ha : a < h.length) (hO : H (r a) = some O) (hm : Mut (some O)) (ho : RO g r h.length H o O') : RH g r (h.set a o) (upd H (r a) O') where
  inj := fun i j hi hj e => R.inj i j (by simpa using hi) (by simpa using hj) e
  ob := fun i o' e => by
    have G : Grow r h.length H r (h.set a o).length (upd H (r a) O') := by rw [List.length_set]; exact Grow.put ha hO hm
    by_cases h1 : i = a
    · subst h1
      rw [List.getElem?_set_self ha] at e
      cases e
      exact ⟨O', upd_same, ho.mono G⟩
    · rw [List.getElem?_set_ne (Ne.symm h1)] at e
      obtain ⟨Q, e1, e2⟩ := R.ob i o' e
      have hi : i < h.length := (List.getElem?_eq_some_iff.mp e).1
      exact ⟨Q, by rw [upd_ne fun z => h1 (R.inj i a hi ha z)]; exact e1, e2.mono G⟩
end
end NL
end

section
namespace NL
open PySem

/-! ### outcomes -/
/-- an exception: its class, its own fields -/
structure Xc where
  c : Nat
  fs : List (Nat × Va)

inductive Res (α : Type) where
  | ok (a : α) (h : Hep)
  | exc (x : Xc) (h : Hep)
  | stuck

def Res.bd {α β : Type} : Res α → (α → Hep → Res β) → Res β
  | .ok a h, f => f a h
  | .exc x h, _ => .exc x h
  | .stuck, _ => .stuck
@[simp] theorem Res.bd_ok {α β : Type} (a : α) (h : Hep) (f : α → Hep → Res β) : (Res.ok a h).bd f = f a h := rfl
@[simp] theorem Res.bd_exc {α β : Type} (x : Xc) (h : Hep) (f : α → Hep → Res β) : (Res.exc x h : Res α).bd f = .exc x h := rfl
@[simp] theorem Res.bd_stuck {α β : Type} (f : α → Hep → Res β) : (Res.stuck : Res α).bd f = .stuck := rfl

/-- a statement's end -/
inductive Out where
  | nx (e : Env') (h : Hep)
  | rt (v : Va) (h : Hep)
  | bk (e : Env') (h : Hep)
  | ct (e : Env') (h : Hep)
  | xc (x : Xc) (e : Env') (h : Hep)
  | stuck

def Res.to {α : Type} (e : Env') : Res α → (α → Hep → Out) → Out
  | .ok a h, f => f a h
  | .exc x h, _ => .xc x e h
  | .stuck, _ => .stuck
@[simp] theorem Res.to_ok {α : Type} (e : Env') (a : α) (h : Hep) (f : α → Hep → Out) : (Res.ok a h).to e f = f a h := rfl
@[simp] theorem Res.to_exc {α : Type} (e : Env') (x : Xc) (h : Hep) (f : α → Hep → Out) : (Res.exc x h : Res α).to e f = .xc x e h := rfl
@[simp] theorem Res.to_stuck {α : Type} (e : Env') (f : α → Hep → Out) : (Res.stuck : Res α).to e f = .stuck := rfl

/-! ### the text -/
inductive Bo where | add | sub | mul | mod | fdiv | pow
  deriving DecidableEq
inductive Co where | eq | ne | lt | le | gt | ge | is | isn | isin | nin
  deriving DecidableEq
/-- what isinstance asks -/
inductive Tq where | int | str | bool | list | tuple | cls (i : Nat)
  deriving DecidableEq
/-- built-in functions -/
inductive Bt where | len | abs | int | all | any | list | tuple | sorted | max2 | str | bool | repr
  deriving DecidableEq
/-- methods of built-in types -/
inductive Mt where | join | append | split | startswith | extend | pop | insert | index | clear | get | setdefault
  deriving DecidableEq

/-- a parameter's value: an argument by its place, or a default -/
inductive Pm where
  | arg (i : Nat)
  | dfl (v : Va)
mutual
inductive Ex where
  | lit (v : Va)
  | var (i : Nat)
  | con (k : Nat)
  | bin (o : Bo) (a b : Ex)
  | neg (a : Ex)
  | not (a : Ex)
  | and (a b : Ex)
  | or (a b : Ex)
  | ifx (c a b : Ex)
  | cmp (o : Co) (a b : Ex)
  | chn (o p : Co) (a b c : Ex)
  | tup (es : Exs)
  | lst (es : Exs)
  | sub (a i : Ex)
  | sli (a : Ex) (lo hi : Pt)
  | isi (a : Ex) (ts : List Tq)
  | call (f np n nk : Nat) (pm : List Pm) (es ks : Exs)
  | blt (b : Bt) (es : Exs)
  | met (m : Mt) (o : Ex) (es : Exs)
  | comp (el : Ex) (t : Tg) (s : It) (c : Ex) (own : List Nat)
inductive Exs where
  | nil
  | cons (e : Ex) (r : Exs)
inductive Pt where
  | no
  | ex (e : Ex)
inductive Tg where
  | name (i : Nat)
  | tup (ts : Tgs)
  | sub (o i : Ex)
inductive Tgs where
  | nil
  | cons (t : Tg) (r : Tgs)
inductive It where
  | seq (e : Ex)
  | ran1 (a : Ex)
  | ran2 (a b : Ex)
end
mutual
inductive Sm where
  | set (t : Tg) (e : Ex)
  | par (i j : Nat) (a b : Ex)
  | ret (e : Ex)
  | ifs (c : Ex) (t e : Sms)
  | for (t : Tg) (s : It) (b : Sms)
  | whl (c : Ex) (b : Sms)
  | ex (e : Ex)
  | pas
  | brk
  | cnt
  | never
inductive Sms where
  | nil
  | cons (s : Sm) (r : Sms)
end

/-! ### data, equality -/
def allSome {α : Type} : List (Option α) → Option (List α)
  | [] => some []
  | some a :: l => (allSome l).map (a :: ·)
  | none :: _ => none
/-- the items of a list -/
def lsAt (h : Hep) (a : Nat) : Option (List Va) := match h[a]? with
  | some (.lst l) => some l
  | _ => none
/-- a value as data, lists followed through the heap to a depth -/
def toD (h : Hep) : Nat → Va → Option PyData
  | _, .non => some .none
  | _, .bl b => some (.bool b)
  | _, .int i => some (.int i)
  | _, .str s => some (.str (S s))
  | k + 1, .tup l => (allSome (l.map (toD h k))).map PyData.tuple
  | k + 1, .ref a => match lsAt h a with
    | some l => (allSome (l.map (toD h k))).map PyData.list
    | none => none
  | _, _ => none
def eqS (h : Hep) (a b : Va) : Option Bool := match toD h 60 a, toD h 60 b with
  | some d, some e => some (PyData.eqv d e)
  | _, _ => none

/-! ### operators by values -/
def flat : Va → Bool
  | .non => true
  | .bl _ => true
  | .int _ => true
  | .str _ => true
  | _ => false
def eqF : Va → Va → Bool
  | .non, .non => true
  | .bl a, .bl b => a == b
  | .bl a, .int b => (if a then 1 else 0) == b
  | .int a, .bl b => a == (if b then 1 else 0)
  | .int a, .int b => a == b
  | .str a, .str b => a == b
  | _, _ => false
def inF (x : Va) (l : List Va) : Bool := l.any fun y => eqF y x
def line : Nat := 100000
def mkO (o : Ob) (h : Hep) : Res Va := .ok (.ref h.length) (h ++ [o])
def newL (l : List Va) (h : Hep) : Res Va := if l.length ≤ line then mkO (.lst l) h else .stuck
def newT (l : List Va) (h : Hep) : Res Va := if l.length ≤ line then .ok (.tup l) h else .stuck
def newS (s : List Nat) (h : Hep) : Res Va := if s.length ≤ line then .ok (.str s) h else .stuck
def okI (i : Int) : Bool := decide (-(2 ^ 62) ≤ i) && decide (i < 2 ^ 62)
def binV : Bo → Va → Va → Hep → Res Va
  | .add, .int a, .int b, h => .ok (.int (a + b)) h
  | .add, .str a, .str b, h => newS (a ++ b) h
  | .add, .tup a, .tup b, h => if a.isEmpty then .stuck else newT (a ++ b) h
  | .add, .ref a, .ref b, h => match h[a]?, h[b]? with
    | some (.lst l), some (.lst m) => newL (l ++ m) h
    | _, _ => .stuck
  | .sub, .int a, .int b, h => .ok (.int (a - b)) h
  | .mul, .int a, .int b, h => if okI a || okI b then .ok (.int (a * b)) h else .stuck
  | .mul, .ref a, .int b, h => match h[a]? with
    | some (.lst l) => if okI b && decide (l.length * b.toNat ≤ line) then newL (List.replicate b.toNat l).flatten h else .stuck
    | _ => .stuck
  | .mod, .int a, .int b, h => if b = 0 then .stuck else .ok (.int (a.fmod b)) h
  | .fdiv, .int a, .int b, h => if b ≠ 0 ∧ b.natAbs < 1073741824 then .ok (.int (a.fdiv b)) h else .stuck
  | .pow, .int a, .int b, h => if 0 ≤ b ∧ b ≤ 1000 ∧ a.natAbs < 2 ^ 64 then .ok (.int (a ^ b.toNat)) h else .stuck
  | _, _, _, _ => .stuck
def optR (o : Option Bool) (h : Hep) : Res Va := match o with
  | some b => .ok (.bl b) h
  | none => .stuck
def notO (o : Option Bool) : Option Bool := o.map not
/-- one sign or a text in a text -/
def inS (x : List Nat) : List Nat → Bool
  | [] => x.isEmpty
  | c :: t => x.isPrefixOf (c :: t) || inS x t
def isNon : Va → Bool
  | .non => true
  | _ => false
/-- x in b -/
def inO (h : Hep) (x : Va) : Va → Option Bool
  | .tup l => if flat x && l.all flat then some (inF x l) else none
  | .ref a => (match lsAt h a with
    | some l => if flat x && l.all flat then some (inF x l) else none
    | none => none)
  | .str t => (match x with
    | .str [c] => some (t.elem c)
    | _ => none)
  | _ => none
def cmpV : Co → Va → Va → Hep → Res Va
  | .eq, a, b, h => optR (eqS h a b) h
  | .ne, a, b, h => optR (notO (eqS h a b)) h
  | .lt, .int a, .int b, h => .ok (.bl (decide (a < b))) h
  | .le, .int a, .int b, h => .ok (.bl (decide (a ≤ b))) h
  | .gt, .int a, .int b, h => .ok (.bl (decide (b < a))) h
  | .ge, .int a, .int b, h => .ok (.bl (decide (b ≤ a))) h
  | .is, a, .non, h => .ok (.bl (isNon a)) h
  | .isn, a, .non, h => .ok (.bl (!isNon a)) h
  | .isin, a, b, h => optR (inO h a b) h
  | .nin, a, b, h => optR (notO (inO h a b)) h
  | _, _, _, _ => .stuck
def negV : Va → Hep → Res Va
  | .int a, h => .ok (.int (-a)) h
  | _, _ => .stuck
/-- the place of an index, from either end -/
abbrev ixOf (n : Nat) (i : Int) : Option Nat := L2.ixN n i
def subV : Va → Va → Hep → Res Va
  | .tup l, .int i, h => match (ixOf l.length i).bind (l[·]?) with
    | some v => .ok v h
    | none => .stuck
  | .str s, .int i, h => match (ixOf s.length i).bind (s[·]?) with
    | some c => .ok (.str [c]) h
    | none => .stuck
  | .ref a, .int i, h => match lsAt h a with
    | some l => (match (ixOf l.length i).bind (l[·]?) with
      | some v => .ok v h
      | none => .stuck)
    | none => .stuck
  | _, _, _ => .stuck
def sliL {α : Type} (l : List α) (lo hi : Option Int) : List α := (l.drop (HT.sIx l.length 0 lo)).take (HT.sIx l.length l.length hi - HT.sIx l.length 0 lo)
def sliV (x : Va) (lo hi : Option Int) (h : Hep) : Res Va := match x with
  | .str s => .ok (.str (sliL s lo hi)) h
  | .tup l => .ok (.tup (sliL l lo hi)) h
  | .kl l => mkO (.lst (sliL l lo hi)) h
  | .ref a => (match lsAt h a with
    | some l => mkO (.lst (sliL l lo hi)) h
    | none => .stuck)
  | _ => .stuck
/-- a value's type, where it is a built-in one -/
inductive Ty where | none | bool | int | str | list | tuple | dict
  deriving DecidableEq
def tyOf (h : Hep) : Va → Option Ty
  | .non => some .none
  | .bl _ => some .bool
  | .int _ => some .int
  | .str _ => some .str
  | .tup _ => some .tuple
  | .ref a => (match h[a]? with
    | some (.lst _) => some .list
    | some (.dic _) => some .dict
    | _ => Option.none)
  | _ => Option.none
def tyIs : Ty → Tq → Option Bool
  | t, .int => some (t == .int || t == .bool)
  | t, .str => some (t == .str)
  | t, .bool => some (t == .bool)
  | t, .list => some (t == .list)
  | t, .tuple => some (t == .tuple)
  | _, .cls _ => Option.none
def isQ (h : Hep) (sub : Nat → Nat → Bool) (v : Va) (q : Tq) : Option Bool := match tyOf h v with
  | some t => tyIs t q
  | none => none
def isAny (h : Hep) (sub : Nat → Nat → Bool) (v : Va) : List Tq → Option Bool
  | [] => some false
  | q :: qs => match isQ h sub v q, isAny h sub v qs with
    | some a, some b => some (a || b)
    | _, _ => none
def bools : List Va → Option (List Bool)
  | [] => some []
  | .bl b :: l => (bools l).map (b :: ·)
  | _ :: _ => none
def texts : List Va → Option (List (List Nat))
  | [] => some []
  | .str b :: l => (texts l).map (b :: ·)
  | _ :: _ => none
def joinS (sep : List Nat) : List (List Nat) → List Nat
  | [] => []
  | [x] => x
  | x :: r => x ++ sep ++ joinS sep r
def bltV (b : Bt) (l : List Va) (h : Hep) : Res Va := match b, l with
  | .len, [.str s] => .ok (.int s.length) h
  | .len, [.tup s] => .ok (.int s.length) h
  | .len, [.ref a] => (match lsAt h a with
    | some l => .ok (.int l.length) h
    | none => .stuck)
  | .abs, [.int i] => .ok (.int (if i < 0 then -i else i)) h
  | .int, [.int i] => .ok (.int i) h
  | .int, [.bl b] => .ok (.int (if b then 1 else 0)) h
  | .all, [.ref a] => (match (lsAt h a).bind bools with
    | some l => .ok (.bl (l.all id)) h
    | none => .stuck)
  | .any, [.ref a] => (match (lsAt h a).bind bools with
    | some l => .ok (.bl (l.any id)) h
    | none => .stuck)
  | .list, [.ref a] => (match lsAt h a with
    | some l => mkO (.lst l) h
    | none => .stuck)
  | .list, [.tup l] => mkO (.lst l) h
  | .list, [.str s] => mkO (.lst (s.map fun c => .str [c])) h
  | .tuple, [.ref a] => (match lsAt h a with
    | some l => .ok (.tup l) h
    | none => .stuck)
  | .tuple, [.tup l] => .ok (.tup l) h
  | _, _ => .stuck
/-- a write keeps the walls: an object below a wall takes no reference from above it -/
def wallOk (bars : List Nat) (a : Nat) (o : Ob) : Bool := bars.all fun b => decide (b ≤ a) || o.bel b
def putO (bars : List Nat) (a : Nat) (o : Ob) (h : Hep) : Option Hep := if wallOk bars a o then some (h.set a o) else none
def setV (bars : List Nat) : Va → Va → Va → Hep → Option Hep
  | .ref a, .int i, v, h => match h[a]? with
    | some (.lst l) => (match ixOf l.length i with
      | some k => putO bars a (.lst (l.set k v)) h
      | none => none)
    | _ => none
  | _, _, _, _ => none
def metV (bars : List Nat) (m : Mt) (o : Va) (l : List Va) (h : Hep) : Res Va := match m, o, l with
  | .join, .str s, [.ref a] => (match (lsAt h a).bind texts with
    | some ts => newS (joinS s ts) h
    | none => .stuck)
  | .append, .ref a, [v] => (match h[a]? with
    | some (.lst l) => if l.length < line then (if wallOk bars a (.lst (l ++ [v])) then .ok .non (h.set a (.lst (l ++ [v]))) else .stuck) else .stuck
    | _ => .stuck)
  | _, _, _ => .stuck

/-- the receiver is of the method's type -/
def recOk (h : Hep) : Mt → Va → Bool
  | .join, .str _ => true
  | .split, .str _ => true
  | .startswith, .str _ => true
  | .append, .ref a => (match h[a]? with | some (.lst _) => true | _ => false)
  | .extend, .ref a => (match h[a]? with | some (.lst _) => true | _ => false)
  | .insert, .ref a => (match h[a]? with | some (.lst _) => true | _ => false)
  | _, _ => false
/-! ### the run -/
/-- what a loop walks: values, or a list as it stands -/
inductive Src where
  | vals (l : List Va)
  | live (a n : Nat)
def rangeL (lo : Int) (n : Nat) : List Va := (List.range n).map fun (i : Nat) => Va.int (lo + (i : Int))
def forV (f : Va → Env' → Hep → Out) : List Va → Env' → Hep → Out
  | [], e, h => .nx e h
  | v :: vs, e, h => match f v e h with
    | .nx e h => forV f vs e h
    | .ct e h => forV f vs e h
    | .bk e h => .nx e h
    | o => o
def forL (f : Va → Env' → Hep → Out) (a : Nat) : Nat → Nat → Env' → Hep → Out
  | 0, i, e, h => match lsAt h a with
    | some l => if l.length ≤ i then .nx e h else .stuck
    | none => .stuck
  | k + 1, i, e, h => match lsAt h a with
    | some l => (match l[i]? with
      | some v => (match f v e h with
        | .nx e h => forL f a k (i + 1) e h
        | .ct e h => forL f a k (i + 1) e h
        | .bk e h => .nx e h
        | o => o)
      | none => .nx e h)
    | none => .stuck
def forS (f : Va → Env' → Hep → Out) : Src → Env' → Hep → Out
  | .vals l, e, h => forV f l e h
  | .live a n, e, h => forL f a n 0 e h
def mapV (f : Va → List Va → Hep → Res (List Va)) : List Va → List Va → Hep → Res (List Va)
  | [], acc, h => .ok acc h
  | v :: vs, acc, h => match f v acc h with
    | .ok acc h => mapV f vs acc h
    | _ => .stuck
def mapL (f : Va → List Va → Hep → Res (List Va)) (a : Nat) : Nat → Nat → List Va → Hep → Res (List Va)
  | 0, i, acc, h => match lsAt h a with
    | some l => if l.length ≤ i then .ok acc h else .stuck
    | none => .stuck
  | k + 1, i, acc, h => match lsAt h a with
    | some l => (match l[i]? with
      | some v => (match f v acc h with
        | .ok acc h => mapL f a k (i + 1) acc h
        | _ => .stuck)
      | none => .ok acc h)
    | none => .stuck
def mapS (f : Va → List Va → Hep → Res (List Va)) : Src → Hep → Res (List Va)
  | .vals l, h => mapV f l [] h
  | .live a n, h => mapL f a n 0 [] h
def whlO (c : Env' → Hep → Res Va) (b : Env' → Hep → Out) : Nat → Env' → Hep → Out
  | 0, _, _ => .stuck
  | k + 1, e, h => match c e h with
    | .ok (.bl true) h => (match b e h with
      | .nx e h => whlO c b k e h
      | .ct e h => whlO c b k e h
      | .bk e h => .nx e h
      | o => o)
    | .ok (.bl false) h => .nx e h
    | .exc x h => .xc x e h
    | _ => .stuck
/-- how often a while may turn -/
def turns : Nat := 1000000
def wipe' (e : Env') : List Nat → Env'
  | [] => e
  | i :: is => (wipe' e is).set i none
/-- a comprehension's own slots -/
abbrev CallT := List Nat → Nat → List Va → Hep → Res Va
structure Cfg where
  call : CallT
  sub : Nat → Nat → Bool
  con : Nat → Va
def pick' (l : List Va) : List Pm → Option (List Va)
  | [] => some []
  | .arg i :: is => match l[i]?, pick' l is with
    | some v, some vs => some (v :: vs)
    | _, _ => none
  | .dfl v :: is => match pick' l is with
    | some vs => some (v :: vs)
    | none => none
/-- our run of a call -/
def callR (F : CallT) (bars : List Nat) (f np n nk : Nat) (pm : List Pm) (l m : List Va) (h : Hep) : Res Va := if l.length = n ∧ m.length = nk then (match pick' (l ++ m) pm with
      | some vs => if vs.length = np then F bars f vs h else .stuck
      | none => .stuck) else .stuck
mutual
def ev (C : Cfg) (bars : List Nat) (e : Env') : Ex → Hep → Res Va
  | .lit v, h => .ok v h
  | .var i, h => match e[i]? with
    | some (some v) => .ok v h
    | _ => .stuck
  | .con k, h => .ok (C.con k) h
  | .bin o a b, h => (ev C bars e a h).bd fun x h => (ev C bars e b h).bd fun y h => binV o x y h
  | .neg a, h => (ev C bars e a h).bd negV
  | .not a, h => (ev C bars e a h).bd fun x h => match x with
    | .bl b => .ok (.bl (!b)) h
    | _ => .stuck
  | .and a b, h => (ev C bars e a h).bd fun x h => match x with
    | .bl true => ev C bars e b h
    | .bl false => .ok (.bl false) h
    | _ => .stuck
  | .or a b, h => (ev C bars e a h).bd fun x h => match x with
    | .bl true => .ok (.bl true) h
    | .bl false => ev C bars e b h
    | _ => .stuck
  | .ifx c a b, h => (ev C bars e c h).bd fun x h => match x with
    | .bl true => ev C bars e a h
    | .bl false => ev C bars e b h
    | _ => .stuck
  | .cmp o a b, h => (ev C bars e a h).bd fun x h => (ev C bars e b h).bd fun y h => cmpV o x y h
  | .chn o p a b c, h => (ev C bars e a h).bd fun x h => (ev C bars e b h).bd fun y h => (cmpV o x y h).bd fun z h => match z with
    | .bl true => (ev C bars e c h).bd fun w h => cmpV p y w h
    | .bl false => .ok (.bl false) h
    | _ => .stuck
  | .tup es, h => (evs C bars e es h).bd newT
  | .lst es, h => (evs C bars e es h).bd newL
  | .sub a i, h => (ev C bars e a h).bd fun x h => (ev C bars e i h).bd fun y h => subV x y h
  | .sli a lo hi, h => (ev C bars e a h).bd fun x h => (evP C bars e lo h).bd fun y h => (evP C bars e hi h).bd fun z h => sliV x y z h
  | .isi a ts, h => (ev C bars e a h).bd fun x h => optR (isAny h C.sub x ts) h
  | .call f np n nk pm es ks, h => (evs C bars e es h).bd fun l h => (evs C bars e ks h).bd fun m h => callR C.call bars f np n nk pm l m h
  | .blt b es, h => (evs C bars e es h).bd fun l h => bltV b l h
  | .met m o es, h => (ev C bars e o h).bd fun x h => if recOk h m x then (evs C bars e es h).bd fun l h => metV bars m x l h else .stuck
  | .comp el t s c own, h => (evI C bars e s h).bd fun s h => (mapS (fun v acc h => match evT C bars t v (wipe' e own) h with
      | some (e', h) => (ev C bars e' c h).bd fun x h => (match x with
        | .bl true => (ev C bars e' el h).bd fun y h => if acc.length < line then .ok (acc ++ [y]) h else .stuck
        | .bl false => .ok acc h
        | _ => .stuck)
      | none => .stuck) s h).bd fun l h => mkO (.lst l) h
def evs (C : Cfg) (bars : List Nat) (e : Env') : Exs → Hep → Res (List Va)
  | .nil, h => .ok [] h
  | .cons a r, h => (ev C bars e a h).bd fun x h => (evs C bars e r h).bd fun l h => .ok (x :: l) h
def evP (C : Cfg) (bars : List Nat) (e : Env') : Pt → Hep → Res (Option Int)
  | .no, h => .ok none h
  | .ex a, h => (ev C bars e a h).bd fun x h => match x with
    | .int i => .ok (some i) h
    | _ => .stuck
def evT (C : Cfg) (bars : List Nat) : Tg → Va → Env' → Hep → Option (Env' × Hep)
  | .name i, v, e, h => some (e.set i (some v), h)
  | .tup ts, v, e, h => match v with
    | .tup l => evTs C bars ts l e h
    | _ => none
  | .sub o i, v, e, h => match ev C bars e o h with
    | .ok x h => (match ev C bars e i h with
      | .ok y h => (setV bars x y v h).map fun h => (e, h)
      | _ => none)
    | _ => none
def evTs (C : Cfg) (bars : List Nat) : Tgs → List Va → Env' → Hep → Option (Env' × Hep)
  | .nil, [], e, h => some (e, h)
  | .cons t r, v :: l, e, h => match evT C bars t v e h with
    | some (e, h) => evTs C bars r l e h
    | none => none
  | _, _, _, _ => none
def evI (C : Cfg) (bars : List Nat) (e : Env') : It → Hep → Res Src
  | .seq a, h => (ev C bars e a h).bd fun x h => match x with
    | .ref a => (match lsAt h a with
      | some l => .ok (.live a l.length) h
      | none => .stuck)
    | .tup l => .ok (.vals l) h
    | .str s => .ok (.vals (s.map fun c => .str [c])) h
    | _ => .stuck
  | .ran1 a, h => (ev C bars e a h).bd fun x h => match x with
    | .int j => if okI j then .ok (.vals (rangeL 0 j.toNat)) h else .stuck
    | _ => .stuck
  | .ran2 a b, h => (ev C bars e a h).bd fun x h => (ev C bars e b h).bd fun y h => match x, y with
    | .int i, .int j => if okI i && okI j then .ok (.vals (rangeL i (j - i).toNat)) h else .stuck
    | _, _ => .stuck
end
mutual
def ex (C : Cfg) (bars : List Nat) : Sm → Env' → Hep → Out
  | .set t a, e, h => (ev C bars e a h).to e fun v h => match evT C bars t v e h with
    | some (e, h) => .nx e h
    | none => .stuck
  | .par i j a b, e, h => (ev C bars e a h).to e fun x h => (ev C bars e b h).to e fun y h => .nx ((e.set i (some x)).set j (some y)) h
  | .ret a, e, h => (ev C bars e a h).to e fun v h => .rt v h
  | .ifs c t f, e, h => (ev C bars e c h).to e fun x h => match x with
    | .bl true => exs C bars t e h
    | .bl false => exs C bars f e h
    | _ => .stuck
  | .for t s b, e, h => (evI C bars e s h).to e fun s h => forS (fun v e h => match evT C bars t v e h with
    | some (e, h) => exs C bars b e h
    | none => .stuck) s e h
  | .whl c b, e, h => whlO (fun e h => ev C bars e c h) (fun e h => exs C bars b e h) turns e h
  | .ex a, e, h => (ev C bars e a h).to e fun _ h => .nx e h
  | .pas, e, h => .nx e h
  | .brk, e, h => .bk e h
  | .cnt, e, h => .ct e h
  | .never, _, _ => .stuck
def exs (C : Cfg) (bars : List Nat) : Sms → Env' → Hep → Out
  | .nil, e, h => .nx e h
  | .cons s r, e, h => match ex C bars s e h with
    | .nx e h => exs C bars r e h
    | o => o
end
/-- a def: its number of parameters, of names; whether nothing of its own may stay behind but what it returns -/
structure Def where
  np : Nat
  nn : Nat
  tidy : Bool
  body : Sms
def Def.start (D : Def) (l : List Va) : Env' := l.map some ++ List.replicate (D.nn - l.length) none
/-- what is left behind a tidy call -/
def tidyR (n : Nat) : Res Va → Res Va
  | .ok v h => if v.bel n then .ok v (h.take n) else match v with
    | .ref a => (match h[a]? with
      | some o => if o.bel n then .ok (.ref n) (h.take n ++ [o]) else .ok v h
      | none => .stuck)
    | _ => .ok v h
  | .exc x h => if x.fs.all (fun p => p.2.bel n) then .exc x (h.take n) else .exc x h
  | .stuck => .stuck
def endO : Out → Res Va
  | .nx _ h => .ok .non h
  | .rt v h => .ok v h
  | .xc x _ h => .exc x h
  | _ => .stuck
def callF (tb : Nat → Option Def) (sub : Nat → Nat → Bool) (con : Nat → Va) : Nat → CallT
  | 0 => fun _ _ _ _ => .stuck
  | d + 1 => fun bars f l h => match tb f with
    | some D => if l.length = D.np then
        (if D.tidy then tidyR h.length (endO (exs ⟨callF tb sub con d, sub, con⟩ (h.length :: bars) D.body (D.start l) h))
         else endO (exs ⟨callF tb sub con d, sub, con⟩ bars D.body (D.start l) h))
      else .stuck
    | none => .stuck
end NL
end

section
namespace NL
open PySem PySem.Spec PyProof.Rows L2

/-! ### what is kept -/
def BarOk (bars : List Nat) (h : Hep) : Prop := ∀ b ∈ bars, b ≤ h.length ∧ ∀ i o, i < b → h[i]? = some o → o.bel b = true
structure At (g : Pg) (bars : List Nat) (r : Nat → Addr) (h : Hep) (H : Hp) : Prop where
  rh : RH g r h H
  bo : BarOk bars h
/-- an exception of ours and the layer's -/
def RX (g : Pg) (r : Nat → Addr) (n : Nat) (H : Hp) (x : Xc) (cls : Value) (d : Option Addr) : Prop :=
  cls = .ref (g.ca x.c) ∧ match d with
    | none => x.fs = []
    | some dd => ∃ gs, H dd = some (.xd gs) ∧ RFs g r n H x.fs gs
/-- what is wanted of a run of ours, from the layer's side -/
def Rp {α β : Type} (g : Pg) (bars : List Nat) (R : (Nat → Addr) → Nat → Hp → α → β → Prop) (W : Value → Option Addr → Hp → Prop) (r : Nat → Addr) (h : Hep) (H : Hp) (Q : β → Hp → Prop) : Res α → Prop
  | .ok v h' => ∀ r' H' x, Grow r h.length H r' h'.length H' → At g bars r' h' H' → R r' h'.length H' v x → Q x H'
  | .exc c h' => ∀ r' H' cls d, Grow r h.length H r' h'.length H' → At g bars r' h' H' → RX g r' h'.length H' c cls d → W cls d H'
  | .stuck => False
abbrev RpV (g : Pg) (bars : List Nat) := Rp (α := Va) (β := V) g bars (RV g)
abbrev RpL (g : Pg) (bars : List Nat) := Rp (α := List Va) (β := List V) g bars (RVs g)

/-- the reading of a run of ours -/
def tE (g : Pg) (W : WX) (bars : List Nat) (f : Env' → Hep → Res Va) : TE := fun σ H Q => ∃ r e h, At g bars r h H ∧ RE g r h.length H e σ ∧ RpV g bars (fun c d H => W c d σ H) r h H Q (f e h)
def tAs (g : Pg) (W : WX) (bars : List Nat) (f : Env' → Hep → Res (List Va)) : TA := fun σ H Q => ∃ r e h, At g bars r h H ∧ RE g r h.length H e σ ∧ RpL g bars (fun c d H => W c d σ H) r h H Q (f e h)
def isB (b : Bool) : Va → Prop := fun v => v = .bl b
abbrev RpB (g : Pg) (bars : List Nat) := Rp (α := Va) (β := Bool) g bars (fun _ _ _ v b => v = .bl b)
def tT (g : Pg) (W : WX) (bars : List Nat) (f : Env' → Hep → Res Va) : TT := fun σ H Q => ∃ r e h, At g bars r h H ∧ RE g r h.length H e σ ∧ (∀ v h', f e h = .ok v h' → ∃ b, v = .bl b) ∧ RpB g bars (fun c d H => W c d σ H) r h H Q (f e h)

theorem PE.imp {X : Cx} {e : Expr} {t t' : TE} (a : PE X e t) (h : ∀ σ H Q, t' σ H Q → t σ H Q) : PE X e t' := ⟨fun pins s σ H Q I q => a.run pins s σ H Q I (h σ H Q q)⟩
theorem PT.imp {X : Cx} {e : Expr} {t t' : TT} (a : PT X e t) (h : ∀ σ H Q, t' σ H Q → t σ H Q) : PT X e t' := ⟨fun pins s σ H Q I q => a.run pins s σ H Q I (h σ H Q q)⟩
theorem PA.imp {X : Cx} {e : List Expr} {t t' : TA} (a : PA X e t) (h : ∀ σ H Q, t' σ H Q → t σ H Q) : PA X e t' := ⟨fun pos pins s σ H Q I q => a.run pos pins s σ H Q I (h σ H Q q)⟩
theorem PS.imp {X : Cx} {e : Stmt} {t t' : TS} (a : PS X e t) (h : ∀ D σ H, t' D σ H → t D σ H) : PS X e t' := ⟨fun pins s σ H D I q => a.run pins s σ H D I (h D σ H q)⟩

section
variable {g : Pg} {bars : List Nat} {r : Nat → Addr} {h : Hep} {H : Hp} {α β : Type} {R : (Nat → Addr) → Nat → Hp → α → β → Prop} {W : Value → Option Addr → Hp → Prop} {Q : β → Hp → Prop}
theorem Rp.pure {v : α} {x : β} (A : At g bars r h H) (hr : R r h.length H v x) (q : Rp g bars R W r h H Q (.ok v h)) : Q x H := q r H x .refl A hr
/-- one run, then another -/
theorem Rp.bd {α' β' : Type} {R' : (Nat → Addr) → Nat → Hp → α' → β' → Prop} {Q' : β' → Hp → Prop} {m : Res α} {f : α → Hep → Res α'} (q : Rp g bars R' W r h H Q' (m.bd f)) 
    (k : ∀ v h1 r1 H1 x, m = .ok v h1 → Grow r h.length H r1 h1.length H1 → At g bars r1 h1 H1 → R r1 h1.length H1 v x → Rp g bars R' W r1 h1 H1 Q' (f v h1) → Q x H1) : Rp g bars R W r h H Q m := by
  cases m with
  | stuck => exact q
  | exc c h1 => exact q
  | ok v h1 =>
    intro r1 H1 x G A rv
    refine k v h1 r1 H1 x rfl G A rv ?_
    rw [Res.bd_ok] at q
    revert q
    cases f v h1 with
    | stuck => exact id
    | exc c h2 => exact fun q r2 H2 cls d G2 A2 e => q r2 H2 cls d (G.trans G2) A2 e
    | ok v2 h2 => exact fun q r2 H2 y G2 A2 e => q r2 H2 y (G.trans G2) A2 e
theorem Rp.mono {Q' : β → Hp → Prop} {m : Res α} (q : Rp g bars R W r h H Q m) (k : ∀ x H, Q x H → Q' x H) : Rp g bars R W r h H Q' m := by
  cases m with
  | stuck => exact q
  | exc c h1 => exact q
  | ok v h1 => exact fun r1 H1 x G A e => k _ _ (q r1 H1 x G A e)
end

theorem BarOk.new {bars : List Nat} {h : Hep} {o : Ob} (b : BarOk bars h) : BarOk bars (h ++ [o]) := fun x hx => by
  obtain ⟨h1, h2⟩ := b x hx
  refine ⟨by rw [List.length_append]; omega, fun i u hi e => h2 i u hi ?_⟩
  rwa [List.getElem?_append_left (by omega)] at e
theorem BarOk.put {bars : List Nat} {h : Hep} {a : Nat} {o : Ob} (b : BarOk bars h) (w : wallOk bars a o = true) : BarOk bars (h.set a o) := fun x hx => by
  obtain ⟨h1, h2⟩ := b x hx
  refine ⟨by rw [List.length_set]; exact h1, fun i u hi e => ?_⟩
  by_cases q : i = a
  · subst q
    have hl : i < h.length := by omega
    rw [List.getElem?_set_self hl] at e
    cases e
    have := List.all_eq_true.mp w x hx
    rw [Bool.or_eq_true, decide_eq_true_eq] at this
    rcases this with z | z
    · omega
    · exact z
  · rw [List.getElem?_set_ne (Ne.symm q)] at e
    exact h2 i u hi e
section
variable {g : Pg} {bars : List Nat} {r : Nat → Addr} {h : Hep} {H : Hp}
theorem At.new {p : Addr} {o : Ob} {O : HO} (A : At g bars r h H) (hp : H p = none) (ho : RO g r h.length H o O) : At g bars (ext r h.length p) (h ++ [o]) (upd H p O) := ⟨A.rh.new hp ho, A.bo.new⟩
theorem At.grow {p : Addr} {o : Ob} {O : HO} (hp : H p = none) : Grow r h.length H (ext r h.length p) (h ++ [o]).length (upd H p O) := by
  rw [List.length_append, List.length_singleton]
  exact RH.grow hp
theorem At.ref {p : Addr} {o : Ob} {O : HO} : RV g (ext r h.length p) (h ++ [o]).length (upd H p O) (.ref h.length) (.ref p) := by
  have : RV g (ext r h.length p) (h ++ [o]).length (upd H p O) (.ref h.length) (.ref (ext r h.length p h.length)) := .ref (by simp)
  rwa [ext_at] at this
/-- a new object, its address the value -/
theorem At.alloc {W : Value → Option Addr → Hp → Prop} {Q : VK} {o : Ob} {O : HO} (A : At g bars r h H) (ho : RO g r h.length H o O) (q : RpV g bars W r h H Q (mkO o h)) : ∀ p, H p = none → Q (.ref p) (upd H p O) :=
  fun p hp => q _ _ _ (At.grow hp) (A.new hp ho) At.ref
/-- a new tuple: nothing of ours is laid -/
theorem At.tup {W : Value → Option Addr → Hp → Prop} {Q : VK} {l : List Va} {xs : List V} (A : At g bars r h H) (hl : RVs g r h.length H l xs) (hs : xs.length ≤ sizeLine) (q : RpV g bars W r h H Q (.ok (.tup l) h)) : ∀ p, H p = none → Q (.ref p) (upd H p (.tup xs)) :=
  fun p hp => by
    have G : Grow r h.length H r h.length (upd H p (.tup xs)) := Grow.newT hp
    refine q r _ _ G ⟨⟨A.rh.inj, fun i o e => ?_⟩, A.bo⟩ (.tup (.inl (.inl upd_same)) hs (hl.mono G))
    obtain ⟨O, e1, e2⟩ := A.rh.ob i o e
    exact ⟨O, by rw [upd_ne (ne_of_none e1 hp)]; exact e1, e2.mono G⟩
/-- a list of ours is a list of the layer's -/
theorem At.ls {K : PySem.W.Frag} {a : Nat} {l : List Va} (A : At g bars r h H) (e : lsAt h a = some l) : ∃ xs, SqL K H (r a) xs ∧ RVs g r h.length H l xs ∧ xs.length ≤ sizeLine := by
  unfold lsAt at e
  split at e
  · rename_i z q
    cases e
    obtain ⟨O, e1, e2⟩ := A.rh.ob a _ q
    cases e2 with
    | lst a b => exact ⟨_, .inl (.inl e1), a, b⟩
  · cases e
theorem At.lst {a : Nat} {l : List Va} (A : At g bars r h H) (e : h[a]? = some (.lst l)) : ∃ xs, H (r a) = some (.lst xs) ∧ RVs g r h.length H l xs ∧ xs.length ≤ sizeLine := by
  obtain ⟨O, e1, e2⟩ := A.rh.ob a _ e
  cases e2 with
  | lst a b => exact ⟨_, e1, a, b⟩
end
theorem line_le {n : Nat} (h : n ≤ line) : n ≤ sizeLine := Nat.le_trans h (by decide)
theorem RV.tupI {g : Pg} {r : Nat → Addr} {n : Nat} {H : Hp} {l : List Va} {x : V} (q : RV g r n H (.tup l) x) : ∃ a xs, x = .ref a ∧ SqT g.K H a xs ∧ xs.length ≤ sizeLine ∧ RVs g r n H l xs := by
  cases q with
  | tup a b c => exact ⟨_, _, rfl, a, b, c⟩

/-! ### operators -/
/-- an operator's reading from ours -/
def rB (g : Pg) (bars : List Nat) (f : Va → Va → Hep → Res Va) : R2 := fun x y H Q => ∃ r h a b, At g bars r h H ∧ RV g r h.length H a x ∧ RV g r h.length H b y ∧ RpV g bars (fun _ _ _ => False) r h H Q (f a b h)
section
variable {g : Pg} {X : Cx} {bars : List Nat}
theorem opr_imp {f : Value → Value → Sem Value} {r r' : R2} (o : OpR X f r) (h : ∀ x y H Q, r' x y H Q → r x y H Q) : OpR X f r' := fun pins s σ H x y v u Q I a b q => o pins s σ H x y v u Q I a b (h x y H Q q)
theorem sOk_app {a b : List Nat} (ha : sOk a = true) (hb : sOk b = true) (hl : (a ++ b).length ≤ line) : sOk (a ++ b) = true := by
  unfold sOk at *
  rw [Bool.and_eq_true, decide_eq_true_eq] at *
  exact ⟨hl, by rw [List.all_append, ha.2, hb.2]; rfl⟩
theorem S_app (a b : List Nat) : S a ++ S b = S (a ++ b) := by
  show Str.append _ _ = _
  simp [Str.append, S]
theorem sOk_len {a : List Nat} (h : sOk a = true) : a.length ≤ 100000 := by
  unfold sOk at h
  rw [Bool.and_eq_true, decide_eq_true_eq] at h
  exact h.1
theorem op_addOk (hK : X.K = g.K) : OpR X (binaryOp .Add) (rB g bars (binV .add)) := by
  intro pins s σ H x y v u Q I rx ry q
  obtain ⟨r, h, a, b, A, ra, rb, q⟩ := q
  cases ra with
  | int i =>
    cases rb with
    | int j => exact op_add pins s σ H _ _ v u Q I rx ry ⟨i, j, rfl, rfl, Rp.pure A (.int _) q⟩
    | _ => exact q.elim
  | str i hi =>
    cases rb with
    | str j hj =>
      have q' : RpV g bars (fun _ _ _ => False) r h H Q (newS (i ++ j) h) := q
      unfold newS at q'
      split at q'
      · rename_i hl
        have h1 := sOk_len hi
        have h2 := sOk_len hj
        refine op_add_str pins s σ H _ _ v u Q I rx ry ⟨_, _, rfl, rfl, by rw [S_len, S_len]; exact Nat.le_trans (Nat.add_le_add h1 h2) (by decide), ?_⟩
        rw [S_app]
        exact Rp.pure A (.str _ (sOk_app hi hj hl)) q'
      · exact q'.elim
    | _ => exact q.elim
  | tup h1 h2 h3 =>
    cases rb with
    | tup k1 k2 k3 =>
      rename_i l a xs m b ys
      have q' : RpV g bars (fun _ _ _ => False) r h H Q (if l.isEmpty then .stuck else newT (l ++ m) h) := q
      split at q'
      · exact q'.elim
      · rename_i hne
        unfold newT at q'
        split at q'
        · rename_i hl
          have hl' : xs.length + ys.length ≤ sizeLine := by
            rw [List.length_append, h3.length, k3.length] at hl
            exact line_le hl
          refine op_catT pins s σ H _ _ v u Q I rx ry ⟨_, _, xs, ys, rfl, rfl, by rw [hK]; exact h1, by rw [hK]; exact k1, ?_, hl', ?_, fun _ => ?_⟩
          · rintro rfl
            cases h3
            exact hne rfl
          · rintro rfl
            cases k3
            rw [List.append_nil] at q'
            exact Rp.pure A (.tup h1 h2 h3) q'
          · exact A.tup (h3.append k3) (by rw [List.length_append]; exact hl') q'
        · exact q'.elim
    | _ => exact q.elim
  | ref hi =>
    cases rb with
    | ref hj =>
      rename_i i j
      have q' : RpV g bars (fun _ _ _ => False) r h H Q (match h[i]?, h[j]? with
        | some (.lst l), some (.lst m) => newL (l ++ m) h
        | _, _ => .stuck) := q
      split at q'
      · rename_i l m e1 e2
        obtain ⟨xs, a1, a2, a3⟩ := A.lst e1
        obtain ⟨ys, b1, b2, b3⟩ := A.lst e2
        unfold newL at q'
        split at q'
        · rename_i hl
          have hl' : xs.length + ys.length ≤ sizeLine := by
            rw [List.length_append, a2.length, b2.length] at hl
            exact line_le hl
          exact op_cat pins s σ H _ _ v u Q I rx ry ⟨_, _, xs, ys, rfl, rfl, a1, b1, hl', A.alloc (.lst (a2.append b2) (by rw [List.length_append]; exact hl')) q'⟩
        · exact q'.elim
      · exact q'.elim
    | _ => exact q.elim
  | _ => cases rb <;> exact q.elim
theorem op_subOk : OpR X (binaryOp .Sub) (rB g bars (binV .sub)) := by
  refine opr_imp op_sub fun x y H Q q => ?_
  obtain ⟨r, h, a, b, A, ra, rb, q⟩ := q
  cases ra with
  | int i =>
    cases rb with
    | int j => exact ⟨i, j, rfl, rfl, Rp.pure A (.int _) q⟩
    | _ => exact q.elim
  | _ => cases rb <;> exact q.elim
theorem op_modOk : OpR X (binaryOp .Mod) (rB g bars (binV .mod)) := by
  refine opr_imp op_modN fun x y H Q q => ?_
  obtain ⟨r, h, a, b, A, ra, rb, q⟩ := q
  cases ra with
  | int i =>
    cases rb with
    | int j =>
      have q' : RpV g bars (fun _ _ _ => False) r h H Q (if j = 0 then .stuck else .ok (.int (i.fmod j)) h) := q
      split at q'
      · exact q'.elim
      · rename_i hj
        exact ⟨i, j, rfl, rfl, hj, Rp.pure A (.int _) q'⟩
    | _ => exact q.elim
  | _ => cases rb <;> exact q.elim
theorem op_fdivOk : OpR X (binaryOp .FloorDiv) (rB g bars (binV .fdiv)) := by
  refine opr_imp op_fdivN fun x y H Q q => ?_
  obtain ⟨r, h, a, b, A, ra, rb, q⟩ := q
  cases ra with
  | int i =>
    cases rb with
    | int j =>
      have q' : RpV g bars (fun _ _ _ => False) r h H Q (if j ≠ 0 ∧ j.natAbs < 1073741824 then .ok (.int (i.fdiv j)) h else .stuck) := q
      split at q'
      · rename_i hj
        exact ⟨i, j, rfl, rfl, hj, Rp.pure A (.int _) q'⟩
      · exact q'.elim
    | _ => exact q.elim
  | _ => cases rb <;> exact q.elim
theorem op_powOk : OpR X (binaryOp .Pow) (rB g bars (binV .pow)) := by
  refine opr_imp op_pow fun x y H Q q => ?_
  obtain ⟨r, h, a, b, A, ra, rb, q⟩ := q
  cases ra with
  | int i =>
    cases rb with
    | int j =>
      have q' : RpV g bars (fun _ _ _ => False) r h H Q (if 0 ≤ j ∧ j ≤ 1000 ∧ i.natAbs < 2 ^ 64 then .ok (.int (i ^ j.toNat)) h else .stuck) := q
      split at q'
      · rename_i hj
        exact ⟨i, j, rfl, rfl, ⟨hj.1, by omega, hj.2.2⟩, Rp.pure A (.int _) q'⟩
      · exact q'.elim
    | _ => exact q.elim
  | _ => cases rb <;> exact q.elim
theorem okI_of {i : Int} (h : okI i = true) : -(2 ^ 62) ≤ i ∧ i < 2 ^ 62 := by
  unfold okI at h
  rw [Bool.and_eq_true, decide_eq_true_eq, decide_eq_true_eq] at h
  exact h
theorem flat_len {α : Type} (l : List α) : ∀ n, (List.replicate n l).flatten.length = l.length * n
  | 0 => by simp
  | n + 1 => by
    rw [List.replicate_succ, List.flatten_cons, List.length_append, flat_len l n, Nat.mul_succ]
    omega
theorem flat_RVs {g : Pg} {r : Nat → Addr} {n : Nat} {H : Hp} {l : List Va} {xs : List V} (q : RVs g r n H l xs) : ∀ k, RVs g r n H (List.replicate k l).flatten (List.replicate k xs).flatten
  | 0 => .nil
  | k + 1 => by
    rw [List.replicate_succ, List.replicate_succ, List.flatten_cons, List.flatten_cons]
    exact q.append (flat_RVs q k)
theorem op_mulOk : OpR X (binaryOp .Mult) (rB g bars (binV .mul)) := by
  intro pins s σ H x y v u Q I rx ry q
  obtain ⟨r, h, a, b, A, ra, rb, q⟩ := q
  cases ra with
  | int i =>
    cases rb with
    | int j =>
      have q' : RpV g bars (fun _ _ _ => False) r h H Q (if okI i || okI j then .ok (.int (i * j)) h else .stuck) := q
      split at q'
      · rename_i hj
        refine op_mul pins s σ H _ _ v u Q I rx ry ⟨i, j, rfl, rfl, ?_, Rp.pure A (.int _) q'⟩
        rw [Bool.or_eq_true] at hj
        rcases hj with z | z
        · obtain ⟨z1, z2⟩ := okI_of z
          exact .inl ⟨by omega, by omega⟩
        · obtain ⟨z1, z2⟩ := okI_of z
          exact .inr ⟨by omega, by omega⟩
      · exact q'.elim
    | _ => exact q.elim
  | ref hi =>
    cases rb with
    | int j =>
      rename_i i
      have q' : RpV g bars (fun _ _ _ => False) r h H Q (match h[i]? with
        | some (.lst l) => if okI j && decide (l.length * j.toNat ≤ line) then newL (List.replicate j.toNat l).flatten h else .stuck
        | _ => .stuck) := q
      split at q'
      · rename_i l e1
        obtain ⟨xs, a1, a2, a3⟩ := A.lst e1
        split at q'
        · rename_i hj
          rw [Bool.and_eq_true, decide_eq_true_eq] at hj
          obtain ⟨z1, z2⟩ := okI_of hj.1
          unfold newL at q'
          split at q'
          · have hl : xs.length * j.toNat ≤ sizeLine := by rw [← a2.length]; exact line_le hj.2
            exact op_rep pins s σ H _ _ v u Q I rx ry ⟨_, j, xs, rfl, rfl, a1, by omega, by omega, hl, A.alloc (.lst (flat_RVs a2 _) (by rw [flat_len]; exact hl)) q'⟩
          · exact q'.elim
        · exact q'.elim
      · exact q'.elim
    | _ => exact q.elim
  | _ => cases rb <;> exact q.elim
end
end NL
end

section
namespace NL
open PySem PySem.Spec PyProof.Rows L2

section
variable {g : Pg} {X : Cx} {bars : List Nat} {r : Nat → Addr} {h : Hep} {H : Hp}
theorem strOk_S {l : List Nat} (q : sOk l = true) : PySem.PyData.canLay0 (.str (S l)) = true := by
  unfold PySem.PyData.canLay0
  unfold sOk at q
  rw [Bool.and_eq_true] at q
  show (S l).cps.all (· < 0x110000) = true
  simpa [S] using q.2
theorem allSome_cons {α : Type} {o : Option α} {l : List (Option α)} {ds : List α} (e : allSome (o :: l) = some ds) : ∃ d ds', o = some d ∧ allSome l = some ds' ∧ ds = d :: ds' := by
  cases o with
  | none => cases e
  | some d =>
    have e' : (allSome l).map (d :: ·) = some ds := e
    cases q : allSome l with
    | none => rw [q] at e'; cases e'
    | some ds' => rw [q] at e'; cases e'; exact ⟨d, ds', rfl, rfl, rfl⟩
theorem depthAll_le {k : Nat} : ∀ {ds : List PyData}, (∀ d ∈ ds, PyData.depth d ≤ k) → PyData.depthAll ds ≤ k
  | [], _ => Nat.zero_le _
  | d :: ds, q => by
    rw [PyData.depthAll]
    exact Nat.max_le.mpr ⟨q d (List.mem_cons_self ..), depthAll_le fun e he => q e (List.mem_cons_of_mem _ he)⟩
theorem toD_all (A : At g bars r h H) {k : Nat} (ih : ∀ (a : Va) (x : V) (d : PyData), RV g r h.length H a x → toD h k a = some d → Dp g.K H x d ∧ PyData.canLay0 d = true ∧ PyData.depth d ≤ k) :
    ∀ (l : List Va) (xs : List V) (ds : List PyData), RVs g r h.length H l xs → allSome (l.map (toD h k)) = some ds → DpAll g.K H xs ds ∧ PyData.canLayAll0 ds = true ∧ ∀ d ∈ ds, PyData.depth d ≤ k
  | [], _, _, q, e => by
    cases q
    cases e
    exact ⟨.nil, rfl, fun d hd => by cases hd⟩
  | a :: l, _, ds, q, e => by
    cases q with
    | cons q1 q2 =>
      rw [List.map_cons] at e
      obtain ⟨d, ds', e1, e2, rfl⟩ := allSome_cons e
      obtain ⟨z1, z2, z3⟩ := ih _ _ _ q1 e1
      obtain ⟨y1, y2, y3⟩ := toD_all A ih l _ _ q2 e2
      refine ⟨.cons z1 y1, by rw [PyData.canLayAll0, z2, y2]; rfl, fun d' hd => ?_⟩
      rcases List.mem_cons.mp hd with rfl | hd
      · exact z3
      · exact y3 d' hd
theorem toD_ok (A : At g bars r h H) : ∀ (k : Nat) (a : Va) (x : V) (d : PyData), RV g r h.length H a x → toD h k a = some d → Dp g.K H x d ∧ PyData.canLay0 d = true ∧ PyData.depth d ≤ k := by
  intro k
  induction k with
  | zero =>
    intro a x d q e
    cases q with
    | non => cases e; exact ⟨.non, rfl, Nat.le_refl _⟩
    | bl b => cases e; exact ⟨.bl b, rfl, Nat.le_refl _⟩
    | int b => cases e; exact ⟨.int b, rfl, Nat.le_refl _⟩
    | str b hb => cases e; exact ⟨.str _, strOk_S hb, Nat.le_refl _⟩
    | _ => cases e
  | succ k ih =>
    intro a x d q e
    cases q with
    | non => cases e; exact ⟨.non, rfl, Nat.zero_le _⟩
    | bl b => cases e; exact ⟨.bl b, rfl, Nat.zero_le _⟩
    | int b => cases e; exact ⟨.int b, rfl, Nat.zero_le _⟩
    | str b hb => cases e; exact ⟨.str _, strOk_S hb, Nat.zero_le _⟩
    | tup h1 h2 h3 =>
      rename_i l p xs
      have e' : (allSome (l.map (toD h k))).map PyData.tuple = some d := e
      cases q : allSome (l.map (toD h k)) with
      | none => rw [q] at e'; cases e'
      | some ds =>
        rw [q] at e'
        cases e'
        obtain ⟨z1, z2, z3⟩ := toD_all A ih _ _ _ h3 q
        exact ⟨.tup h1 z1, by rw [PyData.canLay0]; exact z2, by rw [PyData.depth]; exact Nat.succ_le_succ (depthAll_le z3)⟩
    | ref hi =>
      rename_i i
      have e' : (match lsAt h i with
        | some l => (allSome (l.map (toD h k))).map PyData.list
        | none => none) = some d := e
      cases q : lsAt h i with
      | none => rw [q] at e'; cases e'
      | some l =>
        rw [q] at e'
        obtain ⟨xs, s1, s2, s3⟩ := A.ls (K := g.K) q
        cases q2 : allSome (l.map (toD h k)) with
        | none => simp only [q2] at e'; cases e'
        | some ds =>
          simp only [q2] at e'
          cases e'
          obtain ⟨z1, z2, z3⟩ := toD_all A ih _ _ _ s2 q2
          exact ⟨.lst s1 z1, by rw [PyData.canLay0]; exact z2, by rw [PyData.depth]; exact Nat.succ_le_succ (depthAll_le z3)⟩
    | _ => cases e
theorem shaped_of {d : PyData} (h1 : PyData.canLay0 d = true) (h2 : PyData.depth d ≤ 60) : SeqAt.shaped d = true := by
  unfold SeqAt.shaped
  rw [h1, Bool.true_and, decide_eq_true_eq]
  omega
theorem eqS_ok (A : At g bars r h H) {a b : Va} {x y : V} {c : Bool} (ra : RV g r h.length H a x) (rb : RV g r h.length H b y) (e : eqS h a b = some c) :
    ∃ d e, Dp g.K H x d ∧ Dp g.K H y e ∧ SeqAt.shaped d = true ∧ SeqAt.shaped e = true ∧ c = PyData.eqv d e := by
  unfold eqS at e
  split at e
  · rename_i d d' e1 e2
    cases e
    obtain ⟨z1, z2, z3⟩ := toD_ok A 60 _ _ _ ra e1
    obtain ⟨y1, y2, y3⟩ := toD_ok A 60 _ _ _ rb e2
    exact ⟨d, d', z1, y1, shaped_of z2 z3, shaped_of y2 y3, rfl⟩
  · cases e
/-- the end of an answer True or False -/
theorem optR_ok {W : Value → Option Addr → Hp → Prop} {Q : VK} {o : Option Bool} (A : At g bars r h H) (q : RpV g bars W r h H Q (optR o h)) : ∃ b, o = some b ∧ Q (.bl b) H := by
  cases o with
  | none => exact q.elim
  | some b => exact ⟨b, rfl, Rp.pure A (.bl b) q⟩
theorem op_eqOk (hK : X.K = g.K) (hu : X.A.units + 64 < cLine) : OpR X (compareOp .Eq) (rB g bars (cmpV .eq)) := by
  refine opr_imp (op_eqD hu) fun x y H Q q => ?_
  obtain ⟨r, h, a, b, A, ra, rb, q⟩ := q
  obtain ⟨c, e, q⟩ := optR_ok A (show RpV g bars _ r h H Q (optR (eqS h a b) h) by cases a <;> cases b <;> exact q)
  obtain ⟨d, d', h1, h2, h3, h4, rfl⟩ := eqS_ok A ra rb e
  rw [hK]
  exact ⟨d, d', h1, h2, h3, h4, q⟩
theorem op_neOk (hK : X.K = g.K) (hu : X.A.units + 64 < cLine) : OpR X (compareOp .NotEq) (rB g bars (cmpV .ne)) := by
  refine opr_imp (op_neD hu) fun x y H Q q => ?_
  obtain ⟨r, h, a, b, A, ra, rb, q⟩ := q
  obtain ⟨c, e, q⟩ := optR_ok A (show RpV g bars _ r h H Q (optR (notO (eqS h a b)) h) by cases a <;> cases b <;> exact q)
  cases e2 : eqS h a b with
  | none => rw [e2] at e; cases e
  | some c2 =>
    rw [e2] at e
    cases e
    obtain ⟨d, d', h1, h2, h3, h4, rfl⟩ := eqS_ok A ra rb e2
    rw [hK]
    exact ⟨d, d', h1, h2, h3, h4, q⟩
theorem op_ordOk {op : CmpOp} {o : Co} {p : Int → Int → Bool} (ho : OpR X (compareOp op) (rI0 fun i j => .bl (p i j))) (e : ∀ i j h, cmpV o (.int i) (.int j) h = .ok (.bl (p i j)) h)
    (n : ∀ a b h, (∀ i j, a = .int i → b = .int j → False) → cmpV o a b h = .stuck) : OpR X (compareOp op) (rB g bars (cmpV o)) := by
  refine opr_imp ho fun x y H Q q => ?_
  obtain ⟨r, h, a, b, A, ra, rb, q⟩ := q
  cases a with
  | int i =>
    cases b with
    | int j =>
      cases ra
      cases rb
      rw [e] at q
      exact ⟨i, j, rfl, rfl, Rp.pure A (.bl _) q⟩
    | _ => rw [n _ _ _ (fun _ _ _ z => by cases z)] at q; exact q.elim
  | _ => rw [n _ _ _ (fun _ _ z _ => by cases z)] at q; exact q.elim
theorem op_ltOk : OpR X (compareOp .Lt) (rB g bars (cmpV .lt)) := op_ordOk op_lt (fun _ _ _ => rfl) fun a b h n => by cases a <;> cases b <;> first | rfl | exact (n _ _ rfl rfl).elim
theorem op_leOk : OpR X (compareOp .LtE) (rB g bars (cmpV .le)) := op_ordOk op_le (fun _ _ _ => rfl) fun a b h n => by cases a <;> cases b <;> first | rfl | exact (n _ _ rfl rfl).elim
theorem op_gtOk : OpR X (compareOp .Gt) (rB g bars (cmpV .gt)) := op_ordOk op_gt (fun _ _ _ => rfl) fun a b h n => by cases a <;> cases b <;> first | rfl | exact (n _ _ rfl rfl).elim
theorem op_geOk : OpR X (compareOp .GtE) (rB g bars (cmpV .ge)) := op_ordOk op_ge (fun _ _ _ => rfl) fun a b h n => by cases a <;> cases b <;> first | rfl | exact (n _ _ rfl rfl).elim
theorem RV.isNon {a : Va} {x : V} (q : RV g r n H a x) : decide (x = .non) = NL.isNon a := by
  cases q <;> simp [NL.isNon]
theorem op_isOk : OpR X (compareOp .Is) (rB g bars (cmpV .is)) := by
  refine opr_imp op_isN fun x y H Q q => ?_
  obtain ⟨r, h, a, b, A, ra, rb, q⟩ := q
  cases b with
  | non =>
    cases rb
    refine ⟨rfl, ?_⟩
    rw [RV.isNon ra]
    exact Rp.pure A (.bl _) q
  | _ => exact q.elim
theorem op_isnOk : OpR X (compareOp .IsNot) (rB g bars (cmpV .isn)) := by
  refine opr_imp op_notN fun x y H Q q => ?_
  obtain ⟨r, h, a, b, A, ra, rb, q⟩ := q
  cases b with
  | non =>
    cases rb
    refine ⟨rfl, ?_⟩
    rw [RV.isNon ra]
    exact Rp.pure A (.bl _) q
  | _ => exact q.elim
theorem flatV_of {a : Va} {x : V} (q : RV g r n H a x) (f : flat a = true) : flatV x = true := by
  cases q <;> first | rfl | cases f
theorem flatVs_of {l : List Va} {xs : List V} (q : RVs g r n H l xs) (f : l.all flat = true) : xs.all flatV = true := by
  induction l generalizing xs with
  | nil => cases q; rfl
  | cons a l ih =>
    cases q with
    | cons q1 q2 =>
      rw [List.all_cons, Bool.and_eq_true] at f
      rw [List.all_cons, flatV_of q1 f.1, ih q2 f.2]
      rfl
theorem S_beq (s t : List Nat) : (S s == S t) = (s == t) := by
  by_cases e : s = t
  · subst e; simp
  · have e2 : ¬ S s = S t := fun z => e (S_inj z)
    rw [beq_eq_false_iff_ne.mpr e, beq_eq_false_iff_ne.mpr e2]
theorem eqF_of {a b : Va} {x y : V} (p : RV g r n H a x) (q : RV g r n H b y) (f : flat a = true) (f' : flat b = true) : eqV x y = eqF a b := by
  cases p <;> cases q <;> first | rfl | (cases f; done) | (cases f'; done) | exact S_beq _ _
theorem inF_of {a : Va} {l : List Va} {x : V} {xs : List V} (p : RV g r n H a x) (q : RVs g r n H l xs) (f : flat a = true) (f' : l.all flat = true) : inV x xs = inF a l := by
  induction l generalizing xs with
  | nil => cases q; rfl
  | cons b l ih =>
    cases q with
    | cons q1 q2 =>
      rw [List.all_cons, Bool.and_eq_true] at f'
      have := ih q2 f'.2
      unfold inV inF at *
      rw [List.any_cons, List.any_cons, eqF_of q1 p f'.1 f, this]
theorem S_list (l : List Nat) : (S l).cps.toList = l := by simp [S]
theorem elem_dec (c : Nat) (l : List Nat) : decide (c ∈ l) = l.elem c := by
  by_cases e : c ∈ l
  · rw [decide_eq_true e, List.elem_eq_true_of_mem e]
  · rw [decide_eq_false e]
    cases q : l.elem c with
    | false => rfl
    | true => exact absurd (List.mem_of_elem_eq_true q) e
theorem inO_ok (A : At g bars r h H) {a b : Va} {x y : V} {c : Bool} (ra : RV g r h.length H a x) (rb : RV g r h.length H b y) (e : inO h a b = some c) :
    (∃ d z, x = .str ⟨#[d]⟩ ∧ y = .str z ∧ c = decide (d ∈ z.cps.toList)) ∨ (∃ p xs, y = .ref p ∧ (SqL g.K H p xs ∨ SqT g.K H p xs) ∧ flatV x = true ∧ xs.all flatV = true ∧ c = inV x xs) := by
  cases rb with
  | str t ht =>
    cases ra with
    | str z hz =>
      cases z with
      | nil => cases e
      | cons d z =>
        cases z with
        | cons _ _ => cases e
        | nil =>
          cases e
          exact .inl ⟨d, S t, rfl, rfl, by rw [S_list, elem_dec]⟩
    | _ => cases e
  | tup h1 h2 h3 =>
    rename_i l p xs
    have e' : (if flat a && l.all flat then some (inF a l) else none) = some c := e
    split at e'
    · rename_i hf
      rw [Bool.and_eq_true] at hf
      cases e'
      exact .inr ⟨_, xs, rfl, .inr h1, flatV_of ra hf.1, flatVs_of h3 hf.2, (inF_of ra h3 hf.1 hf.2).symm⟩
    · cases e'
  | ref hi =>
    rename_i i
    have e' : (match lsAt h i with
      | some l => if flat a && l.all flat then some (inF a l) else none
      | none => none) = some c := e
    split at e'
    · rename_i l e1
      obtain ⟨xs, s1, s2, s3⟩ := A.ls (K := g.K) e1
      split at e'
      · rename_i hf
        rw [Bool.and_eq_true] at hf
        cases e'
        exact .inr ⟨_, xs, rfl, .inl s1, flatV_of ra hf.1, flatVs_of s2 hf.2, (inF_of ra s2 hf.1 hf.2).symm⟩
      · cases e'
    · cases e'
  | _ => cases e
theorem op_inOk (hK : X.K = g.K) : OpR X (compareOp .In) (rB g bars (cmpV .isin)) := by
  intro pins s σ H x y v u Q I rx ry q
  obtain ⟨r, h, a, b, A, ra, rb, q⟩ := q
  obtain ⟨c, e, q⟩ := optR_ok A (show RpV g bars _ r h H Q (optR (inO h a b) h) by cases a <;> cases b <;> exact q)
  rcases inO_ok A ra rb e with ⟨d, z, rfl, rfl, rfl⟩ | ⟨p, xs, rfl, h1, h2, h3, rfl⟩
  · exact op_in_sign pins s σ H _ _ v u Q I rx ry ⟨d, z, rfl, rfl, q⟩
  · exact op_in_seq pins s σ H _ _ v u Q I rx ry ⟨p, xs, rfl, by rw [hK]; exact h1, h2, h3, by rw [if_neg (by decide)]; exact q⟩
theorem op_ninOk (hK : X.K = g.K) : OpR X (compareOp .NotIn) (rB g bars (cmpV .nin)) := by
  intro pins s σ H x y v u Q I rx ry q
  obtain ⟨r, h, a, b, A, ra, rb, q⟩ := q
  obtain ⟨c, e, q⟩ := optR_ok A (show RpV g bars _ r h H Q (optR (notO (inO h a b)) h) by cases a <;> cases b <;> exact q)
  cases e2 : inO h a b with
  | none => rw [e2] at e; cases e
  | some c2 =>
    rw [e2] at e
    cases e
    rcases inO_ok A ra rb e2 with ⟨d, z, rfl, rfl, rfl⟩ | ⟨p, xs, rfl, h1, h2, h3, rfl⟩
    · exact op_notIn_sign pins s σ H _ _ v u Q I rx ry ⟨d, z, rfl, rfl, q⟩
    · exact op_notIn_seq pins s σ H _ _ v u Q I rx ry ⟨p, xs, rfl, by rw [hK]; exact h1, h2, h3, by rw [if_pos rfl]; exact q⟩
end
end NL
end

section
namespace NL
open PySem PySem.Spec PyProof.Rows L2

section
variable {g : Pg} {X : Cx} {bars : List Nat} {r : Nat → Addr} {h : Hep} {H : Hp}
/-! ### items, slices -/
theorem ix_ok {l : List Va} {xs : List V} {i : Int} {v : Va} (q : RVs g r n H l xs) (e : (ixOf l.length i).bind (l[·]?) = some v) : ∃ x, atI xs i = some x ∧ RV g r n H v x := by
  unfold atI
  rw [← q.length]
  have e : (ixN l.length i).bind (l[·]?) = some v := e
  cases e2 : ixN l.length i with
  | none => rw [e2] at e; cases e
  | some k =>
    rw [e2] at e
    exact q.get e
/-- an item, by values; one of the layer's three rules -/
theorem e_sub {a b : Expr} {W : WX} {fa fb : Env' → Hep → Res Va} {pos : Pos} (hK : X.K = g.K) (ha : PE X a (tE g W bars fa)) (hb : PE X b (tE g W bars fb)) (hs : PlainIx b) :
    PE X (.Subscript a b pos) (tE g W bars fun e h => (fa e h).bd fun x h => (fb e h).bd fun y h => subV x y h) := by
  have rule : IxR X (rB g bars subV) := by
    intro value slice pins s σ H x y v u Q I rx ry q hs
    obtain ⟨r, h, a, b, A, ra, rb, q⟩ := q
    cases rb with
    | int i =>
      cases ra with
      | tup h1 h2 h3 =>
        rename_i l p xs
        have q' : RpV g bars (fun _ _ _ => False) r h H Q (match (ixOf l.length i).bind (l[·]?) with
          | some v => .ok v h
          | none => .stuck) := q
        split at q'
        · rename_i w e
          obtain ⟨z, e1, e2⟩ := ix_ok h3 e
          exact ix_tup value slice pins s σ H _ _ v u Q I rx ry ⟨p, xs, i, z, rfl, rfl, by rw [hK]; exact h1, e1, Rp.pure A e2 q'⟩ hs
        · exact q'.elim
      | str t ht =>
        have q' : RpV g bars (fun _ _ _ => False) r h H Q (match (ixOf t.length i).bind (t[·]?) with
          | some c => .ok (.str [c]) h
          | none => .stuck) := q
        split at q'
        · rename_i c e
          refine ix_str value slice pins s σ H _ _ v u Q I rx ry ⟨S t, i, c, rfl, rfl, by rw [S_len]; exact Nat.le_trans (sOk_len ht) (by decide), ?_, ?_⟩ hs
          · rw [S_list]; exact e
          · refine Rp.pure A (.str [c] ?_) q'
            unfold sOk at ht ⊢
            rw [Bool.and_eq_true] at ht
            have hm : c ∈ t := by
              cases e2 : ixOf t.length i with
              | none => rw [e2] at e; cases e
              | some k => rw [e2] at e; exact List.mem_of_getElem? e
            have := List.all_eq_true.mp ht.2 c hm
            simpa using this
        · exact q'.elim
      | ref hi =>
        rename_i k
        have q' : RpV g bars (fun _ _ _ => False) r h H Q (match lsAt h k with
          | some l => (match (ixOf l.length i).bind (l[·]?) with
            | some v => .ok v h
            | none => .stuck)
          | none => .stuck) := q
        split at q'
        · rename_i l e0
          obtain ⟨xs, s1, s2, s3⟩ := A.ls (K := X.K) e0
          split at q'
          · rename_i w e
            obtain ⟨z, e1, e2⟩ := ix_ok s2 e
            exact ix_list value slice pins s σ H _ _ v u Q I rx ry ⟨_, xs, i, z, rfl, rfl, s1, e1, Rp.pure A e2 q'⟩ hs
          · exact q'.elim
        · exact q'.elim
      | _ => exact q.elim
    | _ => cases ra <;> exact q.elim
  refine PE.imp (pe_ix rule ha hb hs) fun σ H Q q => ?_
  obtain ⟨r, e, h, A, E, q⟩ := q
  refine ⟨r, e, h, A, E, Rp.bd q fun v h1 r1 H1 x _ G A1 rv q1 => ⟨r1, e, h1, A1, E.mono G, Rp.bd q1 fun v2 h2 r2 H2 y _ G2 A2 rv2 q2 => ⟨r2, h2, v, v2, A2, rv.mono G2, rv2, ?_⟩⟩⟩
  revert q2
  cases e3 : subV v v2 h2 with
  | ok z h3 => exact id
  | stuck => exact id
  | exc c h3 =>
    exfalso
    unfold subV at e3
    repeat' split at e3
    all_goals cases e3
/-! ### expressions -/
/-- no exception comes of values alone -/
def noX {α : Type} (m : Res α) : Prop := ∀ c h, m ≠ .exc c h
theorem Rp.noX {α β : Type} {R : (Nat → Addr) → Nat → Hp → α → β → Prop} {W W' : Value → Option Addr → Hp → Prop} {Q : β → Hp → Prop} {m : Res α} (n : noX m) (q : Rp g bars R W r h H Q m) : Rp g bars R W' r h H Q m := by
  cases m with
  | ok v h1 => exact q
  | exc c h1 => exact absurd rfl (n c h1)
  | stuck => exact q
theorem noX_bin (o : Bo) (a b : Va) (h : Hep) : noX (binV o a b h) := by
  intro c h' e
  unfold binV newS newT newL mkO at e
  repeat' split at e
  all_goals cases e
theorem noX_cmp (o : Co) (a b : Va) (h : Hep) : noX (cmpV o a b h) := by
  intro c h' e
  unfold cmpV optR at e
  repeat' split at e
  all_goals cases e
theorem e_op {a b : Expr} {W : WX} {fa fb : Env' → Hep → Res Va} {op : Operator} {pos : Pos} {f : Va → Va → Hep → Res Va} (ho : OpR X (binaryOp op) (rB g bars f)) (hn : ∀ a b h, noX (f a b h)) (ha : PE X a (tE g W bars fa)) (hb : PE X b (tE g W bars fb)) :
    PE X (.BinOp a op b pos) (tE g W bars fun e h => (fa e h).bd fun x h => (fb e h).bd fun y h => f x y h) := by
  refine PE.imp (pe_op ho ha hb) fun σ H Q q => ?_
  obtain ⟨r, e, h, A, E, q⟩ := q
  exact ⟨r, e, h, A, E, Rp.bd q fun v h1 r1 H1 x _ G A1 rv q1 => ⟨r1, e, h1, A1, E.mono G, Rp.bd q1 fun v2 h2 r2 H2 y _ G2 A2 rv2 q2 => ⟨r2, h2, v, v2, A2, rv.mono G2, rv2, q2.noX (hn _ _ _)⟩⟩⟩
theorem e_cmp {a b : Expr} {W : WX} {fa fb : Env' → Hep → Res Va} {op : CmpOp} {pos : Pos} {f : Va → Va → Hep → Res Va} (ho : OpR X (compareOp op) (rB g bars f)) (hn : ∀ a b h, noX (f a b h)) (hm : behindInMarks op b = false) (ha : PE X a (tE g W bars fa)) (hb : PE X b (tE g W bars fb)) :
    PE X (.Compare a [op] [b] pos) (tE g W bars fun e h => (fa e h).bd fun x h => (fb e h).bd fun y h => f x y h) := by
  refine PE.imp (pe_cmpR ho ha hb hm) fun σ H Q q => ?_
  obtain ⟨r, e, h, A, E, q⟩ := q
  exact ⟨r, e, h, A, E, Rp.bd q fun v h1 r1 H1 x _ G A1 rv q1 => ⟨r1, e, h1, A1, E.mono G, Rp.bd q1 fun v2 h2 r2 H2 y _ G2 A2 rv2 q2 => ⟨r2, h2, v, v2, A2, rv.mono G2, rv2, q2.noX (hn _ _ _)⟩⟩⟩
/-- a test's reading from a value's -/
theorem tB_of {W : WX} {f : Env' → Hep → Res Va} : ∀ σ H Q, tT g W bars f σ H Q → tB (tE g W bars f) σ H Q := by
  intro σ H Q q
  obtain ⟨r, e, h, A, E, hb, q⟩ := q
  refine ⟨r, e, h, A, E, ?_⟩
  cases m : f e h with
  | stuck => rw [m] at q; exact q
  | exc c h1 => rw [m] at q; exact q
  | ok v h1 =>
    rw [m] at q
    obtain ⟨b, rfl⟩ := hb v h1 m
    intro r1 H1 x G A1 rv
    cases rv
    exact ⟨b, rfl, q r1 H1 b G A1 rfl⟩
theorem t_cmp {a b : Expr} {W : WX} {fa fb : Env' → Hep → Res Va} {op : CmpOp} {pos : Pos} {f : Va → Va → Hep → Res Va} (ho : OpR X (compareOp op) (rB g bars f)) (hn : ∀ a b h, noX (f a b h)) (hm : behindInMarks op b = false) (ha : PE X a (tE g W bars fa)) (hb : PE X b (tE g W bars fb)) :
    PT X (.Compare a [op] [b] pos) (tT g W bars fun e h => (fa e h).bd fun x h => (fb e h).bd fun y h => f x y h) := by
  refine PT.imp (pt_cmpR ho ha hb hm) fun σ H Q q => ?_
  have q2 := tB_of (g := g) (bars := bars) σ H Q q
  obtain ⟨r, e, h, A, E, q⟩ := q2
  exact ⟨r, e, h, A, E, Rp.bd q fun v h1 r1 H1 x _ G A1 rv q1 => ⟨r1, e, h1, A1, E.mono G, Rp.bd q1 fun v2 h2 r2 H2 y _ G2 A2 rv2 q2 => ⟨r2, h2, v, v2, A2, rv.mono G2, rv2, q2.noX (hn _ _ _)⟩⟩⟩
theorem e_lit {W : WX} {e : Expr} {x : V} {v : Va} (he : PE X e (tC x)) (hv : ∀ r n H, RV g r n H v x) : PE X e (tE g W bars fun _ h => .ok v h) := by
  refine PE.imp he fun σ H Q q => ?_
  obtain ⟨r, e, h, A, E, q⟩ := q
  exact Rp.pure A (hv _ _ _) q
theorem e_var {W : WX} {i : Nat} {x : Str} {pos : Pos} (hN : X.N[i]? = some x) (hv : Vis X.env.scope x) (hd : (x == ("__debug__" : Str)) = false) (hcd : (x == ("__classdict__" : Str)) = false) :
    PE X (.Name x pos) (tE g W bars fun e h => match e[i]? with
      | some (some v) => .ok v h
      | _ => .stuck) := by
  refine PE.imp (pe_var hN hv hd hcd) fun σ H Q q => ?_
  obtain ⟨r, e, h, A, E, q⟩ := q
  dsimp only at q
  split at q
  · rename_i v e1
    obtain ⟨y, e2, rv⟩ := E.get e1
    exact ⟨y, e2, Rp.pure A rv q⟩
  · exact q.elim
theorem e_neg {a : Expr} {W : WX} {fa : Env' → Hep → Res Va} {pos : Pos} (ha : PE X a (tE g W bars fa)) : PE X (.UnaryOp .USub a pos) (tE g W bars fun e h => (fa e h).bd negV) := by
  refine PE.imp (pe_un un_neg ha) fun σ H Q q => ?_
  obtain ⟨r, e, h, A, E, q⟩ := q
  refine ⟨r, e, h, A, E, Rp.bd q fun v h1 r1 H1 x _ G A1 rv q1 => ?_⟩
  cases rv with
  | int i => exact ⟨i, rfl, Rp.pure A1 (.int _) q1⟩
  | _ => exact q1.elim
abbrev notR (x : Va) (h : Hep) : Res Va := match x with
  | .bl b => .ok (.bl (!b)) h
  | _ => .stuck
theorem e_not {a : Expr} {W : WX} {fa : Env' → Hep → Res Va} {pos : Pos} (ha : PE X a (tE g W bars fa)) : PE X (.UnaryOp .Not a pos) (tE g W bars fun e h => (fa e h).bd notR) := by
  refine PE.imp (pe_not ha) fun σ H Q q => ?_
  obtain ⟨r, e, h, A, E, q⟩ := q
  refine ⟨r, e, h, A, E, Rp.bd q fun v h1 r1 H1 x _ G A1 rv q1 => ?_⟩
  cases rv with
  | bl i => exact ⟨i, rfl, Rp.pure A1 (.bl _) q1⟩
  | _ => exact q1.elim
theorem e_and {a b : Expr} {rest : List Expr} {W : WX} {fa fb : Env' → Hep → Res Va} {pos : Pos} (ha : PE X a (tE g W bars fa)) (hb : PE X (.BoolOp .And (b :: rest) pos) (tE g W bars fb)) :
    PE X (.BoolOp .And (a :: b :: rest) pos) (tE g W bars fun e h => (fa e h).bd fun x h => match x with
      | .bl true => fb e h
      | .bl false => .ok (.bl false) h
      | _ => .stuck) := by
  refine PE.imp (pe_and ha hb) fun σ H Q q => ?_
  obtain ⟨r, e, h, A, E, q⟩ := q
  refine ⟨r, e, h, A, E, Rp.bd q fun v h1 r1 H1 x _ G A1 rv q1 => ?_⟩
  cases rv with
  | bl c =>
    cases c with
    | true => exact ⟨true, rfl, iteT ⟨r1, e, h1, A1, E.mono G, q1⟩⟩
    | false => exact ⟨false, rfl, iteF (Rp.pure A1 (.bl _) q1)⟩
  | _ => exact q1.elim
theorem e_or {a b : Expr} {rest : List Expr} {W : WX} {fa fb : Env' → Hep → Res Va} {pos : Pos} (ha : PE X a (tE g W bars fa)) (hb : PE X (.BoolOp .Or (b :: rest) pos) (tE g W bars fb)) :
    PE X (.BoolOp .Or (a :: b :: rest) pos) (tE g W bars fun e h => (fa e h).bd fun x h => match x with
      | .bl true => .ok (.bl true) h
      | .bl false => fb e h
      | _ => .stuck) := by
  refine PE.imp (pe_or ha hb) fun σ H Q q => ?_
  obtain ⟨r, e, h, A, E, q⟩ := q
  refine ⟨r, e, h, A, E, Rp.bd q fun v h1 r1 H1 x _ G A1 rv q1 => ?_⟩
  cases rv with
  | bl c =>
    cases c with
    | true => exact ⟨true, rfl, iteT (Rp.pure A1 (.bl _) q1)⟩
    | false => exact ⟨false, rfl, iteF ⟨r1, e, h1, A1, E.mono G, q1⟩⟩
  | _ => exact q1.elim
/-- a bool's reading, one more value -/
theorem Rp.tst {W : Value → Option Addr → Hp → Prop} {Q : Bool → Hp → Prop} {m : Res Va} {f : Va → Hep → Res Va} (hb : ∀ v h', m.bd f = .ok v h' → ∃ b, v = .bl b) (q : RpB g bars W r h H Q (m.bd f)) (hs : ∀ v h, (∀ b, v ≠ .bl b) → f v h = .stuck) : ∀ v h', m = .ok v h' → ∃ b, v = .bl b := by
  intro v h' e
  subst e
  rw [Res.bd_ok] at q
  cases v with
  | bl b => exact ⟨b, rfl⟩
  | _ => rw [hs _ _ (fun b z => by cases z)] at q; exact q.elim
theorem t_val {e : Expr} {W : WX} {f : Env' → Hep → Res Va} (ha : PE X e (tE g W bars f)) (he : ∀ whole, isTrue e X.env whole = (do let v ← whole; standAt e.pos; holding [v] (truthy v))) : PT X e (tT g W bars f) :=
  PT.imp (pt_val ha he) tB_of
theorem t_not {a : Expr} {W : WX} {fa : Env' → Hep → Res Va} {pos : Pos} (ha : PT X a (tT g W bars fa)) : PT X (.UnaryOp .Not a pos) (tT g W bars fun e h => (fa e h).bd notR) := by
  refine PT.imp (pt_not ha) fun σ H Q q => ?_
  obtain ⟨r, e, h, A, E, hb, q⟩ := q
  dsimp only at q hb
  have hb' := Rp.tst hb q fun v h n => by cases v <;> first | rfl | exact absurd rfl (n _)
  refine ⟨r, e, h, A, E, hb', Rp.bd q fun v h1 r1 H1 x m G A1 rv q1 => ?_⟩
  subst rv
  exact Rp.pure A1 rfl q1
theorem t_and {a b : Expr} {rest : List Expr} {W : WX} {fa fb : Env' → Hep → Res Va} {pos : Pos} (ha : PT X a (tT g W bars fa)) (hb : PW X (.BoolOp .And (b :: rest) pos) (tT g W bars fb)) :
    PW X (.BoolOp .And (a :: b :: rest) pos) (tT g W bars fun e h => (fa e h).bd fun x h => match x with
      | .bl true => fb e h
      | .bl false => .ok (.bl false) h
      | _ => .stuck) := by
  refine ⟨fun wh pins s σ H Q I q => (pw_and ha hb).run wh pins s σ H Q I ?_⟩
  obtain ⟨r, e, h, A, E, hb, q⟩ := q
  dsimp only at q hb
  have hb' := Rp.tst hb q fun v h n => by cases v <;> first | rfl | exact absurd rfl (n _)
  refine ⟨r, e, h, A, E, hb', Rp.bd q fun v h1 r1 H1 x m G A1 rv q1 => ?_⟩
  subst rv
  cases x with
  | true => exact iteT ⟨r1, e, h1, A1, E.mono G, fun v h' z => hb v h' (by rw [m]; exact z), q1⟩
  | false => exact iteF (Rp.pure A1 rfl q1)
theorem t_or {a b : Expr} {rest : List Expr} {W : WX} {fa fb : Env' → Hep → Res Va} {pos : Pos} (ha : PT X a (tT g W bars fa)) (hb : PW X (.BoolOp .Or (b :: rest) pos) (tT g W bars fb)) :
    PW X (.BoolOp .Or (a :: b :: rest) pos) (tT g W bars fun e h => (fa e h).bd fun x h => match x with
      | .bl true => .ok (.bl true) h
      | .bl false => fb e h
      | _ => .stuck) := by
  refine ⟨fun wh pins s σ H Q I q => (pw_or ha hb).run wh pins s σ H Q I ?_⟩
  obtain ⟨r, e, h, A, E, hb, q⟩ := q
  dsimp only at q hb
  have hb' := Rp.tst hb q fun v h n => by cases v <;> first | rfl | exact absurd rfl (n _)
  refine ⟨r, e, h, A, E, hb', Rp.bd q fun v h1 r1 H1 x m G A1 rv q1 => ?_⟩
  subst rv
  cases x with
  | true => exact iteT (Rp.pure A1 rfl q1)
  | false => exact iteF ⟨r1, e, h1, A1, E.mono G, fun v h' z => hb v h' (by rw [m]; exact z), q1⟩
theorem e_ifx {c a b : Expr} {W : WX} {fc fa fb : Env' → Hep → Res Va} {pos : Pos} (hc : PT X c (tT g W bars fc)) (ha : PE X a (tE g W bars fa)) (hb : PE X b (tE g W bars fb)) :
    PE X (.IfExp c a b pos) (tE g W bars fun e h => (fc e h).bd fun x h => match x with
      | .bl true => fa e h
      | .bl false => fb e h
      | _ => .stuck) := by
  refine PE.imp (pe_ifExp hc ha hb) fun σ H Q q => ?_
  obtain ⟨r, e, h, A, E, q⟩ := q
  dsimp only at q
  have hb' : ∀ v h', fc e h = .ok v h' → ∃ b, v = .bl b := by
    intro v h' m
    rw [m, Res.bd_ok] at q
    cases v with
    | bl b => exact ⟨b, rfl⟩
    | _ => exact q.elim
  refine ⟨r, e, h, A, E, hb', ?_⟩
  revert q
  cases m : fc e h with
  | stuck => exact id
  | exc c h1 => exact id
  | ok v h1 =>
    obtain ⟨b, rfl⟩ := hb' v h1 m
    intro q r1 H1 x G A1 rv
    cases rv
    cases b with
    | true => exact iteT ⟨r1, e, h1, A1, E.mono G, lift G q⟩
    | false => exact iteF ⟨r1, e, h1, A1, E.mono G, lift G q⟩
where
  lift {σ : L2.St} {Q : VK} {r r1 : Nat → Addr} {h h1 : Hep} {H H1 : Hp} {m : Res Va} (G : Grow r h.length H r1 h1.length H1) (q : RpV g bars (fun c d H => W c d σ H) r h H Q m) : RpV g bars (fun c d H => W c d σ H) r1 h1 H1 Q m := by
    cases m with
    | stuck => exact q
    | exc c h2 => exact fun r2 H2 cls d G2 A2 e => q r2 H2 cls d (G.trans G2) A2 e
    | ok v2 h2 => exact fun r2 H2 y G2 A2 e => q r2 H2 y (G.trans G2) A2 e
end
end NL
end

section
namespace NL
open PySem PySem.Spec PyProof.Rows L2

section
variable {g : Pg} {X : Cx} {bars : List Nat} {r : Nat → Addr} {h : Hep} {H : Hp}
/-! ### argument lists, displays -/
theorem a_nil {W : WX} : PA X [] (tAs g W bars fun _ h => .ok [] h) := by
  refine PA.imp pa_nil fun σ H Q q => ?_
  obtain ⟨r, e, h, A, E, q⟩ := q
  exact Rp.pure A .nil q
theorem a_cons {a : Expr} {es : List Expr} {W : WX} {fa : Env' → Hep → Res Va} {fs : Env' → Hep → Res (List Va)} (ha : PE X a (tE g W bars fa)) (hs : PA X es (tAs g W bars fs)) (hst : starEach (a :: es) X.env = (false, eval a X.env) :: starEach es X.env) :
    PA X (a :: es) (tAs g W bars fun e h => (fa e h).bd fun x h => (fs e h).bd fun l h => .ok (x :: l) h) := by
  refine PA.imp (pa_cons ha hs hst) fun σ H Q q => ?_
  obtain ⟨r, e, h, A, E, q⟩ := q
  exact ⟨r, e, h, A, E, Rp.bd q fun v h1 r1 H1 x _ G A1 rv q1 => ⟨r1, e, h1, A1, E.mono G, Rp.bd q1 fun l h2 r2 H2 xs _ G2 A2 rl q2 => Rp.pure A2 (.cons (rv.mono G2) rl) q2⟩⟩
theorem e_tup {es : List Expr} {W : WX} {fs : Env' → Hep → Res (List Va)} {pos : Pos} {k : Nat} (hs : PA X es (tAs g W bars fs)) : PE X (.Tuple es k pos) (tE g W bars fun e h => (fs e h).bd newT) := by
  refine PE.imp (pe_tup hs) fun σ H Q q => ?_
  obtain ⟨r, e, h, A, E, q⟩ := q
  refine ⟨r, e, h, A, E, Rp.bd q fun l h1 r1 H1 xs _ G A1 rl q1 => ?_⟩
  unfold newT at q1
  split at q1
  · rename_i hl
    rw [rl.length] at hl
    exact ⟨line_le hl, A1.tup rl (line_le hl) q1⟩
  · exact q1.elim
theorem e_lst {es : List Expr} {W : WX} {fs : Env' → Hep → Res (List Va)} {pos : Pos} (hs : PA X es (tAs g W bars fs)) : PE X (.List es pos) (tE g W bars fun e h => (fs e h).bd newL) := by
  refine PE.imp (pe_lst hs) fun σ H Q q => ?_
  obtain ⟨r, e, h, A, E, q⟩ := q
  refine ⟨r, e, h, A, E, Rp.bd q fun l h1 r1 H1 xs _ G A1 rl q1 => ?_⟩
  unfold newL at q1
  split at q1
  · rename_i hl
    rw [rl.length] at hl
    exact ⟨line_le hl, A1.alloc (.lst rl (line_le hl)) q1⟩
  · exact q1.elim
/-! ### chains -/
abbrev chR (C : Hep → Res Va) (f : Va → Va → Hep → Res Va) (y z : Va) (h : Hep) : Res Va := match z with
  | .bl true => (C h).bd fun w h => f y w h
  | .bl false => .ok (.bl false) h
  | _ => .stuck
theorem tChain_of {a b c : Expr} {W : WX} {fa fb fc : Env' → Hep → Res Va} {f f' : Va → Va → Hep → Res Va} (hn : ∀ a b h, noX (f a b h)) (hn' : ∀ a b h, noX (f' a b h)) :
    ∀ σ H Q, tE g W bars (fun e h => (fa e h).bd fun x h => (fb e h).bd fun y h => (f x y h).bd fun z h => chR (fc e) f' y z h) σ H Q → tChain (rB g bars f) (rB g bars f') (tE g W bars fa) (tE g W bars fb) (tE g W bars fc) σ H Q := by
  intro σ H Q q
  obtain ⟨r, e, h, A, E, q⟩ := q
  refine ⟨r, e, h, A, E, Rp.bd q fun v h1 r1 H1 x _ G A1 rv q1 => ⟨r1, e, h1, A1, E.mono G, Rp.bd q1 fun v2 h2 r2 H2 y _ G2 A2 rv2 q2 => ⟨r2, h2, v, v2, A2, rv.mono G2, rv2, Rp.noX (hn _ _ _) (Rp.bd q2 fun v3 h3 r3 H3 z _ G3 A3 rv3 q3 => ?_)⟩⟩⟩
  cases rv3 with
  | bl k =>
    cases k with
    | true => exact ⟨true, rfl, iteT ⟨r3, e, h3, A3, ((E.mono G).mono G2).mono G3, Rp.bd q3 fun v4 h4 r4 H4 w _ G4 A4 rv4 q4 => ⟨r4, h4, v2, v4, A4, (rv2.mono G3).mono G4, rv4, Rp.noX (hn' _ _ _) q4⟩⟩⟩
    | false => exact ⟨false, rfl, iteF (Rp.pure A3 (.bl _) q3)⟩
  | _ => exact q3.elim
theorem e_chn {a b c : Expr} {W : WX} {fa fb fc : Env' → Hep → Res Va} {f f' : Va → Va → Hep → Res Va} {op op' : CmpOp} {pos : Pos} (hn : ∀ a b h, noX (f a b h)) (hn' : ∀ a b h, noX (f' a b h)) (ho : OpR X (compareOp op) (rB g bars f)) (ho' : OpR X (compareOp op') (rB g bars f'))
    (hm : lastMarks [op, op'] [b, c] = false) (ha : PE X a (tE g W bars fa)) (hb : PE X b (tE g W bars fb)) (hc : PE X c (tE g W bars fc)) :
    PE X (.Compare a [op, op'] [b, c] pos) (tE g W bars fun e h => (fa e h).bd fun x h => (fb e h).bd fun y h => (f x y h).bd fun z h => chR (fc e) f' y z h) :=
  PE.imp (pe_chain ho ho' ha hb hc hm) (tChain_of (a := a) (b := b) (c := c) hn hn')
theorem t_chn {a b c : Expr} {W : WX} {fa fb fc : Env' → Hep → Res Va} {f f' : Va → Va → Hep → Res Va} {op op' : CmpOp} {pos : Pos} (hn : ∀ a b h, noX (f a b h)) (hn' : ∀ a b h, noX (f' a b h)) (ho : OpR X (compareOp op) (rB g bars f)) (ho' : OpR X (compareOp op') (rB g bars f'))
    (hm : lastMarks [op, op'] [b, c] = false) (ha : PE X a (tE g W bars fa)) (hb : PE X b (tE g W bars fb)) (hc : PE X c (tE g W bars fc)) :
    PT X (.Compare a [op, op'] [b, c] pos) (tT g W bars fun e h => (fa e h).bd fun x h => (fb e h).bd fun y h => (f x y h).bd fun z h => chR (fc e) f' y z h) :=
  PT.imp (pt_chain ho ho' ha hb hc hm) fun σ H Q q => tChain_of (a := a) (b := b) (c := c) hn hn' σ H _ (tB_of σ H Q q)
/-! ### slices -/
def tP (g : Pg) (W : WX) (bars : List Nat) (f : Env' → Hep → Res (Option Int)) : TO := fun σ H Q => ∃ r e h, At g bars r h H ∧ RE g r h.length H e σ ∧ Rp (α := Option Int) (β := Option Int) g bars (fun _ _ _ v o => v = o) (fun c d H => W c d σ H) r h H Q (f e h)
theorem PO.imp {X : Cx} {e : Option Expr} {t t' : TO} (a : PO X e t) (h : ∀ σ H Q, t' σ H Q → t σ H Q) : PO X e t' := ⟨fun pins s σ H Q I q => a.run pins s σ H Q I (h σ H Q q)⟩
theorem p_no {W : WX} : PO X none (tP g W bars fun _ h => .ok none h) := by
  refine PO.imp po_none fun σ H Q q => ?_
  obtain ⟨r, e, h, A, E, q⟩ := q
  exact Rp.pure A rfl q
theorem p_ex {a : Expr} {W : WX} {fa : Env' → Hep → Res Va} (ha : PE X a (tE g W bars fa)) : PO X (some a) (tP g W bars fun e h => (fa e h).bd fun x h => match x with
    | .int i => .ok (some i) h
    | _ => .stuck) := by
  refine PO.imp (po_some ha) fun σ H Q q => ?_
  obtain ⟨r, e, h, A, E, q⟩ := q
  refine ⟨r, e, h, A, E, Rp.bd q fun v h1 r1 H1 x _ G A1 rv q1 => ?_⟩
  cases rv with
  | int i => exact ⟨i, rfl, Rp.pure A1 rfl q1⟩
  | _ => exact q1.elim
theorem sliL_RVs {l : List Va} {xs : List V} {lo hi : Option Int} (q : RVs g r n H l xs) : RVs g r n H (sliL l lo hi) (cutV xs lo hi) := by
  unfold sliL cutV
  rw [q.length]
  exact (q.drop _).take _
theorem sliL_len {l : List Nat} {lo hi : Option Int} (q : sOk l = true) : sOk (sliL l lo hi) = true := by
  unfold sOk at *
  rw [Bool.and_eq_true, decide_eq_true_eq] at *
  unfold sliL
  refine ⟨Nat.le_trans (by rw [List.length_take, List.length_drop]; omega) q.1, ?_⟩
  rw [List.all_eq_true] at *
  exact fun c hc => q.2 c (List.mem_of_mem_drop (List.mem_of_mem_take hc))
theorem cutS_S (l : List Nat) (lo hi : Option Int) : cutS (S l) lo hi = S (sliL l lo hi) := by
  unfold cutS sliL S
  simp [Str.length]
theorem sl_all (hK : X.K = g.K) : SlR X (fun x lo hi H Q => ∃ r h a, At g bars r h H ∧ RV g r h.length H a x ∧ RpV g bars (fun _ _ _ => False) r h H Q (sliV a lo hi h)) := by
  intro pins s σ H x v vl vu lo hi sl Q I rx hs pl pu q
  obtain ⟨r, h, a, A, ra, q⟩ := q
  cases ra with
  | str t ht =>
    refine sl_str pins s σ H _ v vl vu lo hi sl Q I rx hs pl pu ⟨S t, rfl, by rw [S_len]; exact Nat.le_trans (sOk_len ht) (by decide), ?_⟩
    rw [cutS_S]
    exact Rp.pure A (.str _ (sliL_len ht)) q
  | tup h1 h2 h3 =>
    rename_i l p xs
    have q' : RpV g bars (fun _ _ _ => False) r h H Q (.ok (.tup (sliL l lo hi)) h) := q
    refine sl_tupA pins s σ H _ v vl vu lo hi sl Q I rx hs pl pu ⟨p, xs, rfl, by rw [hK]; exact h1, fun w => ?_, fun _ => ?_⟩
    · have e : sliL l lo hi = l := by
        unfold sliL
        rw [h3.length, w.1, w.2, List.drop_zero, Nat.sub_zero, ← h3.length, List.take_length]
      rw [e] at q'
      exact Rp.pure A (.tup h1 h2 h3) q'
    · exact A.tup (sliL_RVs h3) (Nat.le_trans (by unfold cutV; rw [List.length_take, List.length_drop]; omega) h2) q'
  | kl k1 k2 k3 =>
    rename_i l p xs
    have q' : RpV g bars (fun _ _ _ => False) r h H Q (mkO (.lst (sliL l lo hi)) h) := q
    exact sl_list pins s σ H _ v vl vu lo hi sl Q I rx hs pl pu ⟨p, xs, rfl, by rw [hK]; exact k1.sq, A.alloc (.lst (sliL_RVs k3) (Nat.le_trans (by unfold cutV; rw [List.length_take, List.length_drop]; omega) k2)) q'⟩
  | ref hi' =>
    rename_i k
    have q' : RpV g bars (fun _ _ _ => False) r h H Q (match lsAt h k with
      | some l => mkO (.lst (sliL l lo hi)) h
      | none => .stuck) := q
    split at q'
    · rename_i l e0
      obtain ⟨xs, s1, s2, s3⟩ := A.ls (K := X.K) e0
      exact sl_list pins s σ H _ v vl vu lo hi sl Q I rx hs pl pu ⟨_, xs, rfl, s1, A.alloc (.lst (sliL_RVs s2) (Nat.le_trans (by unfold cutV; rw [List.length_take, List.length_drop]; omega) s3)) q'⟩
    · exact q'.elim
  | _ => exact q.elim
theorem noX_sli (a : Va) (lo hi : Option Int) (h : Hep) : noX (sliV a lo hi h) := by
  intro c h' e
  unfold sliV mkO at e
  repeat' split at e
  all_goals cases e
theorem e_sli {a : Expr} {lo hi : Option Expr} {W : WX} {fa : Env' → Hep → Res Va} {fl fh : Env' → Hep → Res (Option Int)} {pos p2 : Pos} (hK : X.K = g.K) (ha : PE X a (tE g W bars fa)) (hl : PO X lo (tP g W bars fl)) (hh : PO X hi (tP g W bars fh)) :
    PE X (.Subscript a (.Slice lo hi none p2) pos) (tE g W bars fun e h => (fa e h).bd fun x h => (fl e h).bd fun y h => (fh e h).bd fun z h => sliV x y z h) := by
  refine PE.imp (pe_slice (sl_all (bars := bars) hK) ha hl hh) fun σ H Q q => ?_
  obtain ⟨r, e, h, A, E, q⟩ := q
  refine ⟨r, e, h, A, E, Rp.bd q fun v h1 r1 H1 x _ G A1 rv q1 => ⟨r1, e, h1, A1, E.mono G, Rp.bd q1 fun v2 h2 r2 H2 y _ G2 A2 rv2 q2 => ⟨r2, e, h2, A2, (E.mono G).mono G2, Rp.bd q2 fun v3 h3 r3 H3 z _ G3 A3 rv3 q3 => ?_⟩⟩⟩
  subst rv2 rv3
  exact ⟨r3, h3, v, A3, (rv.mono G2).mono G3, Rp.noX (noX_sli _ _ _ _) q3⟩
/-! ### built-in functions -/
/-- a call's reading from ours -/
def rC (g : Pg) (bars : List Nat) (f : List Va → Hep → Res Va) : List V → Hp → VK → Prop := fun xs H Q => ∃ r h l, At g bars r h H ∧ RVs g r h.length H l xs ∧ RpV g bars (fun _ _ _ => False) r h H Q (f l h)
theorem callr_imp {f : Value} {r r' : List V → Hp → VK → Prop} (o : CallR X f r) (h : ∀ x H Q, r' x H Q → r x H Q) : CallR X f r' := fun pins s σ H x u Q I a q => o pins s σ H x u Q I a (h x H Q q)
theorem RVs.one {a : Va} {xs : List V} (q : RVs g r n H [a] xs) : ∃ x, xs = [x] ∧ RV g r n H a x := by
  cases q with
  | cons a b => cases b; exact ⟨_, rfl, a⟩
theorem c_len (hK : X.K = g.K) : CallR X (.builtin "len") (rC g bars (bltV .len)) := by
  refine callr_imp call_len fun xs H Q q => ?_
  obtain ⟨r, h, l, A, rl, q⟩ := q
  match l, rl, q with
  | [.str s], rl, q =>
    obtain ⟨x, rfl, rv⟩ := rl.one
    cases rv with
    | str _ hs => exact ⟨_, s.length, rfl, ⟨by rw [S_len]; exact Nat.le_trans (sOk_len hs) (by decide), by rw [S_len]⟩, Rp.pure A (.int _) q⟩
  | [.tup s], rl, q =>
    obtain ⟨x, rfl, rv⟩ := rl.one
    obtain ⟨a, ys, rfl, h1, h2, h3⟩ := rv.tupI
    exact ⟨_, s.length, rfl, .inr ⟨ys, by rw [hK]; exact h1, h3.length⟩, Rp.pure A (.int _) q⟩
  | [.ref a], rl, q =>
    obtain ⟨x, rfl, rv⟩ := rl.one
    cases rv with
    | ref hi =>
      have q' : RpV g bars (fun _ _ _ => False) r h H Q (match lsAt h a with
        | some l => .ok (.int l.length) h
        | none => .stuck) := q
      split at q'
      · rename_i l e
        obtain ⟨ys, s1, s2, s3⟩ := A.ls (K := X.K) e
        exact ⟨_, l.length, rfl, .inl ⟨ys, s1, s2.length⟩, Rp.pure A (.int _) q'⟩
      · exact q'.elim
  | [], _, q => exact q.elim
  | [.non], _, q => exact q.elim
  | [.bl _], _, q => exact q.elim
  | [.int _], _, q => exact q.elim
  | [.fn _], _, q => exact q.elim
  | [.cl _], _, q => exact q.elim
  | [.kl _], _, q => exact q.elim
  | _ :: _ :: _, _, q =>
    have q' : RpV g bars (fun _ _ _ => False) r h H Q (.stuck) := by
      revert q
      unfold bltV
      split <;> first | exact id | (rename_i z; cases z)
    exact q'.elim
theorem c_abs : CallR X (.builtin "abs") (rC g bars (bltV .abs)) := by
  refine callr_imp call_abs fun xs H Q q => ?_
  obtain ⟨r, h, l, A, rl, q⟩ := q
  unfold bltV at q
  split at q
  all_goals first | exact q.elim | skip
  all_goals rename_i z; cases z
  obtain ⟨x, rfl, rv⟩ := rl.one
  cases rv
  exact ⟨_, rfl, Rp.pure A (.int _) q⟩
end
end NL
end

section
namespace NL
open PySem PySem.Spec PyProof.Rows L2

section
variable {g : Pg} {X : Cx} {bars : List Nat} {r : Nat → Addr} {h : Hep} {H : Hp}
theorem c_int : CallR X (.type "int") (rC g bars (bltV .int)) := by
  refine callr_imp call_int1 fun xs H Q q => ?_
  obtain ⟨r, h, l, A, rl, q⟩ := q
  unfold bltV at q
  split at q
  all_goals first | exact q.elim | skip
  all_goals rename_i z; cases z
  · obtain ⟨x, rfl, rv⟩ := rl.one
    cases rv
    exact .inl ⟨_, rfl, Rp.pure A (.int _) q⟩
  · obtain ⟨x, rfl, rv⟩ := rl.one
    cases rv
    exact .inr ⟨_, rfl, Rp.pure A (.int _) q⟩
theorem bools_ok : ∀ {l : List Va} {xs : List V} {bs : List Bool}, RVs g r n H l xs → bools l = some bs → xs = bs.map V.bl
  | [], _, _, q, e => by cases q; cases e; rfl
  | a :: l, _, bs, q, e => by
    cases q with
    | cons q1 q2 =>
      cases q1 with
      | bl b =>
        have e' : (bools l).map (b :: ·) = some bs := e
        cases z : bools l with
        | none => rw [z] at e'; cases e'
        | some cs => rw [z] at e'; cases e'; rw [bools_ok q2 z]; rfl
      | _ => cases e
theorem texts_ok : ∀ {l : List Va} {xs : List V} {bs : List (List Nat)}, RVs g r n H l xs → texts l = some bs → xs = (bs.map S).map V.str ∧ ∀ b ∈ bs, sOk b = true
  | [], _, _, q, e => by cases q; cases e; exact ⟨rfl, fun _ z => by cases z⟩
  | a :: l, _, bs, q, e => by
    cases q with
    | cons q1 q2 =>
      cases q1 with
      | str b hb =>
        have e' : (texts l).map (b :: ·) = some bs := e
        cases z : texts l with
        | none => rw [z] at e'; cases e'
        | some cs =>
          rw [z] at e'
          cases e'
          obtain ⟨z1, z2⟩ := texts_ok q2 z
          refine ⟨by rw [z1]; rfl, fun b' hb' => ?_⟩
          rcases List.mem_cons.mp hb' with rfl | hb'
          · exact hb
          · exact z2 b' hb'
      | _ => cases e
theorem c_all (hc : X.calm = true) : CallR X (.builtin "all") (rC g bars (bltV .all)) := by
  refine callr_imp (cr_all hc) fun xs H Q q => ?_
  obtain ⟨r, h, l, A, rl, q⟩ := q
  unfold bltV at q
  split at q
  all_goals first | exact q.elim | skip
  all_goals rename_i z; cases z
  obtain ⟨x, rfl, rv⟩ := rl.one
  split at q
  · rename_i bs e
    cases rv
    cases e1 : lsAt h _ with
    | none => rw [e1] at e; cases e
    | some l =>
      rw [e1] at e
      obtain ⟨ys, s1, s2, s3⟩ := A.ls (K := X.K) e1
      exact ⟨_, bs, rfl, by rw [← bools_ok s2 e]; exact s1, Rp.pure A (.bl _) q⟩
  · exact q.elim
theorem c_any (hc : X.calm = true) : CallR X (.builtin "any") (rC g bars (bltV .any)) := by
  refine callr_imp (cr_any hc) fun xs H Q q => ?_
  obtain ⟨r, h, l, A, rl, q⟩ := q
  unfold bltV at q
  split at q
  all_goals first | exact q.elim | skip
  all_goals rename_i z; cases z
  obtain ⟨x, rfl, rv⟩ := rl.one
  split at q
  · rename_i bs e
    cases rv
    cases e1 : lsAt h _ with
    | none => rw [e1] at e; cases e
    | some l =>
      rw [e1] at e
      obtain ⟨ys, s1, s2, s3⟩ := A.ls (K := X.K) e1
      exact ⟨_, bs, rfl, by rw [← bools_ok s2 e]; exact s1, Rp.pure A (.bl _) q⟩
  · exact q.elim
theorem vals_get : ∀ {xs : List V} {us : List Value}, xs.length = us.length → (∀ (i : Nat) x u, xs[i]? = some x → us[i]? = some u → RelV x u) → Vals xs us
  | [], [], _, _ => .nil
  | [], _ :: _, e, _ => by simp at e
  | _ :: _, [], e, _ => by simp at e
  | x :: xs, u :: us, e, k => .cons (k 0 x u rfl rfl) (vals_get (by simpa using e) fun i y w h1 h2 => k (i + 1) y w (by simpa using h1) (by simpa using h2))
/-- list(text) -/
theorem call_listS (hc : X.calm = true) : CallR X (.type "list") (fun xs H Q => ∃ z, xs = [.str z] ∧ z.cps.size ≤ sizeLine ∧ ∀ l, H l = none → Q (.ref l) (upd H l (.lst (z.cps.toList.map fun c => V.str ⟨#[c]⟩)))) := by
  intro pins s σ H xs us Q I r q
  obtain ⟨z, rfl, hz, q⟩ := q
  obtain ⟨u, rfl, rx⟩ := vals1 r
  obtain ⟨t, rfl⟩ := rx
  refine call_list_str (I.ok.hd hc) z t (fun h' tk acc' c' kp e it => ?_) hz
  refine ⟨.ref s.heap.objs.size, _, I.laid (t' := tk) kp (Nat.le_refl _) ?_, rfl, q _ (I.hok.fresh (Nat.le_refl _))⟩
  refine ⟨by rw [List.length_map, Array.length_toList]; exact hz, acc'.toList, c', vals_get (by rw [List.length_map, Array.length_toList, Array.length_toList, it.1]) fun i y w h1 h2 => ?_, by rw [Array.toArray_toList]; exact e⟩
  rw [List.getElem?_map, Array.getElem?_toList] at h1
  rw [Array.getElem?_toList] at h2
  obtain ⟨c, k, e1, e2⟩ := it.2 i w h2
  rw [e1] at h1
  cases h1
  exact ⟨k, e2⟩
theorem signs_RVs {t : List Nat} (q : sOk t = true) : RVs g r n H (t.map fun c => Va.str [c]) (t.map fun c => V.str ⟨#[c]⟩) := by
  unfold sOk at q
  rw [Bool.and_eq_true] at q
  have q2 := q.2
  clear q
  induction t with
  | nil => exact .nil
  | cons c t ih =>
    rw [List.all_cons, Bool.and_eq_true] at q2
    refine .cons (RV.str [c] ?_) (ih q2.2)
    unfold sOk
    simpa using q2.1
theorem c_list (hc : X.calm = true) (hK : X.K = g.K) : CallR X (.type "list") (rC g bars (bltV .list)) := by
  refine callr_imp (CallR.or call_list_of (call_listS hc)) fun xs H Q q => ?_
  obtain ⟨r, h, l, A, rl, q⟩ := q
  unfold bltV at q
  split at q
  all_goals first | exact q.elim | skip
  all_goals rename_i z; cases z
  · obtain ⟨x, rfl, rv⟩ := rl.one
    split at q
    · rename_i l e
      cases rv
      obtain ⟨ys, s1, s2, s3⟩ := A.ls (K := X.K) e
      exact .inl ⟨_, ys, rfl, .inl s1, A.alloc (.lst s2 s3) q⟩
    · exact q.elim
  · obtain ⟨x, rfl, rv⟩ := rl.one
    obtain ⟨a, ys, rfl, h1, h2, h3⟩ := rv.tupI
    exact .inl ⟨_, ys, rfl, .inr (by rw [hK]; exact h1), A.alloc (.lst h3 h2) q⟩
  · obtain ⟨x, rfl, rv⟩ := rl.one
    cases rv with
    | str _ hs =>
      refine .inr ⟨_, rfl, ?_, ?_⟩
      · have := sOk_len hs
        show (S _).length ≤ sizeLine
        rw [S_len]
        exact Nat.le_trans this (by decide)
      · rw [S_list]
        refine A.alloc (.lst (signs_RVs hs) ?_) q
        rw [List.length_map]
        exact Nat.le_trans (sOk_len hs) (by decide)
theorem c_tuple (hK : X.K = g.K) : CallR X (.type "tuple") (rC g bars (bltV .tuple)) := by
  refine callr_imp call_tuple_of fun xs H Q q => ?_
  obtain ⟨r, h, l, A, rl, q⟩ := q
  unfold bltV at q
  split at q
  all_goals first | exact q.elim | skip
  all_goals rename_i z; cases z
  · obtain ⟨x, rfl, rv⟩ := rl.one
    split at q
    · rename_i l e
      cases rv
      obtain ⟨ys, s1, s2, s3⟩ := A.ls (K := X.K) e
      exact ⟨_, ys, rfl, .inl ⟨s1, A.tup s2 s3 q⟩⟩
    · exact q.elim
  · obtain ⟨x, rfl, rv⟩ := rl.one
    obtain ⟨a, ys, rfl, h1, h2, h3⟩ := rv.tupI
    exact ⟨_, ys, rfl, .inr ⟨by rw [hK]; exact h1, Rp.pure A (.tup h1 h2 h3) q⟩⟩
/-- a built-in function called by its name, a built-in type -/
theorem noX_blt (b : Bt) (l : List Va) (h : Hep) : noX (bltV b l h) := by
  intro c h' e
  unfold bltV mkO at e
  repeat' split at e
  all_goals cases e
theorem tCB_of {W : WX} {fs : Env' → Hep → Res (List Va)} {f : List Va → Hep → Res Va} (hn : ∀ l h, noX (f l h)) :
    ∀ σ H Q, tE g W bars (fun e h => (fs e h).bd fun l h => f l h) σ H Q → tCB (rC g bars f) (tAs g W bars fs) σ H Q := by
  intro σ H Q q
  obtain ⟨r, e, h, A, E, q⟩ := q
  exact ⟨r, e, h, A, E, Rp.bd q fun l h1 r1 H1 xs _ G A1 rl q1 => ⟨r1, h1, l, A1, rl, Rp.noX (hn _ _) q1⟩⟩
theorem e_blt {x : Str} {p pos : Pos} {a : Expr} {es : List Expr} {W : WX} {fs : Env' → Hep → Res (List Va)} {id : String} {f : List Va → Hep → Res Va} (hn : ∀ l h, noX (f l h)) (hc : CallR X (.builtin id) (rC g bars f)) (hg : Gl X x) (hm : X.mg x = none) (hv : bootBuiltins x = some (.builtin id))
    (ha : PA X (a :: es) (tAs g W bars fs)) (n1 : x ≠ ("__name__" : Str)) (n2 : (x == ("__debug__" : Str)) = false) (hs : starEach (a :: es) X.env = (false, eval a X.env) :: starEach es X.env) (hp : ((backTo pos (starEach es X.env)).any fun x => x.1) = false) :
    PE X (.Call (.Name x p) (a :: es) [] pos) (tE g W bars fun e h => (fs e h).bd fun l h => f l h) :=
  PE.imp (pe_callB hc hg hm hv ha n1 n2 hs hp) (tCB_of hn)
theorem e_bty {x : Str} {p pos : Pos} {a : Expr} {es : List Expr} {W : WX} {fs : Env' → Hep → Res (List Va)} {T : String} {f : List Va → Hep → Res Va} (hn : ∀ l h, noX (f l h)) (hc : CallR X (.type T) (rC g bars f)) (hg : Gl X x) (hm : X.mg x = none) (hv : bootBuiltins x = some (.type T))
    (ha : PA X (a :: es) (tAs g W bars fs)) (n1 : x ≠ ("__name__" : Str)) (n2 : (x == ("__debug__" : Str)) = false) (hs : starEach (a :: es) X.env = (false, eval a X.env) :: starEach es X.env) (hp : ((backTo pos (starEach es X.env)).any fun x => x.1) = false) :
    PE X (.Call (.Name x p) (a :: es) [] pos) (tE g W bars fun e h => (fs e h).bd fun l h => f l h) :=
  PE.imp (pe_callTy hc hg hm hv ha n1 n2 hs hp) (tCB_of hn)
/-! ### methods of built-in types -/
def rM (g : Pg) (bars : List Nat) (f : Va → List Va → Hep → Res Va) : V → List V → Hp → VK → Prop := fun x xs H Q => ∃ r h a l, At g bars r h H ∧ RV g r h.length H a x ∧ RVs g r h.length H l xs ∧ RpV g bars (fun _ _ _ => False) r h H Q (f a l h)
theorem mtr_imp {id : String} {r r' : V → List V → Hp → VK → Prop} (o : MtR X id r) (h : ∀ x l H Q, r' x l H Q → r x l H Q) : MtR X id r' := fun pins s σ H x xs v us Q I a b q => o pins s σ H x xs v us Q I a b (h x xs H Q q)
theorem S_join (sep : List Nat) : ∀ l : List (List Nat), Txt.join (S sep) (l.map S) = S (joinS sep l) := by
  intro l
  rw [show Txt.join (S sep) (l.map S) = Str.join (S sep) (l.map S) from PySem.StrLaws.glued_eq_join _ _]
  induction l with
  | nil => rfl
  | cons x l ih =>
    cases l with
    | nil => rfl
    | cons y l =>
      show S x ++ S sep ++ Str.join (S sep) ((y :: l).map S) = S (x ++ sep ++ joinS sep (y :: l))
      rw [ih, S_app, S_app]
theorem joinS_len (sep : List Nat) : ∀ l : List (List Nat), (l.map (·.length)).sum + l.length * sep.length ≤ (joinS sep l).length + sep.length
  | [] => by simp
  | [x] => by simp [joinS]
  | x :: y :: l => by
    have ih := joinS_len sep (y :: l)
    show x.length + ((y :: l).map (·.length)).sum + ((y :: l).length + 1) * sep.length ≤ (x ++ sep ++ joinS sep (y :: l)).length + sep.length
    rw [List.length_append, List.length_append, Nat.add_mul]
    omega
theorem joinS_ok {sep : List Nat} : ∀ {l : List (List Nat)}, sOk sep = true → (∀ b ∈ l, sOk b = true) → (joinS sep l).all (fun c => decide (c < 1114112)) = true
  | [], _, _ => rfl
  | [x], _, h => by
    have := h x (List.mem_cons_self ..)
    unfold sOk at this
    rw [Bool.and_eq_true] at this
    exact this.2
  | x :: y :: l, hs, h => by
    have h1 := h x (List.mem_cons_self ..)
    have h2 := joinS_ok (l := y :: l) hs fun b hb => h b (List.mem_cons_of_mem _ hb)
    unfold sOk at h1 hs
    rw [Bool.and_eq_true] at h1 hs
    show (x ++ sep ++ joinS sep (y :: l)).all _ = true
    rw [List.all_append, List.all_append, h1.2, hs.2, h2]
    rfl
theorem m_join : MtR X "str.join" (rM g bars (metV bars .join)) := by
  refine mtr_imp mt_join fun x xs H Q q => ?_
  obtain ⟨r, h, a, l, A, ra, rl, q⟩ := q
  unfold metV at q
  split at q
  all_goals first | exact q.elim | skip
  · rename_i s p z
    obtain ⟨x2, rfl, rv⟩ := rl.one
    split at q
    · rename_i ts e
      cases rv
      cases ra with
      | str _ hs =>
        cases e1 : lsAt h p with
        | none => rw [e1] at e; cases e
        | some l =>
          rw [e1] at e
          obtain ⟨ys, s1, s2, s3⟩ := A.ls (K := X.K) e1
          obtain ⟨z1, z2⟩ := texts_ok s2 e
          unfold newS at q
          split at q
          · rename_i hl
            refine ⟨_, _, ts.map S, rfl, rfl, .inl (by rw [← z1]; exact s1), ?_, ?_⟩
            · have h1 := joinS_len s ts
              have h2 := sOk_len hs
              have h3 : (ts.map S).map (fun x => x.length) = ts.map (·.length) := by
                rw [List.map_map]
                exact List.map_congr_left fun b _ => S_len b
              rw [h3, List.length_map, S_len]
              unfold line at hl
              omega
            · rw [S_join]
              refine Rp.pure A (.str _ ?_) q
              unfold sOk
              rw [joinS_ok hs z2, Bool.and_true, decide_eq_true_eq]
              exact hl
          · exact q.elim
    · exact q.elim
  · rename_i z; cases z
theorem At.put {a : Nat} {o : Ob} {O O' : HO} (A : At g bars r h H) (hO : H (r a) = some O) (ha : a < h.length) (hm : Mut (some O)) (w : wallOk bars a o = true) (ho : RO g r h.length H o O') : At g bars r (h.set a o) (upd H (r a) O') := ⟨A.rh.put ha hO hm ho, A.bo.put w⟩
theorem At.growP {a : Nat} {o : Ob} {O O' : HO} (ha : a < h.length) (hO : H (r a) = some O) (hm : Mut (some O)) : Grow r h.length H r (h.set a o).length (upd H (r a) O') := by
  rw [List.length_set]
  exact Grow.put ha hO hm
theorem m_append : MtR X "list.append" (rM g bars (metV bars .append)) := by
  refine mtr_imp mt_append fun x xs H Q q => ?_
  obtain ⟨r, h, a, l, A, ra, rl, q⟩ := q
  unfold metV at q
  split at q
  all_goals first | exact q.elim | skip
  · rename_i z; cases z
  · rename_i a v z
    obtain ⟨y, rfl, rv⟩ := rl.one
    split at q
    · rename_i l e
      obtain ⟨ys, s1, s2, s3⟩ := A.lst e
      cases ra with
      | ref hi =>
        split at q
        · rename_i hl
          split at q
          · rename_i hw
            have hl' : ys.length + 1 ≤ sizeLine := by
              rw [s2.length] at hl
              exact line_le hl
            refine ⟨_, ys, y, rfl, rfl, s1, hl', ?_⟩
            have ho : RO g r h.length H (.lst (l ++ [v])) (.lst (ys ++ [y])) := .lst (s2.append (.cons rv .nil)) (by simpa using hl')
            exact q r _ _ (At.growP hi s1 True.intro) (A.put s1 hi True.intro hw ho) .non
          · exact q.elim
        · exact q.elim
    · exact q.elim
theorem noX_met (m : Mt) (o : Va) (l : List Va) (h : Hep) : noX (metV bars m o l h) := by
  intro c h' e
  unfold metV newS at e
  repeat' split at e
  all_goals first | (cases e; done) | skip
/-- o.m(..), o of a built-in type -/
theorem e_met {o a : Expr} {es : List Expr} {W : WX} {fo : Env' → Hep → Res Va} {fs : Env' → Hep → Res (List Va)} {nm : Str} {apos cpos : Pos} {T id : String} {m : Mt} (hT : ∀ (r : Nat → Addr) (h : Hep) (H : Hp) (a : Va) (x : V), At g bars r h H → RV g r h.length H a x → recOk h m a = true → tyV X.K T x H)
    (pa : PlainAttrs T) (sl : Slot T nm id) (ty : typeOf (Value.builtin id) = pure (Value.type "method_descriptor")) (rule : MtR X id (rM g bars (metV bars m))) (ho : PE X o (tE g W bars fo)) (ha : PA X (a :: es) (tAs g W bars fs))
    (h1 : attributeBase o nm X.env (eval o X.env) = eval o X.env) (h2 : (((((backTo cpos (starEach (a :: es) X.env)).all fun x => !x.fst) && (backToKw cpos (keywordEach [] X.env)).all fun x => x.fst.isSome) && decide (((a :: es).length + ([] : List Keyword).length + if ([] : List Keyword).isEmpty = true then 0 else 1) < 30)) = true))
    (h3 : (apos.endLine == cpos.line) = true) (h4 : starEach (a :: es) X.env = (false, eval a X.env) :: starEach es X.env) (h5 : (((backTo cpos (starEach es X.env)).any fun x => x.fst) = false)) :
    PE X (.Call (.Attribute o nm apos) (a :: es) [] cpos) (tE g W bars fun e h => (fo e h).bd fun x h => if recOk h m x then (fs e h).bd fun l h => metV bars m x l h else .stuck) := by
  refine PE.imp (pe_bm pa sl ty rule ho ha h1 h2 h3 h4 h5) fun σ H Q q => ?_
  obtain ⟨r, e, h, A, E, q⟩ := q
  refine ⟨r, e, h, A, E, Rp.bd q fun v h1 r1 H1 x _ G A1 rv q1 => ?_⟩
  split at q1
  · rename_i hr
    refine ⟨hT r1 h1 H1 v x A1 rv hr, r1, e, h1, A1, E.mono G, Rp.bd q1 fun l h2 r2 H2 xs _ G2 A2 rl q2 => ⟨r2, h2, v, l, A2, rv.mono G2, rl, Rp.noX (noX_met m _ _ _) q2⟩⟩
  · exact q1.elim
end
end NL
end

section
namespace NL
open PySem PySem.Spec PyProof.Rows L2

section
variable {g : Pg} {X : Cx} {bars : List Nat} {r : Nat → Addr} {h : Hep} {H : Hp}
/-! ### isinstance -/
def Ty.nm : Ty → String
  | .none => "NoneType"
  | .bool => "bool"
  | .int => "int"
  | .str => "str"
  | .list => "list"
  | .tuple => "tuple"
  | .dict => "dict"
def Tq.nm : Tq → String
  | .int => "int"
  | .str => "str"
  | .bool => "bool"
  | .list => "list"
  | .tuple => "tuple"
  | .cls _ => "object"
def Tq.bi : Tq → Bool
  | .cls _ => false
  | _ => true
theorem ty_ok {a : Va} {x : V} {t : Ty} (A : At g bars r h H) (ra : RV g r h.length H a x) (e : tyOf h a = some t) : TyX g.K H x (.type t.nm) := by
  cases ra with
  | non => cases e; exact .base .non
  | bl b => cases e; exact .base (.bl b)
  | int b => cases e; exact .base (.int b)
  | str b _ => cases e; exact .base (.str _)
  | tup h1 h2 h3 =>
    cases e
    rcases h1 with (z | ⟨o, z⟩) | ⟨o, its, n, z, c, _⟩
    · exact .base (.tup z)
    · exact .fTuple z
    · exact .kTuple z c
  | ref hi =>
    rename_i i
    have e : (match h[i]? with
      | some (.lst _) => some Ty.list
      | some (.dic _) => some Ty.dict
      | _ => Option.none) = some t := e
    split at e
    · rename_i l z
      cases e
      obtain ⟨O, e1, e2⟩ := A.rh.ob _ _ z
      cases e2 with
      | lst a b => exact .base (.lst e1)
    · rename_i l z
      cases e
      obtain ⟨O, e1, e2⟩ := A.rh.ob _ _ z
      cases e2 with
      | dic a => exact .base (.dK e1)
    · cases e
  | _ => cases e
theorem kit_tt : ∀ (t : Ty) (q : Tq) (b : Bool), q.bi = true → tyIs t q = some b → kitB t.nm q.nm = some b := by
  have k : ∀ (t : Ty), kitB t.nm "int" = some (t == .int || t == .bool) ∧ kitB t.nm "str" = some (t == .str) ∧ kitB t.nm "bool" = some (t == .bool) ∧ kitB t.nm "list" = some (t == .list) ∧ kitB t.nm "tuple" = some (t == .tuple) := by
    intro t
    cases t <;> exact ⟨by decide +kernel, by decide +kernel, by decide +kernel, by decide +kernel, by decide +kernel⟩
  intro t q b hq e
  cases q with
  | int => cases e; exact (k t).1
  | str => cases e; exact (k t).2.1
  | bool => cases e; exact (k t).2.2.1
  | list => cases e; exact (k t).2.2.2.1
  | tuple => cases e; exact (k t).2.2.2.2
  | cls i => cases hq
theorem kit_any : ∀ (ts : List Tq) (v : Va) (sub : Nat → Nat → Bool) (t : Ty) (b : Bool), ts.all Tq.bi = true → tyOf h v = some t → isAny h sub v ts = some b → PySem.W.kitAny g.K (.type t.nm) (ts.map fun q => Value.type q.nm) = some b
  | [], _, _, _, _, _, _, e => by cases e; rfl
  | q :: ts, v, sub, t, b, hb, ht, e => by
    rw [List.all_cons, Bool.and_eq_true] at hb
    unfold isAny at e
    split at e
    · rename_i c d e1 e2
      cases e
      have e3 : tyIs t q = some c := by unfold isQ at e1; rw [ht] at e1; exact e1
      have ih := kit_any ts v sub t d hb.2 ht e2
      rw [List.map_cons]
      refine kitAny_cons (kit_ty (kit_tt t q c hb.1 e3)) (fun z => ?_) (fun z => ?_)
      · subst z; rw [ih]; rfl
      · subst z; rfl
    · cases e
theorem isAny_ty {sub : Nat → Nat → Bool} {v : Va} {q : Tq} {ts : List Tq} {b : Bool} (e : isAny h sub v (q :: ts) = some b) : ∃ t, tyOf h v = some t := by
  unfold isAny at e
  split at e
  · rename_i c d e1 e2
    unfold isQ at e1
    split at e1
    · rename_i t z
      exact ⟨t, z⟩
    · cases e1
  · cases e
theorem e_isi1 {x : Str} {p pos : Pos} {a T : Expr} {q : Tq} {W : WX} {fa : Env' → Hep → Res Va} {sub : Nat → Nat → Bool} (hK : X.K = g.K) (hq : q.bi = true) (ha : PE X a (tE g W bars fa)) (hT : PE X T (tC (.ty q.nm))) (hg : Gl X x) (hm : X.mg x = none)
    (hv : bootBuiltins x = some (.builtin "isinstance")) (n1 : x ≠ ("__name__" : Str)) (n2 : (x == ("__debug__" : Str)) = false) (s1 : starEach [a, T] X.env = (false, eval a X.env) :: starEach [T] X.env) (s2 : starEach [T] X.env = (false, eval T X.env) :: starEach [] X.env) (hp : ((backTo pos (starEach [T] X.env)).any fun x => x.1) = false) :
    PE X (.Call (.Name x p) [a, T] [] pos) (tE g W bars fun e h => (fa e h).bd fun x h => optR (isAny h sub x [q]) h) := by
  refine PE.imp (pe_callB call_isi hg hm hv (pa_cons ha (pa_cons hT pa_nil s2) s1) n1 n2 s1 hp) fun σ H Q w => ?_
  obtain ⟨r, e, h, A, E, w⟩ := w
  refine ⟨r, e, h, A, E, Rp.bd w fun v h1 r1 H1 y _ G A1 rv w1 => ?_⟩
  obtain ⟨b, e1, w2⟩ := optR_ok A1 w1
  obtain ⟨t, ht⟩ := isAny_ty e1
  have k := kit_any (g := g) [q] v sub t b (by rw [List.all_cons, hq]; rfl) ht e1
  refine ⟨y, _, _, _, b, rfl, .ty q.nm, by rw [hK]; exact ty_ok A1 rv ht, ?_, w2⟩
  unfold isAny at e1
  split at e1
  · rename_i c d e2 e3
    cases e3
    cases e1
    have e4 : tyIs t q = some c := by unfold isQ at e2; rw [ht] at e2; exact e2
    rw [Bool.or_false]
    exact kit_ty (kit_tt t q c hq e4)
  · cases e1
theorem clsVs : ∀ (ts : List Tq), Paired ClsV (ts.map fun q => V.ty q.nm) (ts.map fun q => Value.type q.nm)
  | [] => .nil
  | q :: ts => .cons (.ty _) (clsVs ts)
/-- the reading of written types -/
def tTys (vs : List V) : TA := fun _ H Q => Q vs H
theorem e_isiT {x : Str} {p pos p2 : Pos} {a : Expr} {Ts : List Expr} {k : Nat} {ts : List Tq} {W : WX} {fa : Env' → Hep → Res Va} {sub : Nat → Nat → Bool} (hK : X.K = g.K) (hne : ts ≠ []) (hlen : ts.length ≤ 100) (hq : ts.all Tq.bi = true) (ha : PE X a (tE g W bars fa)) (hT : PA X Ts (tTys (ts.map fun q => V.ty q.nm))) (hg : Gl X x) (hm : X.mg x = none)
    (hv : bootBuiltins x = some (.builtin "isinstance")) (n1 : x ≠ ("__name__" : Str)) (n2 : (x == ("__debug__" : Str)) = false) (s1 : starEach [a, .Tuple Ts k p2] X.env = (false, eval a X.env) :: starEach [.Tuple Ts k p2] X.env) :
    PE X (.Call (.Name x p) [a, .Tuple Ts k p2] [] pos) (tE g W bars fun e h => (fa e h).bd fun x h => optR (isAny h sub x ts) h) := by
  refine PE.imp (pe_callB call_isiT hg hm hv (pa_cons ha (pa_cons (pe_tup hT) pa_nil rfl) s1) n1 n2 s1 rfl) fun σ H Q w => ?_
  obtain ⟨r, e, h, A, E, w⟩ := w
  refine ⟨r, e, h, A, E, Rp.bd w fun v h1 r1 H1 y _ G A1 rv w1 => ?_⟩
  have hsz : (ts.map fun q => V.ty q.nm).length ≤ sizeLine := by rw [List.length_map]; exact Nat.le_trans hlen (by decide)
  refine ⟨hsz, fun p hp => ?_⟩
  have G2 : Grow r1 h1.length H1 r1 h1.length (upd H1 p (.tup (ts.map fun q => V.ty q.nm))) := Grow.newT hp
  have A2 : At g bars r1 h1 (upd H1 p (.tup (ts.map fun q => V.ty q.nm))) := by
    refine ⟨⟨A1.rh.inj, fun i o e => ?_⟩, A1.bo⟩
    obtain ⟨O, e1, e2⟩ := A1.rh.ob i o e
    exact ⟨O, by rw [upd_ne (ne_of_none e1 hp)]; exact e1, e2.mono G2⟩
  have rv2 := rv.mono G2
  have w3 : RpV g bars (fun c d H => W c d σ H) r1 h1 (upd H1 p (.tup (ts.map fun q => V.ty q.nm))) Q (optR (isAny h1 sub v ts) h1) := by
    revert w1
    cases isAny h1 sub v ts with
    | none => exact id
    | some b => exact fun w1 r3 H3 x G3 A3 e => w1 r3 H3 x (G2.trans G3) A3 e
  obtain ⟨b, e1, w2⟩ := optR_ok A2 w3
  cases ts with
  | nil => exact absurd rfl hne
  | cons q0 ts =>
    obtain ⟨t, ht⟩ := isAny_ty e1
    exact ⟨y, p, _, _, _, b, rfl, upd_same, clsVs _, by rw [hK]; exact ty_ok A2 rv2 ht, by rw [hK]; exact kit_any _ v sub t b hq ht e1, w2⟩
theorem a_tys_nil : PA X [] (tTys []) := pa_nil
theorem a_tys_cons {T : Expr} {Ts : List Expr} {v : V} {vs : List V} (hT : PE X T (tC v)) (hs : PA X Ts (tTys vs)) (s : starEach (T :: Ts) X.env = (false, eval T X.env) :: starEach Ts X.env) : PA X (T :: Ts) (tTys (v :: vs)) :=
  PA.imp (pa_cons hT hs s) fun _ _ _ q => q
end
end NL
end

section
namespace NL
open PySem PySem.Spec PyProof.Rows L2

section
variable {g : Pg} {X : Cx} {bars : List Nat} {r : Nat → Addr} {h : Hep} {H : Hp}
/-! ### targets -/
/-- the same but at some places -/
def Smz (ws : List Nat) (σ σ' : L2.St) : Prop := σ'.length = σ.length ∧ ∀ j, j ∉ ws → σ'[j]? = σ[j]?
theorem Smz.refl {ws : List Nat} {σ : L2.St} : Smz ws σ σ := ⟨rfl, fun _ _ => rfl⟩
theorem Smz.trans {ws us : List Nat} {σ σ1 σ2 : L2.St} (a : Smz ws σ σ1) (b : Smz us σ1 σ2) : Smz (ws ++ us) σ σ2 :=
  ⟨b.1.trans a.1, fun j hj => (b.2 j fun z => hj (List.mem_append_right _ z)).trans (a.2 j fun z => hj (List.mem_append_left _ z))⟩
def RpG (g : Pg) (bars : List Nat) (ws : List Nat) (r : Nat → Addr) (h : Hep) (σ : L2.St) (H : Hp) (Q : L2.St → Hp → Prop) : Option (Env' × Hep) → Prop
  | some (e', h') => ∀ r' H' σ', Grow r h.length H r' h'.length H' → At g bars r' h' H' → RE g r' h'.length H' e' σ' → Smz ws σ σ' → Q σ' H'
  | none => False
def tG (g : Pg) (bars : List Nat) (ws : List Nat) (f : Va → Env' → Hep → Option (Env' × Hep)) : TG := fun x σ H Q => ∃ r e h v, At g bars r h H ∧ RE g r h.length H e σ ∧ RV g r h.length H v x ∧ RpG g bars ws r h σ H Q (f v e h)
def tGs (g : Pg) (bars : List Nat) (ws : List Nat) (f : List Va → Env' → Hep → Option (Env' × Hep)) : TGs := fun xs σ H Q => ∃ r e h l, At g bars r h H ∧ RE g r h.length H e σ ∧ RVs g r h.length H l xs ∧ RpG g bars ws r h σ H Q (f l e h)
theorem PG.imp {e : Expr} {t t' : TG} (a : PG X e t) (k : ∀ x σ H Q, t' x σ H Q → t x σ H Q) : PG X e t' := ⟨fun pins s σ H v u Q I q w => a.run pins s σ H v u Q I q (k v σ H Q w)⟩
theorem PGs.imp {e : List Expr} {t t' : TGs} (a : PGs X e t) (k : ∀ x σ H Q, t' x σ H Q → t x σ H Q) : PGs X e t' := ⟨fun pins s σ H v u Q I q w => a.run pins s σ H v u Q I q (k v σ H Q w)⟩
theorem g_name {i : Nat} {x : Str} {pos : Pos} (hN : X.N.Nodup) (hi : X.N[i]? = some x) (hx : Loc X.env.scope x) (hf : X.fn x = true ∨ X.env.scope.names.lookup x = some .local) : PG X (.Name x pos) (tG g bars [i] fun v e h => some (e.set i (some v), h)) := by
  refine PG.imp (pg_name hN hi hx hf) fun x σ H Q q => ?_
  obtain ⟨r, e, h, v, A, E, rv, q⟩ := q
  refine q r H _ .refl A (E.set rv i) ⟨List.length_set, fun j hj => ?_⟩
  exact List.getElem?_set_ne fun z => hj (by simp [z])
theorem gs_nil : PGs X [] (tGs g bars [] fun l e h => match l with
    | [] => some (e, h)
    | _ => none) := by
  refine PGs.imp pgs_nil fun x σ H Q q => ?_
  obtain ⟨r, e, h, l, A, E, rl, q⟩ := q
  cases rl with
  | nil => exact ⟨rfl, q r H _ .refl A E .refl⟩
  | cons _ _ => exact q.elim
theorem RpG.bd {r : Nat → Addr} {h : Hep} {H : Hp} {σ : L2.St} {ws us : List Nat} {Q Q' : L2.St → Hp → Prop} {m : Option (Env' × Hep)} {f : Env' → Hep → Option (Env' × Hep)} (q : RpG g bars (ws ++ us) r h σ H Q (match m with
    | some (e, h) => f e h
    | none => none)) (k : ∀ e1 h1 r1 H1 σ1, Grow r h.length H r1 h1.length H1 → At g bars r1 h1 H1 → RE g r1 h1.length H1 e1 σ1 → RpG g bars us r1 h1 σ1 H1 Q (f e1 h1) → Q' σ1 H1) : RpG g bars ws r h σ H Q' m := by
  match m, q with
  | none, q => exact q
  | some (e1, h1), q =>
    intro r1 H1 σ1 G A E S
    refine k e1 h1 r1 H1 σ1 G A E ?_
    have q' : RpG g bars (ws ++ us) r h σ H Q (f e1 h1) := q
    revert q'
    cases f e1 h1 with
    | none => exact id
    | some p => exact fun q r2 H2 σ2 G2 A2 E2 S2 => q r2 H2 σ2 (G.trans G2) A2 E2 (S.trans S2)
theorem gs_cons {a : Expr} {es : List Expr} {ws us : List Nat} {f : Va → Env' → Hep → Option (Env' × Hep)} {fs : List Va → Env' → Hep → Option (Env' × Hep)} (ha : PG X a (tG g bars ws f)) (hs : PGs X es (tGs g bars us fs))
    (hst : (assignEach (a :: es) X.env).map (·.2) = assign a X.env :: (assignEach es X.env).map (·.2)) : PGs X (a :: es) (tGs g bars (ws ++ us) fun l e h => match l with
      | v :: l => (match f v e h with
        | some (e, h) => fs l e h
        | none => none)
      | _ => none) := by
  refine PGs.imp (pgs_cons ha hs hst) fun x σ H Q q => ?_
  obtain ⟨r, e, h, l, A, E, rl, q⟩ := q
  cases rl with
  | nil => exact q.elim
  | cons r1 r2 =>
    rename_i v l x xs
    have q' : RpG g bars (ws ++ us) r h σ H Q (match f v e h with
        | some (e, h) => fs l e h
        | none => none) := q
    exact ⟨x, xs, rfl, r, e, h, v, A, E, r1, RpG.bd q' fun e1 h1 r1' H1 σ1 G A1 E1 q1 => ⟨r1', e1, h1, l, A1, E1, r2.mono G, q1⟩⟩
theorem g_tup {es : List Expr} {k n : Nat} {ws : List Nat} {pos : Pos} {fs : List Va → Env' → Hep → Option (Env' × Hep)} (hK : X.K = g.K) (hc : X.calm = true) (hs : PGs X es (tGs g bars ws fs)) (hn : (assignEach es X.env).length = n) (hst : (assignEach es X.env).findIdx? (·.1) = none) (hl : ∀ l e h, l.length ≠ n → fs l e h = none) :
    PG X (.Tuple es k pos) (tG g bars ws fun v e h => match v with
      | .tup l => fs l e h
      | _ => none) := by
  refine PG.imp (pg_tup hc hs hn hst) fun x σ H Q q => ?_
  obtain ⟨r, e, h, v, A, E, rv, q⟩ := q
  cases rv with
  | tup h1 h2 h3 =>
    rename_i l a xs
    have q' : RpG g bars ws r h σ H Q (fs l e h) := q
    refine ⟨a, xs, rfl, by rw [hK]; exact h1, ?_, r, e, h, l, A, E, h3, q'⟩
    rw [← h3.length]
    refine Classical.byContradiction fun z => ?_
    rw [hl l e h z] at q'
    exact q'
  | _ => exact q.elim
/-- o[i] = v, by values -/
def rS (g : Pg) (bars : List Nat) (f : Va → Va → Va → Hep → Option Hep) : TSet := fun x y z H Q => ∃ r h a b c, At g bars r h H ∧ RV g r h.length H a x ∧ RV g r h.length H b y ∧ RV g r h.length H c z ∧ match f a b c h with
  | some h' => ∀ r' H', Grow r h.length H r' h'.length H' → At g bars r' h' H' → Q H'
  | none => False
theorem set_ok : PSet X (rS g bars (setV bars)) := by
  intro pins s σ H o i v ov iv u Q I ro ri rv q
  refine set_list pins s σ H o i v ov iv u Q I ro ri rv ?_
  obtain ⟨r, h, a, b, c, A, ra, rb, rc, q⟩ := q
  cases e0 : setV bars a b c h with
  | none => rw [e0] at q; exact q.elim
  | some h' =>
    rw [e0] at q
    unfold setV at e0
    split at e0
    · split at e0
      · rename_i l e
        split at e0
        · rename_i k ek
          unfold putO at e0
          split at e0
          · rename_i hw
            cases e0
            obtain ⟨ys, s1, s2, s3⟩ := A.lst e
            cases ra with
            | ref hi =>
              cases rb with
              | int j =>
                exact ⟨_, ys, _, k, rfl, rfl, s1, by rw [← s2.length]; exact ek, q r _ (At.growP hi s1 True.intro) (A.put s1 hi True.intro hw (.lst (s2.set rc k) (by rw [List.length_set]; exact s3)))⟩
          · cases e0
        · cases e0
      · cases e0
    · cases e0
theorem g_sub {o i : Expr} {W : WX} {fo fi : Env' → Hep → Res Va} {pos : Pos} (ho : PE X o (tE g W bars fo)) (hi : PE X i (tE g W bars fi))
    (ha : ∀ v, assign (.Subscript o i pos) X.env v = (do
      let ov ← holding [v] (eval o X.env)
      let iv ← holding [v, ov] (eval i X.env)
      standAt pos
      holding [v, ov, iv] (setItem ov iv v)
      release [v, ov, iv] [])) : PG X (.Subscript o i pos) (tG g bars [] fun v e h => match fo e h with
    | .ok x h => (match fi e h with
      | .ok y h => (setV bars x y v h).map fun h => (e, h)
      | _ => none)
    | _ => none) := by
  refine PG.imp (pg_sub ho hi (set_ok (g := g) (bars := bars)) ha) fun z σ H Q q => ?_
  obtain ⟨r, e, h, v, A, E, rv, q⟩ := q
  dsimp only at q
  refine ⟨r, e, h, A, E, ?_⟩
  cases m : fo e h with
  | stuck => rw [m] at q; exact q.elim
  | exc c h1 => rw [m] at q; exact q.elim
  | ok x h1 =>
    rw [m] at q
    dsimp only at q
    intro r1 H1 x' G A1 rx
    refine ⟨r1, e, h1, A1, E.mono G, ?_⟩
    cases m2 : fi e h1 with
    | stuck => rw [m2] at q; exact q.elim
    | exc c h1 => rw [m2] at q; exact q.elim
    | ok y h2 =>
      rw [m2] at q
      dsimp only at q
      intro r2 H2 y' G2 A2 ry
      refine ⟨r2, h2, x, y, v, A2, rx.mono G2, ry, (rv.mono G).mono G2, ?_⟩
      cases m3 : setV bars x y v h2 with
      | none => rw [m3] at q; exact q.elim
      | some h3 =>
        rw [m3] at q
        exact fun r3 H3 G3 A3 => q r3 H3 σ ((G.trans G2).trans G3) A3 (((E.mono G).mono G2).mono G3) .refl
/-! ### statements -/
def RpO (g : Pg) (bars : List Nat) (W : WX) (r : Nat → Addr) (h : Hep) (H : Hp) (D : Ends) : Out → Prop
  | .nx e' h' => ∀ r' H' σ', Grow r h.length H r' h'.length H' → At g bars r' h' H' → RE g r' h'.length H' e' σ' → D.nx σ' H'
  | .bk e' h' => ∀ r' H' σ', Grow r h.length H r' h'.length H' → At g bars r' h' H' → RE g r' h'.length H' e' σ' → D.bk σ' H'
  | .ct e' h' => ∀ r' H' σ', Grow r h.length H r' h'.length H' → At g bars r' h' H' → RE g r' h'.length H' e' σ' → D.ct σ' H'
  | .rt v h' => ∀ r' H' x, Grow r h.length H r' h'.length H' → At g bars r' h' H' → RV g r' h'.length H' v x → D.rt x H'
  | .xc c e' h' => ∀ r' H' σ' cls d, Grow r h.length H r' h'.length H' → At g bars r' h' H' → RE g r' h'.length H' e' σ' → RX g r' h'.length H' c cls d → W cls d σ' H'
  | .stuck => False
def tS (g : Pg) (W : WX) (bars : List Nat) (f : Env' → Hep → Out) : TS := fun D σ H => ∃ r e h, At g bars r h H ∧ RE g r h.length H e σ ∧ RpO g bars W r h H D (f e h)
theorem PSs.imp {e : List Stmt} {t t' : TS} (a : PSs X e t) (k : ∀ D σ H, t' D σ H → t D σ H) : PSs X e t' := ⟨fun pins s σ H D I q => a.run pins s σ H D I (k D σ H q)⟩
theorem RpO.lift {W : WX} {r1 : Nat → Addr} {h1 : Hep} {H1 : Hp} {D : Ends} {m : Out} (G : Grow r h.length H r1 h1.length H1) (q : RpO g bars W r h H D m) : RpO g bars W r1 h1 H1 D m := by
  cases m with
  | nx e h2 => exact fun r2 H2 y G2 => q r2 H2 y (G.trans G2)
  | bk e h2 => exact fun r2 H2 y G2 => q r2 H2 y (G.trans G2)
  | ct e h2 => exact fun r2 H2 y G2 => q r2 H2 y (G.trans G2)
  | rt e h2 => exact fun r2 H2 y G2 => q r2 H2 y (G.trans G2)
  | xc c e h2 => exact fun r2 H2 y cls d G2 => q r2 H2 y cls d (G.trans G2)
  | stuck => exact q
/-- an expression's run, then the statement's -/
theorem RpO.to {W : WX} {D : Ends} {α β : Type} {R : (Nat → Addr) → Nat → Hp → α → β → Prop} {Q : β → Hp → Prop} {m : Res α} {e : Env'} {σ : L2.St} {f : α → Hep → Out} (E : RE g r h.length H e σ) (q : RpO g bars W r h H D (m.to e f))
    (k : ∀ v h1 r1 H1 x, m = .ok v h1 → Grow r h.length H r1 h1.length H1 → At g bars r1 h1 H1 → R r1 h1.length H1 v x → RpO g bars W r1 h1 H1 D (f v h1) → Q x H1) : Rp g bars R (fun c d H => W c d σ H) r h H Q m := by
  cases m with
  | stuck => exact q
  | exc c h1 => exact fun r1 H1 cls d G A x => q r1 H1 σ cls d G A (E.mono G) x
  | ok v h1 => exact fun r1 H1 x G A rv => k v h1 r1 H1 x rfl G A rv (RpO.lift G q)
theorem s_ret {a : Expr} {W : WX} {fa : Env' → Hep → Res Va} {pos : Pos} (ha : PE X a (tE g W bars fa)) : PS X (.Return (some a) pos) (tS g W bars fun e h => (fa e h).to e fun v h => .rt v h) := by
  refine PS.imp (ps_ret ha) fun D σ H q => ?_
  obtain ⟨r, e, h, A, E, q⟩ := q
  exact ⟨r, e, h, A, E, RpO.to E q fun v h1 r1 H1 x _ G A1 rv q1 => q1 r1 H1 x .refl A1 rv⟩
theorem s_ex {a : Expr} {W : WX} {fa : Env' → Hep → Res Va} {pos : Pos} (ha : PE X a (tE g W bars fa)) (hs : ∀ t, PE X a t → PS X (.Expr a pos) (tDrop t)) : PS X (.Expr a pos) (tS g W bars fun e h => (fa e h).to e fun _ h => .nx e h) := by
  refine PS.imp (hs _ ha) fun D σ H q => ?_
  obtain ⟨r, e, h, A, E, q⟩ := q
  exact ⟨r, e, h, A, E, RpO.to E q fun v h1 r1 H1 x _ G A1 rv q1 => q1 r1 H1 σ .refl A1 (E.mono G)⟩
theorem s_pas {W : WX} {pos : Pos} : PS X (.Pass pos) (tS g W bars fun e h => .nx e h) := by
  refine PS.imp ps_pass fun D σ H q => ?_
  obtain ⟨r, e, h, A, E, q⟩ := q
  exact q r H σ .refl A E
theorem s_brk {W : WX} {pos : Pos} : PS X (.Break pos) (tS g W bars fun e h => .bk e h) := by
  refine PS.imp ps_break fun D σ H q => ?_
  obtain ⟨r, e, h, A, E, q⟩ := q
  exact q r H σ .refl A E
theorem s_cnt {W : WX} {pos : Pos} : PS X (.Continue pos) (tS g W bars fun e h => .ct e h) := by
  refine PS.imp ps_continue fun D σ H q => ?_
  obtain ⟨r, e, h, A, E, q⟩ := q
  exact q r H σ .refl A E
theorem s_never {W : WX} {st : Stmt} : PS X st (tS g W bars fun _ _ => .stuck) := by
  refine ⟨fun pins s σ H D I q => ?_⟩
  obtain ⟨r, e, h, A, E, q⟩ := q
  exact q.elim
theorem ss_nil {W : WX} : PSs X [] (tS g W bars fun e h => .nx e h) := by
  refine PSs.imp pss_nil fun D σ H q => ?_
  obtain ⟨r, e, h, A, E, q⟩ := q
  exact q r H σ .refl A E
theorem ss_cons {a : Stmt} {as : List Stmt} {W : WX} {f fs : Env' → Hep → Out} (ha : PS X a (tS g W bars f)) (hs : PSs X as (tS g W bars fs)) (hp : ∀ t u, PS X a t → PSs X as u → PSs X (a :: as) (tSeq t u)) : PSs X (a :: as) (tS g W bars fun e h => match f e h with
    | .nx e h => fs e h
    | o => o) := by
  refine PSs.imp (hp _ _ ha hs) fun D σ H q => ?_
  obtain ⟨r, e, h, A, E, q⟩ := q
  refine ⟨r, e, h, A, E, ?_⟩
  dsimp only at q
  cases m : f e h with
  | nx e1 h1 =>
    rw [m] at q
    exact fun r1 H1 σ1 G A1 E1 => ⟨r1, e1, h1, A1, E1, RpO.lift G q⟩
  | _ => rw [m] at q; exact q
theorem s_if {c : Expr} {t f : List Stmt} {W : WX} {fc : Env' → Hep → Res Va} {ft ff : Env' → Hep → Out} {pos : Pos} (hc : PT X c (tT g W bars fc)) (ht : PSs X t (tS g W bars ft)) (hf : PSs X f (tS g W bars ff)) :
    PS X (.If c t f pos) (tS g W bars fun e h => (fc e h).to e fun x h => match x with
      | .bl true => ft e h
      | .bl false => ff e h
      | _ => .stuck) := by
  refine PS.imp (ps_if hc ht hf) fun D σ H q => ?_
  obtain ⟨r, e, h, A, E, q⟩ := q
  dsimp only at q
  have hb' : ∀ v h', fc e h = .ok v h' → ∃ b, v = .bl b := by
    intro v h' m
    rw [m, Res.to_ok] at q
    cases v with
    | bl b => exact ⟨b, rfl⟩
    | _ => exact q.elim
  refine ⟨r, e, h, A, E, hb', RpO.to E q fun v h1 r1 H1 x _ G A1 rv q1 => ?_⟩
  subst rv
  cases x with
  | true => exact iteT ⟨r1, e, h1, A1, E.mono G, q1⟩
  | false => exact iteF ⟨r1, e, h1, A1, E.mono G, q1⟩
end
end NL
end

section
namespace NL
open PySem PySem.Spec PyProof.Rows L2

section
variable {g : Pg} {X : Cx} {bars : List Nat} {r : Nat → Addr} {h : Hep} {H : Hp}
/-! ### assignments -/
theorem s_set {e : Expr} {tg : Expr} {W : WX} {ws : List Nat} {fa : Env' → Hep → Res Va} {f : Va → Env' → Hep → Option (Env' × Hep)} {st : Stmt} (ha : ∀ (te : TE) (tt : TG), PE X e te → PG X tg tt → PS X st (tAsg te tt)) (he : PE X e (tE g W bars fa)) (hg : PG X tg (tG g bars ws f)) :
    PS X st (tS g W bars fun e h => (fa e h).to e fun v h => match f v e h with
      | some (e, h) => .nx e h
      | none => .stuck) := by
  refine PS.imp (ha _ _ he hg) fun D σ H q => ?_
  obtain ⟨r, e, h, A, E, q⟩ := q
  refine ⟨r, e, h, A, E, RpO.to E q fun v h1 r1 H1 x m0 G A1 rv q1 => ⟨r1, e, h1, v, A1, E.mono G, rv, ?_⟩⟩
  revert q1
  cases f v e h1 with
  | none => exact id
  | some p => exact fun q1 r2 H2 σ2 G2 A2 E2 _ => q1 r2 H2 σ2 G2 A2 E2
theorem s_par {i j : Nat} {a b : Expr} {W : WX} {fa fb : Env' → Hep → Res Va} {st : Stmt} (hi : PS X st (tPar i j (tAs g W bars fun e h => (fa e h).bd fun x h => ((fb e h).bd fun y h => (Res.ok [] h).bd fun l h => .ok (y :: l) h).bd fun l h => .ok (x :: l) h))) :
    PS X st (tS g W bars fun e h => (fa e h).to e fun x h => (fb e h).to e fun y h => .nx ((e.set i (some x)).set j (some y)) h) := by
  refine PS.imp hi fun D σ H q => ?_
  obtain ⟨r, e, h, A, E, q⟩ := q
  refine ⟨r, e, h, A, E, ?_⟩
  dsimp only at q ⊢
  cases m : fa e h with
  | stuck => rw [m] at q; exact q
  | exc c h1 => rw [m] at q; exact fun r1 H1 cls d G A x => q r1 H1 σ cls d G A (E.mono G) x
  | ok x h1 =>
    rw [m] at q
    rw [Res.to_ok] at q
    rw [Res.bd_ok]
    cases m2 : fb e h1 with
    | stuck => rw [m2] at q; exact q
    | exc c h2 => rw [m2] at q; exact fun r1 H1 cls d G A x => q r1 H1 σ cls d G A (E.mono G) x
    | ok y h2 =>
      rw [m2] at q
      intro r1 H1 xs G A1 rl
      cases rl with
      | cons r1' r2' =>
        cases r2' with
        | cons r3 r4 =>
          cases r4
          exact ⟨_, _, rfl, q r1 H1 _ G A1 (((E.mono G).set r1' i).set r3 j)⟩
/-! ### what is walked -/
/-- values, one by one -/
structure SrcV (g : Pg) (bars : List Nat) (r0 : Nat → Addr) (n0 : Nat) (H0 : Hp) (l : List Va) (J : L2.It) : Prop where
  go : ∀ i r n H, Grow r0 n0 H0 r n H → i < l.length → J.go i H
  stop : ∀ i r n H, Grow r0 n0 H0 r n H → l.length ≤ i → J.stop i H
  yld : ∀ i r h H x H', i < l.length → Grow r0 n0 H0 r h.length H → At g bars r h H → J.yld i H x H' → ∃ v, l[i]? = some v ∧ Grow r h.length H r h.length H' ∧ At g bars r h H' ∧ RV g r h.length H' v x ∧ ∀ a o, H a = some o → H' a = some o
/-- a list as it stands -/
structure SrcL (g : Pg) (bars : List Nat) (r0 : Nat → Addr) (n0 : Nat) (H0 : Hp) (a : Nat) (J : L2.It) : Prop where
  go : ∀ i r h H l, Grow r0 n0 H0 r h.length H → At g bars r h H → lsAt h a = some l → i < l.length → J.go i H
  stop : ∀ i r h H l, Grow r0 n0 H0 r h.length H → At g bars r h H → lsAt h a = some l → l.length ≤ i → J.stop i H
  yld : ∀ i r h H x H' l, Grow r0 n0 H0 r h.length H → At g bars r h H → lsAt h a = some l → J.yld i H x H' → H' = H ∧ ∃ v, l[i]? = some v ∧ RV g r h.length H v x
def SrcJ (g : Pg) (bars : List Nat) (r0 : Nat → Addr) (n0 : Nat) (H0 : Hp) (J : L2.It) : Src → Prop
  | .vals l => SrcV g bars r0 n0 H0 l J
  | .live a _ => SrcL g bars r0 n0 H0 a J
/-- the reading of what is walked -/
def tI (g : Pg) (W : WX) (bars : List Nat) (f : Env' → Hep → Res Src) : TI := fun σ H R => ∃ r e h, At g bars r h H ∧ RE g r h.length H e σ ∧ Rp (α := Src) (β := L2.It) g bars (fun r n H s J => SrcJ g bars r n H J s) (fun c d H => W c d σ H) r h H R (f e h)
theorem PI.imp {tg it : Expr} {t t' : TI} (a : PI X tg it t) (k : ∀ σ H R, t' σ H R → t σ H R) : PI X tg it t' := ⟨fun pins s σ H R I q => a.run pins s σ H R I (k σ H R q)⟩
theorem i_seq {tg a : Expr} {W : WX} {fa : Env' → Hep → Res Va} (hK : X.K = g.K) (ha : PE X a (tE g W bars fa)) : PI X tg a (tI g W bars fun e h => (fa e h).bd fun x h => match x with
    | .ref a => (match lsAt h a with
      | some l => .ok (.live a l.length) h
      | none => .stuck)
    | .tup l => .ok (.vals l) h
    | .str s => .ok (.vals (s.map fun c => .str [c])) h
    | _ => .stuck) := by
  refine ⟨fun pins s σ H R I q => ?_⟩
  obtain ⟨r, e, h, A, E, q⟩ := q
  have key : tE g W bars fa σ H (fun x H1 => (∃ a, x = .ref a ∧ (∃ xs, SqL X.K H1 a xs) ∧ R (Itl X.K a) H1) ∨ (∃ a, x = .ref a ∧ (∃ xs, SqT X.K H1 a xs) ∧ R (Itt X.K a) H1) ∨ (∃ z, x = .str z ∧ R (Its z) H1)) := by
    refine ⟨r, e, h, A, E, Rp.bd q fun v h1 r1 H1 x m0 G A1 rv q1 => ?_⟩
    cases rv with
    | ref hi =>
      rename_i a
      dsimp only at q1
      split at q1
      · rename_i l e1
        obtain ⟨ys, s1, s2, s3⟩ := A1.ls (K := X.K) e1
        refine .inl ⟨r1 a, rfl, ⟨ys, s1⟩, q1 r1 H1 _ .refl A1 (show SrcL g bars r1 h1.length H1 a (Itl X.K (r1 a)) from ⟨fun i r h H l G A e k => ?_, fun i r h H l G A e k => ?_, fun i r h H x H' l G A e y => ?_⟩)⟩
        · obtain ⟨ys, s1, s2, s3⟩ := A.ls (K := X.K) e
          rw [G.same a hi] at s1
          exact ⟨ys, ys[i]'(by rw [← s2.length]; exact k), s1, by simp⟩
        · obtain ⟨ys, s1, s2, s3⟩ := A.ls (K := X.K) e
          rw [G.same a hi] at s1
          exact ⟨ys, s1, by rw [← s2.length]; exact k⟩
        · obtain ⟨ys, s1, s2, s3⟩ := A.ls (K := X.K) e
          rw [G.same a hi] at s1
          obtain ⟨rfl, y⟩ := y
          refine ⟨rfl, ?_⟩
          have y' := y ys s1
          obtain ⟨k, e3⟩ := List.getElem?_eq_some_iff.mp y'
          have hk : i < l.length := by rw [s2.length]; exact k
          obtain ⟨z, e4, rz⟩ := s2.get (i := i) (v := l[i]) (by simp [hk])
          rw [y'] at e4
          cases e4
          exact ⟨l[i], by simp [hk], rz⟩
      · exact q1.elim
    | tup k1 k2 k3 =>
      rename_i l p xs
      have k1' : SqT X.K H1 p xs := by rw [hK]; exact k1
      refine .inr (.inl ⟨p, rfl, ⟨xs, k1'⟩, q1 r1 H1 _ .refl A1 (show SrcV g bars r1 h1.length H1 l (Itt X.K p) from ⟨fun i r n H G k => ?_, fun i r n H G k => ?_, fun i r h H x H' ki G A y => ?_⟩)⟩)
      · exact ⟨xs, xs[i]'(by rw [← k3.length]; exact k), G.keep.sqT k1', by simp⟩
      · exact ⟨xs, G.keep.sqT k1', by rw [← k3.length]; exact k⟩
      · obtain ⟨rfl, y⟩ := y
        have y' := y xs (G.keep.sqT k1')
        obtain ⟨k, e3⟩ := List.getElem?_eq_some_iff.mp y'
        have hk : i < l.length := by rw [k3.length]; exact k
        obtain ⟨z, e4, rz⟩ := k3.get (i := i) (v := l[i]) (by simp [hk])
        rw [y'] at e4
        cases e4
        exact ⟨l[i], by simp [hk], .refl, A, rz.mono G, fun _ _ z => z⟩
    | str s hs =>
      have sz : (S s).cps.size = s.length := S_len s
      refine .inr (.inr ⟨S s, rfl, q1 r1 H1 _ .refl A1 (show SrcV g bars r1 h1.length H1 _ (Its (S s)) from ⟨fun i r n H G k => ?_, fun i r n H G k => ?_, fun i r h H x H' ki G A y => ?_⟩)⟩)
      · rw [List.length_map] at k
        show i < (S s).cps.size
        rw [sz]; exact k
      · rw [List.length_map] at k
        show (S s).cps.size ≤ i
        rw [sz]; exact k
      · obtain ⟨rfl, c, e1, rfl⟩ := y
        have e2 : s[i]? = some c := by
          have : (S s).cps.toList[i]? = some c := by rw [Array.getElem?_toList]; exact e1
          rwa [S_list] at this
        refine ⟨.str [c], by rw [List.getElem?_map, e2]; rfl, .refl, A, .str [c] ?_, fun _ _ z => z⟩
        unfold sOk at hs ⊢
        rw [Bool.and_eq_true] at hs
        have := List.all_eq_true.mp hs.2 c (List.mem_of_getElem? e2)
        simpa using this
    | _ => exact q1.elim
  refine thn (ha.run pins s σ H _ I key) fun v s1 ⟨x, H1, I1, r1, c⟩ => ?_
  rcases c with ⟨p, e1, ⟨xs, hq⟩, q⟩ | ⟨p, e1, ⟨xs, hq⟩, q⟩ | ⟨z, e1, q⟩
  · subst e1
    cases r1
    obtain ⟨its, rv, pl, hz⟩ := I1.list hq
    refine wpAny_pyIter_list pl.isList ?_
    refine ⟨s1.heap.objs.size, [s1.heap.objs.size], _, _, H1, rfl, I1.kept (t' := s1.toks) fun b o e => Heap.get?_push_of_some _ e, turn_list p _, ⟨_, Heap.get?_push_size _ rfl, rfl, rfl⟩, fun b hb => ?_, q⟩
    have e : b = s1.heap.objs.size := by simpa using hb
    subst e
    exact I1.fpOk (Nat.le_refl _) (I1.hok.fresh (Nat.le_refl _))
  · subst e1
    cases r1
    obtain ⟨its, rv, pl, hz⟩ := I1.tuple hq
    refine wpAny_pyIter_tuple (show s1.heap.IsTuple p its.toArray from pl) ?_
    refine ⟨s1.heap.objs.size, [s1.heap.objs.size], _, _, H1, rfl, I1.kept (t' := s1.toks) fun b o e => Heap.get?_push_of_some _ e, turn_tuple p _, ⟨_, Heap.get?_push_size _ rfl, rfl, rfl⟩, fun b hb => ?_, q⟩
    have e : b = s1.heap.objs.size := by simpa using hb
    subst e
    exact I1.fpOk (Nat.le_refl _) (I1.hok.fresh (Nat.le_refl _))
  · subst e1
    obtain ⟨t, rfl⟩ := r1
    cases ha : z.cps.all (· < 128)
    · exact wpAny_pyIter_wide ha (pi_one (tk := s1.toks) I1 _ (turn_str _ z t "str_iterator" (.inr rfl)) ⟨_, Heap.get?_push_size _ rfl, rfl, rfl⟩ q)
    · exact wpAny_pyIter_ascii ha (pi_one (tk := s1.toks) I1 _ (turn_str _ z t "str_ascii_iterator" (.inl rfl)) ⟨_, Heap.get?_push_size _ rfl, rfl, rfl⟩ q)
theorem src_range {lo : Int} {n : Nat} : SrcV g bars r n0 H0 (rangeL lo n) (Itr lo n) := by
  refine ⟨fun i r n H G k => ?_, fun i r n H G k => ?_, fun i r h H x H' ki G A y => ?_⟩
  · show i < _
    unfold rangeL at k; simpa using k
  · show _ ≤ i
    unfold rangeL at k; simpa using k
  · obtain ⟨rfl, rfl⟩ := y
    have ki' : i < n := by unfold rangeL at ki; simpa using ki
    refine ⟨.int (lo + i), ?_, .refl, A, .int _, fun _ _ z => z⟩
    unfold rangeL
    rw [List.getElem?_map, List.getElem?_range ki']
    rfl
theorem i_ran1 {tg a : Expr} {p pos : Pos} {W : WX} {fa : Env' → Hep → Res Va} (hg : Gl X "range") (hm : X.mg "range" = none) (ha : PE X a (tE g W bars fa)) (hs : starEach [a] X.env = (false, eval a X.env) :: starEach [] X.env) : PI X tg (.Call (.Name "range" p) [a] [] pos) (tI g W bars fun e h => (fa e h).bd fun x h => match x with
    | .int j => if okI j then .ok (.vals (rangeL 0 j.toNat)) h else .stuck
    | _ => .stuck) := by
  refine PI.imp (pi_range1 hg hm (pa_cons ha pa_nil hs) hs) fun σ H R q => ?_
  obtain ⟨r, e, h, A, E, q⟩ := q
  refine ⟨r, e, h, A, E, Rp.bd q fun v h1 r1 H1 x m0 G A1 rv q1 => ?_⟩
  cases rv with
  | int j =>
    dsimp only at q1
    split at q1
    · rename_i hj
      obtain ⟨z1, z2⟩ := okI_of hj
      exact ⟨j, rfl, z1, z2, q1 r1 H1 _ .refl A1 src_range⟩
    · exact q1.elim
  | _ => exact q1.elim
theorem i_ran2 {tg a b : Expr} {p pos : Pos} {W : WX} {fa fb : Env' → Hep → Res Va} (hg : Gl X "range") (hm : X.mg "range" = none) (ha : PE X a (tE g W bars fa)) (hb : PE X b (tE g W bars fb)) (hs : starEach [a, b] X.env = (false, eval a X.env) :: starEach [b] X.env) (hs2 : starEach [b] X.env = (false, eval b X.env) :: starEach [] X.env) :
    PI X tg (.Call (.Name "range" p) [a, b] [] pos) (tI g W bars fun e h => (fa e h).bd fun x h => (fb e h).bd fun y h => match x, y with
    | .int i, .int j => if okI i && okI j then .ok (.vals (rangeL i (j - i).toNat)) h else .stuck
    | _, _ => .stuck) := by
  refine PI.imp (pi_range2 hg hm (pa_cons ha (pa_cons hb pa_nil hs2) hs) (by rw [hs, hs2]; rfl) hs2) fun σ H R q => ?_
  obtain ⟨r, e, h, A, E, q⟩ := q
  refine ⟨r, e, h, A, E, Rp.bd q fun v h1 r1 H1 x m0 G A1 rv q1 => ⟨r1, e, h1, A1, E.mono G, Rp.bd q1 fun v2 h2 r2 H2 y m1 G2 A2 rv2 q2 => ?_⟩⟩
  cases rv with
  | int i =>
    cases rv2 with
    | int j =>
      dsimp only at q2
      split at q2
      · rename_i hj
        rw [Bool.and_eq_true] at hj
        obtain ⟨z1, z2⟩ := okI_of hj.1
        obtain ⟨y1, y2⟩ := okI_of hj.2
        exact ⟨i, j, rfl, ⟨z1, z2, y1, y2⟩, q2 r2 H2 _ .refl A2 src_range⟩
      · exact q2.elim
    | _ => exact q2.elim
  | _ => cases rv2 <;> exact q2.elim
end
end NL
end

section
namespace NL
open PySem PySem.Spec PyProof.Rows L2

section
variable {g : Pg} {X : Cx} {bars : List Nat} {r : Nat → Addr} {h : Hep} {H : Hp}
/-- one turn's body: the target, then the suite -/
def turnO (ft : Va → Env' → Hep → Option (Env' × Hep)) (fb : Env' → Hep → Out) : Va → Env' → Hep → Out := fun v e h => match ft v e h with
  | some (e, h) => fb e h
  | none => .stuck
/-- the turn on the layer's side -/
theorem turn_ok {W : WX} {ws : List Nat} {ft : Va → Env' → Hep → Option (Env' × Hep)} {fb : Env' → Hep → Out} {D : Ends} {v : Va} {x : V} {e : Env'} {σ : L2.St} (A : At g bars r h H) (E : RE g r h.length H e σ) (rv : RV g r h.length H v x)
    (q : RpO g bars W r h H D (turnO ft fb v e h)) : tG g bars ws ft x σ H fun σ2 H2 => tS g W bars fb D σ2 H2 := by
  refine ⟨r, e, h, v, A, E, rv, ?_⟩
  unfold turnO at q
  revert q
  cases ft v e h with
  | none => exact id
  | some p => exact fun q r2 H2 σ2 G2 A2 E2 _ => ⟨r2, p.1, p.2, A2, E2, RpO.lift G2 q⟩
/-- what follows a turn -/
theorem RpO.turn {W : WX} {D D' : Ends} {o : Out} {k : Env' → Hep → Out} (q : RpO g bars W r h H D (match o with
      | .nx e h => k e h
      | .ct e h => k e h
      | .bk e h => .nx e h
      | o => o)) (hn : ∀ r' e' h' σ' H', Grow r h.length H r' h'.length H' → At g bars r' h' H' → RE g r' h'.length H' e' σ' → RpO g bars W r' h' H' D (k e' h') → D'.nx σ' H') (hc : D'.ct = D'.nx) (hb : D'.bk = D.nx) (hr : D'.rt = D.rt) : RpO g bars W r h H D' o := by
  cases o with
  | nx e h1 => exact fun r1 H1 σ1 G A E => hn r1 e h1 σ1 H1 G A E (RpO.lift G q)
  | ct e h1 => exact fun r1 H1 σ1 G A E => by rw [hc]; exact hn r1 e h1 σ1 H1 G A E (RpO.lift G q)
  | bk e h1 => exact fun r1 H1 σ1 G A E => by rw [hb]; exact q r1 H1 σ1 G A E
  | rt v h1 => exact fun r1 H1 x G A E => by rw [hr]; exact q r1 H1 x G A E
  | xc c e h1 => exact q
  | stuck => exact q
theorem s_for {tg iter : Expr} {body : List Stmt} {W : WX} {ws : List Nat} {fi : Env' → Hep → Res Src} {ft : Va → Env' → Hep → Option (Env' × Hep)} {fb : Env' → Hep → Out} {st : Stmt} (hf : ∀ wi gt tb, PI X tg iter wi → PG X tg gt → PSs X body tb → PS X st (tFor wi gt tb)) (hi : PI X tg iter (tI g W bars fi)) (hg : PG X tg (tG g bars ws ft)) (hb : PSs X body (tS g W bars fb)) :
    PS X st (tS g W bars fun e h => (fi e h).to e fun s h => forS (turnO ft fb) s e h) := by
  refine PS.imp (hf _ _ _ hi hg hb) fun D σ H q => ?_
  obtain ⟨r0, e0, h0, A0, E0, q⟩ := q
  refine ⟨r0, e0, h0, A0, E0, RpO.to E0 q fun src h1 r1 H1 J m0 G1 A1 sj q1 => ?_⟩
  have E1 := E0.mono G1
  cases src with
  | vals l =>
    have sv : SrcV g bars r1 h1.length H1 l J := sj
    refine ⟨fun i m σ H => ∃ r e h, Grow r1 h1.length H1 r h.length H ∧ At g bars r h H ∧ RE g r h.length H e σ ∧ m = l.length - i ∧ i ≤ l.length ∧ RpO g bars W r h H D (forV (turnO ft fb) (l.drop i) e h), ⟨l.length, r1, e0, h1, .refl, A1, E1, by simp, Nat.zero_le _, q1⟩, ?_⟩
    rintro i m σ H ⟨r, e, h, G, A, E, rfl, hi, q⟩
    by_cases hlt : i < l.length
    · refine .inr ⟨sv.go i r h.length H G hlt, fun σ' H' => ∃ r e h, Grow r1 h1.length H1 r h.length H' ∧ At g bars r h H' ∧ RE g r h.length H' e σ' ∧ RpO g bars W r h H' D (forV (turnO ft fb) (l.drop (i + 1)) e h), ?_, fun x H' y => ?_⟩
      · rintro σ' H' ⟨r, e, h, G, A, E, q⟩
        exact ⟨l.length - (i + 1), by omega, r, e, h, G, A, E, rfl, hlt, q⟩
      · obtain ⟨v, e1, G2, A2, rv, _⟩ := sv.yld i r h H x H' hlt G A y
        obtain ⟨k, e2⟩ := List.getElem?_eq_some_iff.mp e1
        rw [List.drop_eq_getElem_cons hlt, e2] at q
        refine turn_ok A2 (E.mono G2) rv ?_
        have q2 : RpO g bars W r h H' D (forV (turnO ft fb) (v :: l.drop (i + 1)) e h) := RpO.lift G2 q
        refine RpO.turn (k := fun e h => forV (turnO ft fb) (l.drop (i + 1)) e h) q2 (fun r3 e3 h3 σ3 H3 G3 A3 E3 q3 => ⟨r3, e3, h3, (G.trans G2).trans G3, A3, E3, q3⟩) rfl rfl rfl
    · have hi' : i = l.length := by omega
      subst hi'
      rw [List.drop_length] at q
      exact .inl ⟨sv.stop _ r h.length H G (Nat.le_refl _), q r H σ .refl A E⟩
  | live a n =>
    have sl : SrcL g bars r1 h1.length H1 a J := sj
    refine ⟨fun i m σ H => ∃ r e h, Grow r1 h1.length H1 r h.length H ∧ At g bars r h H ∧ RE g r h.length H e σ ∧ RpO g bars W r h H D (forL (turnO ft fb) a m i e h), ⟨n, r1, e0, h1, .refl, A1, E1, q1⟩, ?_⟩
    rintro i m σ H ⟨r, e, h, G, A, E, q⟩
    cases m with
    | zero =>
      unfold forL at q
      split at q
      · rename_i l e1
        split at q
        · rename_i hl
          exact .inl ⟨sl.stop i r h H l G A e1 hl, q r H σ .refl A E⟩
        · exact q.elim
      · exact q.elim
    | succ k =>
      unfold forL at q
      split at q
      · rename_i l e1
        split at q
        · rename_i v e2
          obtain ⟨hlt, _⟩ := List.getElem?_eq_some_iff.mp e2
          refine .inr ⟨sl.go i r h H l G A e1 hlt, fun σ' H' => ∃ r e h, Grow r1 h1.length H1 r h.length H' ∧ At g bars r h H' ∧ RE g r h.length H' e σ' ∧ RpO g bars W r h H' D (forL (turnO ft fb) a k (i + 1) e h), ?_, fun x H' y => ?_⟩
          · rintro σ' H' ⟨r, e, h, G, A, E, q⟩
            exact ⟨k, Nat.lt_succ_self _, r, e, h, G, A, E, q⟩
          · obtain ⟨rfl, v', e3, rv⟩ := sl.yld i r h H x H' l G A e1 y
            rw [e2] at e3
            cases e3
            refine turn_ok A E rv ?_
            exact RpO.turn (k := fun e h => forL (turnO ft fb) a k (i + 1) e h) q (fun r3 e3 h3 σ3 H3 G3 A3 E3 q3 => ⟨r3, e3, h3, G.trans G3, A3, E3, q3⟩) rfl rfl rfl
        · rename_i e2
          have hl : l.length ≤ i := List.getElem?_eq_none_iff.mp e2
          exact .inl ⟨sl.stop i r h H l G A e1 hl, q r H σ .refl A E⟩
      · exact q.elim
theorem s_whl {c : Expr} {body : List Stmt} {W : WX} {fc : Env' → Hep → Res Va} {fb : Env' → Hep → Out} {st : Stmt} {n : Nat} (hf : ∀ tc tb, PT X c tc → PSs X body tb → PS X st (tWhile tc tb)) (hc : PT X c (tT g W bars fc)) (hb : PSs X body (tS g W bars fb)) :
    PS X st (tS g W bars fun e h => whlO fc fb n e h) := by
  refine PS.imp (hf _ _ hc hb) fun D σ H q => ?_
  obtain ⟨r0, e0, h0, A0, E0, q⟩ := q
  refine ⟨fun m σ H => ∃ r e h, At g bars r h H ∧ RE g r h.length H e σ ∧ RpO g bars W r h H D (whlO fc fb m e h), ⟨n, r0, e0, h0, A0, E0, q⟩, ?_⟩
  rintro m σ H ⟨r, e, h, A, E, q⟩
  cases m with
  | zero => exact q.elim
  | succ k =>
    unfold whlO at q
    refine ⟨r, e, h, A, E, ?_, ?_⟩
    · intro v h1 m1
      rw [m1] at q
      cases v with
      | bl b => exact ⟨b, rfl⟩
      | _ => exact q.elim
    · cases m1 : fc e h with
      | stuck => rw [m1] at q; exact q.elim
      | exc c h1 => rw [m1] at q; exact fun r1 H1 cls d G A x => q r1 H1 σ cls d G A (E.mono G) x
      | ok v h1 =>
        rw [m1] at q
        intro r1 H1 b G1 A1 rv
        subst rv
        cases b with
        | false => exact iteF (q r1 H1 σ G1 A1 (E.mono G1))
        | true =>
          refine iteT ⟨fun σ' H' => ∃ r e h, At g bars r h H' ∧ RE g r h.length H' e σ' ∧ RpO g bars W r h H' D (whlO fc fb k e h), fun σ' H' z => ⟨k, Nat.lt_succ_self _, z⟩, r1, e, h1, A1, E.mono G1, ?_⟩
          exact RpO.turn (k := fun e h => whlO fc fb k e h) (RpO.lift G1 q) (fun r3 e3 h3 σ3 H3 G3 A3 E3 q3 => ⟨r3, e3, h3, A3, E3, q3⟩) rfl rfl rfl
/-! ### comprehensions -/
theorem RE.none : ∀ {e : Env'} {σ : L2.St} (i : Nat), RE g r n H e σ → RE g r n H (e.set i none) (σ.set i none)
  | [], [], _, _ => trivial
  | some _ :: _, some _ :: _, 0, q => q.2
  | Option.none :: e, _ :: s, 0, q => q
  | Option.none :: e, _ :: s, i + 1, q => RE.none (e := e) (σ := s) i q
  | some _ :: e, some _ :: s, i + 1, q => ⟨q.1, RE.none (e := e) (σ := s) i q.2⟩
  | some _ :: _, Option.none :: _, _, q => q.elim
  | [], _ :: _, _, q => q.elim
  | some _ :: _, [], _, q => q.elim
  | Option.none :: _, [], _, q => q.elim
theorem RE.wipe {e : Env'} {σ : L2.St} (q : RE g r n H e σ) : ∀ (l : List Nat), RE g r n H (wipe' e l) (L2.wipe σ l)
  | [] => q
  | i :: l => RE.none i (RE.wipe q l)
theorem wipe_get : ∀ (l : List Nat) (σ : L2.St) (j : Nat), (L2.wipe σ l)[j]? = if j ∈ l then (σ[j]?).map (fun _ => Option.none) else σ[j]?
  | [], σ, j => by simp [L2.wipe]
  | i :: l, σ, j => by
    unfold L2.wipe
    by_cases hj : i = j
    · subst hj
      rw [if_pos (List.mem_cons_self ..)]
      by_cases hl : i < σ.length
      · rw [List.getElem?_set_self (by rw [wipe_length]; exact hl)]
        simp [hl]
      · rw [List.getElem?_eq_none (by rw [List.length_set, wipe_length]; omega), List.getElem?_eq_none (by omega)]
        rfl
    · rw [List.getElem?_set_ne hj, wipe_get l σ j]
      have : (j ∈ i :: l) ↔ j ∈ l := by simp [Ne.symm hj]
      simp only [this]
theorem wipe_same {ws own : List Nat} {σ σ' : L2.St} (s : Smz ws (L2.wipe σ own) σ') (hs : ∀ j ∈ ws, j ∈ own) : L2.wipe σ' own = L2.wipe σ own := by
  apply List.ext_getElem?
  intro j
  rw [wipe_get, wipe_get]
  by_cases hj : j ∈ own
  · rw [if_pos hj, if_pos hj]
    have hl : σ'.length = σ.length := by rw [s.1, wipe_length]
    by_cases hk : j < σ.length
    · rw [List.getElem?_eq_getElem (by omega), List.getElem?_eq_getElem hk]
      rfl
    · rw [List.getElem?_eq_none (by omega), List.getElem?_eq_none (by omega)]
  · rw [if_neg hj, if_neg hj, s.2 j fun z => hj (hs j z), wipe_get, if_neg hj]
/-- one turn of a comprehension -/
def turnC (ft : Va → Env' → Hep → Option (Env' × Hep)) (fc fe : Env' → Hep → Res Va) (e : Env') : Va → List Va → Hep → Res (List Va) := fun v acc h => match ft v e h with
  | some (e', h) => (fc e' h).bd fun x h => (match x with
    | .bl true => (fe e' h).bd fun y h => if acc.length < line then .ok (acc ++ [y]) h else .stuck
    | .bl false => .ok acc h
    | _ => .stuck)
  | none => .stuck
end
end NL
end

section
namespace NL
open PySem PySem.Spec PyProof.Rows L2

section
variable {g : Pg} {X : Cx} {bars : List Nat} {r : Nat → Addr} {h : Hep} {H : Hp}
abbrev W0 : WX := fun _ _ _ _ => False
/-- the list in the making at D: it has no number yet -/
structure Mk (g : Pg) (bars : List Nat) (D : Addr) (r : Nat → Addr) (h : Hep) (H : Hp) (acc : List Va) : Prop where
  lst : ∃ xs, H D = some (.lst xs) ∧ RVs g r h.length H acc xs ∧ xs.length ≤ line
  out : ∀ j, j < h.length → r j ≠ D
theorem Mk.grow {D : Addr} {acc : List Va} {r' : Nat → Addr} {h' : Hep} {H' : Hp} (m : NL.Mk g bars D r h H acc) (G : Grow r h.length H r' h'.length H') : NL.Mk g bars D r' h' H' acc := by
  obtain ⟨⟨xs, e1, e2, e3⟩, o⟩ := m
  refine ⟨⟨xs, G.frame D _ e1 o, e2.mono G, e3⟩, fun j hj => ?_⟩
  by_cases q : j < h.length
  · rw [G.same j q]; exact o j q
  · intro z
    have := G.fresh j (Nat.le_of_not_lt q) hj
    rw [z, e1] at this
    cases this
/-- what has no number is changed: nothing of ours changes -/
theorem At.other {D : Addr} {O O' : HO} (A : At g bars r h H) (e : H D = some O) (hm : Mut (some O)) (o : ∀ j, j < h.length → r j ≠ D) : At g bars r h (upd H D O') ∧ (∀ l xs, RVs g r h.length H l xs → RVs g r h.length (upd H D O') l xs) ∧ Keep H (upd H D O') := by
  have k : Keep H (upd H D O') := Keep.mut e hm
  have G : ∀ {v : Va} {x : V}, RV g r h.length H v x → RV g r h.length (upd H D O') v x := fun q => mono' k q
  refine ⟨⟨⟨A.rh.inj, fun i o' e' => ?_⟩, A.bo⟩, fun l xs q => monoL k q, k⟩
  obtain ⟨Q, e1, e2⟩ := A.rh.ob i o' e'
  have hi : i < h.length := (List.getElem?_eq_some_iff.mp e').1
  refine ⟨Q, by rw [upd_ne (o i hi)]; exact e1, ?_⟩
  cases e2 with
  | lst a b => exact .lst (monoL k a) b
  | dic a =>
    refine .dic ?_
    clear e1 e'
    induction a with
    | nil => exact .nil
    | int a _ ih => exact .int (mono' k a) ih
    | str e a _ ih => exact .str e (mono' k a) ih
  | ins a =>
    refine .ins ?_
    clear e1 e'
    induction a with
    | nil => exact .nil
    | cons a _ ih => exact .cons (mono' k a) ih
where
  mono' {H H' : Hp} {n : Nat} (k : Keep H H') : ∀ {v : Va} {x : V}, RV g r n H v x → RV g r n H' v x
    | .non, _, q => by cases q; exact .non
    | .bl _, _, q => by cases q; exact .bl _
    | .int _, _, q => by cases q; exact .int _
    | .str _, _, q => by cases q with | str _ z => exact .str _ z
    | .ref _, _, q => by cases q with | ref z => exact .ref z
    | .fn _, _, q => by cases q; exact .fn
    | .cl _, _, q => by cases q; exact .cl
    | .tup l, _, q => by
      cases q with
      | tup h1 h2 h3 => exact .tup (k.sqT h1) h2 (monoL k h3)
    | .kl l, _, q => by
      cases q with
      | kl h1 h2 h3 => exact .kl (k.sqF h1) h2 (monoL k h3)
  monoL {H H' : Hp} {n : Nat} (k : Keep H H') : ∀ {v : List Va} {x : List V}, RVs g r n H v x → RVs g r n H' v x
    | [], _, q => by cases q; exact .nil
    | _ :: _, _, q => by cases q with | cons a b => exact .cons (mono' k a) (monoL k b)
theorem Grow.other {r0 : Nat → Addr} {n0 n : Nat} {H0 : Hp} {D : Addr} {O O' : HO} (G : Grow r0 n0 H0 r n H) (h0 : H0 D = none) (e : H D = some O) (hm : Mut (some O)) : Grow r0 n0 H0 r n (upd H D O') where
  le := G.le
  same := G.same
  keep := G.keep.trans (Keep.mut e hm)
  frame := fun a o ea k => by rw [upd_ne (ne_of_none ea h0)]; exact G.frame a o ea k
  fresh := G.fresh
  dom := fun a o ea => by
    obtain ⟨o', eo⟩ := G.dom a o ea
    exact ⟨o', by rw [upd_ne (ne_of_none ea h0)]; exact eo⟩
/-- one turn -/
theorem turnC_ok {r0 : Nat → Addr} {n0 : Nat} {H0 : Hp} {ws own : List Nat} {ft : Va → Env' → Hep → Option (Env' × Hep)} {fc fe : Env' → Hep → Res Va} {D : Addr} {acc acc' : List Va} {h' : Hep} {v : Va} {x : V} {e : Env'} {σ : L2.St} {Nx : Hp → Prop} (hs : ∀ j ∈ ws, j ∈ own) (G0 : Grow r0 n0 H0 r h.length H) (h0 : H0 D = none) (A : At g bars r h H) (E : RE g r h.length H e σ) (M : NL.Mk g bars D r h H acc)
    (rv : RV g r h.length H v x) (q : turnC ft fc fe (wipe' e own) v acc h = .ok acc' h') (kn : ∀ r' H', Grow r0 n0 H0 r' h'.length H' → At g bars r' h' H' → NL.Mk g bars D r' h' H' acc' → Nx H') :
    tG g bars ws ft x (L2.wipe σ own) H fun σ2 H2 => L2.wipe σ2 own = L2.wipe σ own ∧ tT g W0 bars fc σ2 H2 fun b H3 => if b = true then tE g W0 bars fe σ2 H3 fun y H4 => ∃ ac, H4 D = some (.lst ac) ∧ ac.length < sizeLine ∧ Nx (upd H4 D (.lst (ac ++ [y]))) else Nx H3 := by
  refine ⟨r, wipe' e own, h, v, A, E.wipe own, rv, ?_⟩
  unfold turnC at q
  cases m : ft v (wipe' e own) h with
  | none => rw [m] at q; cases q
  | some p =>
    obtain ⟨e1, h1⟩ := p
    rw [m] at q
    intro r1 H1 σ1 G1 A1 E1 S1
    refine ⟨wipe_same S1 hs, r1, e1, h1, A1, E1, ?_⟩
    dsimp only at q
    cases m2 : fc e1 h1 with
    | stuck => rw [m2] at q; cases q
    | exc c h2 => rw [m2] at q; cases q
    | ok z h2 =>
      rw [m2, Res.bd_ok] at q
      cases z with
      | bl b =>
        refine ⟨fun v' h2' ee => by cases ee; exact ⟨_, rfl⟩, fun r2 H2 y2 G2 A2 ry2 => ?_⟩
        cases ry2
        have G12 := G1.trans G2
        cases b with
        | false =>
          refine iteF ?_
          have q' : (Res.ok acc h2 : Res (List Va)) = .ok acc' h' := q
          cases q'
          exact kn r2 H2 (G0.trans G12) A2 (M.grow G12)
        | true =>
          refine iteT ⟨r2, e1, h2, A2, E1.mono G2, ?_⟩
          have q' : (fe e1 h2).bd (fun y h => if acc.length < line then .ok (acc ++ [y]) h else .stuck) = .ok acc' h' := q
          cases m3 : fe e1 h2 with
          | stuck => rw [m3] at q'; cases q'
          | exc c h2 => rw [m3] at q'; cases q'
          | ok y h3 =>
            rw [m3, Res.bd_ok] at q'
            split at q'
            · rename_i hl
              cases q'
              intro r3 H3 y3 G3 A3 ry3
              have G123 := G12.trans G3
              have M3 := M.grow G123
              obtain ⟨xs, d1, d2, d3⟩ := M3.lst
              have hl2 : xs.length < line := by rw [← d2.length]; exact hl
              obtain ⟨A4, k4, kp⟩ := At.other (O' := .lst (xs ++ [y3])) A3 d1 True.intro M3.out
              refine ⟨xs, d1, Nat.lt_of_lt_of_le hl2 (by decide), kn r3 _ ((G0.trans G123).other h0 d1 True.intro) A4 ⟨⟨xs ++ [y3], upd_same, (k4 _ _ d2).append (k4 _ _ (.cons ry3 .nil)), ?_⟩, M3.out⟩⟩
              rw [List.length_append]
              exact hl2
            · cases q'
      | _ => cases q
/-- the whole of a comprehension -/
theorem lc_ok {ws own : List Nat} {fi : Env' → Hep → Res Src} {ft : Va → Env' → Hep → Option (Env' × Hep)} {fc fe : Env' → Hep → Res Va} {W : WX} (hs : ∀ j ∈ ws, j ∈ own) :
    ∀ σ H Q, tE g W bars (fun e h => (fi e h).bd fun s h => (mapS (turnC ft fc fe (wipe' e own)) s h).bd fun l h => mkO (.lst l) h) σ H Q → tLc (tI g W bars fi) (tG g bars ws ft) (tT g W0 bars fc) (tE g W0 bars fe) own σ H Q := by
  intro σ H Q q
  obtain ⟨r0, e0, h0, A0, E0, q⟩ := q
  refine ⟨r0, e0, h0, A0, E0, Rp.bd q fun src h1 r1 H1 J m0 G1 A1 sj q1 => ?_⟩
  intro D hD
  have E1 := E0.mono G1
  -- the list at D before the first turn
  have Gs : Grow r1 h1.length H1 r1 h1.length (upd H1 D (.lst [])) := Grow.newT hD
  have As : At g bars r1 h1 (upd H1 D (.lst [])) := by
    refine ⟨⟨A1.rh.inj, fun i o e => ?_⟩, A1.bo⟩
    obtain ⟨O, e1, e2⟩ := A1.rh.ob i o e
    exact ⟨O, by rw [upd_ne (ne_of_none e1 hD)]; exact e1, e2.mono Gs⟩
  have Ms : NL.Mk g bars D r1 h1 (upd H1 D (.lst [])) [] := ⟨⟨[], upd_same, .nil, Nat.zero_le _⟩, fun j hj z => by
    obtain ⟨O, e1⟩ := A1.rh.lt hj
    rw [z, hD] at e1
    cases e1⟩
  -- the end
  have fin : ∀ {r : Nat → Addr} {h : Hep} {H : Hp} {acc : List Va}, Grow r1 h1.length H1 r h.length H → At g bars r h H → NL.Mk g bars D r h H acc → RpV g bars (fun c d H => W c d σ H) r1 h1 H1 Q (mkO (.lst acc) h) → Q (.ref D) H := by
    intro r h H acc G A M q
    obtain ⟨xs, d1, d2, d3⟩ := M.lst
    have G2 : Grow r1 h1.length H1 (ext r h.length D) (h ++ [Ob.lst acc]).length H := by
      rw [List.length_append, List.length_singleton]
      refine ⟨Nat.le_succ_of_le G.le, fun i hi => (ext_ne (by have := G.le; omega)).trans (G.same i hi), G.keep, G.frame, fun i h1' h2' => ?_, G.dom⟩
      by_cases z : i = h.length
      · subst z; rw [ext_at]; exact hD
      · rw [ext_ne z]; exact G.fresh i h1' (by omega)
    have A2 : At g bars (ext r h.length D) (h ++ [Ob.lst acc]) H := by
      have Gm : Grow r h.length H (ext r h.length D) (h.length + 1) H → True := fun _ => trivial
      refine ⟨⟨fun i j hi hj e => ?_, fun i o e => ?_⟩, A.bo.new⟩
      · rw [List.length_append, List.length_singleton] at hi hj
        by_cases z1 : i = h.length
        · subst z1
          by_cases z2 : j = h.length
          · exact z2.symm
          · rw [ext_at, ext_ne z2] at e
            exact absurd e.symm (M.out j (by omega))
        · by_cases z2 : j = h.length
          · subst z2
            rw [ext_at, ext_ne z1] at e
            exact absurd e (M.out i (by omega))
          · rw [ext_ne z1, ext_ne z2] at e
            exact A.rh.inj i j (by omega) (by omega) e
      · rw [List.length_append, List.length_singleton]
        have mono : ∀ {o O}, RO g r h.length H o O → RO g (ext r h.length D) (h.length + 1) H o O := fun q => moreO q
        by_cases z : i = h.length
        · subst z
          rw [List.getElem?_append_right (Nat.le_refl _), Nat.sub_self] at e
          simp at e
          subst e
          exact ⟨_, by rw [ext_at]; exact d1, mono (.lst d2 (line_le d3))⟩
        · have hi : i < h.length := by
            have := (List.getElem?_eq_some_iff.mp e).1
            rw [List.length_append, List.length_singleton] at this
            omega
          rw [List.getElem?_append_left hi] at e
          obtain ⟨O, e1, e2⟩ := A.rh.ob i o e
          exact ⟨O, by rw [ext_ne z]; exact e1, mono e2⟩
    have rv : RV g (ext r h.length D) (h ++ [Ob.lst acc]).length H (.ref h.length) (.ref D) := by
      have : RV g (ext r h.length D) (h ++ [Ob.lst acc]).length H (.ref h.length) (.ref (ext r h.length D h.length)) := .ref (by simp)
      rwa [ext_at] at this
    exact q _ _ _ G2 A2 rv
  cases src with
  | vals l =>
    have sv : SrcV g bars r1 h1.length H1 l J := sj
    refine ⟨fun i m H => ∃ r h acc, Grow r1 h1.length H1 r h.length H ∧ At g bars r h H ∧ NL.Mk g bars D r h H acc ∧ m = l.length - i ∧ i ≤ l.length ∧ RpV g bars (fun c d H => W c d σ H) r1 h1 H1 Q ((mapV (turnC ft fc fe (wipe' e0 own)) (l.drop i) acc h).bd fun l h => mkO (.lst l) h), ⟨l.length, r1, h1, [], Gs, As, Ms, by simp, Nat.zero_le _, q1⟩, ?_⟩
    rintro i m H ⟨r, h, acc, G, A, M, rfl, hi, q⟩
    by_cases hlt : i < l.length
    · refine .inr ⟨sv.go i r h.length H G hlt, fun H' => ∃ r h acc, Grow r1 h1.length H1 r h.length H' ∧ At g bars r h H' ∧ NL.Mk g bars D r h H' acc ∧ RpV g bars (fun c d H => W c d σ H) r1 h1 H1 Q ((mapV (turnC ft fc fe (wipe' e0 own)) (l.drop (i + 1)) acc h).bd fun l h => mkO (.lst l) h), ?_, fun x H' y => ?_⟩
      · rintro H' ⟨r, h, acc, G, A, M, q⟩
        exact ⟨l.length - (i + 1), by omega, r, h, acc, G, A, M, rfl, hlt, q⟩
      · obtain ⟨v, e1, G2, A2, rv, _⟩ := sv.yld i r h H x H' hlt G A y
        obtain ⟨k, e2⟩ := List.getElem?_eq_some_iff.mp e1
        rw [List.drop_eq_getElem_cons hlt, e2] at q
        cases mt : turnC ft fc fe (wipe' e0 own) v acc h with
        | stuck => unfold mapV at q; rw [mt] at q; exact q.elim
        | exc c h2 => unfold mapV at q; rw [mt] at q; exact q.elim
        | ok acc' h2 =>
          unfold mapV at q
          rw [mt] at q
          exact turnC_ok hs (G.trans G2) hD A2 ((E1.mono G).mono G2) (M.grow G2) rv mt fun r' H3 G3 A3 M3 => ⟨r', h2, acc', G3, A3, M3, q⟩
    · have hi' : i = l.length := by omega
      subst hi'
      rw [List.drop_length] at q
      exact .inl ⟨sv.stop _ r h.length H G (Nat.le_refl _), fin G A M q⟩
  | live a n =>
    have sl : SrcL g bars r1 h1.length H1 a J := sj
    refine ⟨fun i m H => ∃ r h acc, Grow r1 h1.length H1 r h.length H ∧ At g bars r h H ∧ NL.Mk g bars D r h H acc ∧ RpV g bars (fun c d H => W c d σ H) r1 h1 H1 Q ((mapL (turnC ft fc fe (wipe' e0 own)) a m i acc h).bd fun l h => mkO (.lst l) h), ⟨n, r1, h1, [], Gs, As, Ms, q1⟩, ?_⟩
    rintro i m H ⟨r, h, acc, G, A, M, q⟩
    cases m with
    | zero =>
      unfold mapL at q
      split at q
      · rename_i l e1
        split at q
        · rename_i hl
          exact .inl ⟨sl.stop i r h H l G A e1 hl, fin G A M q⟩
        · exact q.elim
      · exact q.elim
    | succ k =>
      unfold mapL at q
      split at q
      · rename_i l e1
        split at q
        · rename_i v e2
          obtain ⟨hlt, _⟩ := List.getElem?_eq_some_iff.mp e2
          refine .inr ⟨sl.go i r h H l G A e1 hlt, fun H' => ∃ r h acc, Grow r1 h1.length H1 r h.length H' ∧ At g bars r h H' ∧ NL.Mk g bars D r h H' acc ∧ RpV g bars (fun c d H => W c d σ H) r1 h1 H1 Q ((mapL (turnC ft fc fe (wipe' e0 own)) a k (i + 1) acc h).bd fun l h => mkO (.lst l) h), ?_, fun x H' y => ?_⟩
          · rintro H' ⟨r, h, acc, G, A, M, q⟩
            exact ⟨k, Nat.lt_succ_self _, r, h, acc, G, A, M, q⟩
          · obtain ⟨rfl, v', e3, rv⟩ := sl.yld i r h H x H' l G A e1 y
            rw [e2] at e3
            cases e3
            cases mt : turnC ft fc fe (wipe' e0 own) v acc h with
            | stuck => rw [mt] at q; exact q.elim
            | exc c h2 => rw [mt] at q; exact q.elim
            | ok acc' h2 =>
              rw [mt] at q
              exact turnC_ok hs G hD A (E1.mono G) M rv mt fun r' H3 G3 A3 M3 => ⟨r', h2, acc', G3, A3, M3, q⟩
        · rename_i e2
          have hl : l.length ≤ i := List.getElem?_eq_none_iff.mp e2
          exact .inl ⟨sl.stop i r h H l G A e1 hl, fin G A M q⟩
      · exact q.elim
where
  moreV {D : Addr} {n : Nat} {H : Hp} {r : Nat → Addr} : ∀ {v : Va} {x : V}, RV g r n H v x → RV g (ext r n D) (n + 1) H v x
    | .non, _, q => by cases q; exact .non
    | .bl _, _, q => by cases q; exact .bl _
    | .int _, _, q => by cases q; exact .int _
    | .str _, _, q => by cases q with | str _ z => exact .str _ z
    | .ref i, _, q => by
      cases q with
      | ref z =>
        have : RV g (ext r n D) (n + 1) H (.ref i) (.ref (ext r n D i)) := .ref (Nat.lt_succ_of_lt z)
        rwa [ext_ne (Nat.ne_of_lt z)] at this
    | .fn _, _, q => by cases q; exact .fn
    | .cl _, _, q => by cases q; exact .cl
    | .tup l, _, q => by
      cases q with
      | tup h1 h2 h3 => exact .tup h1 h2 (moreL h3)
    | .kl l, _, q => by
      cases q with
      | kl h1 h2 h3 => exact .kl h1 h2 (moreL h3)
  moreL {D : Addr} {n : Nat} {H : Hp} {r : Nat → Addr} : ∀ {v : List Va} {x : List V}, RVs g r n H v x → RVs g (ext r n D) (n + 1) H v x
    | [], _, q => by cases q; exact .nil
    | _ :: _, _, q => by cases q with | cons a b => exact .cons (moreV a) (moreL b)
  moreO {D : Addr} {n : Nat} {H : Hp} {r : Nat → Addr} {o : Ob} {O : HO} (q : RO g r n H o O) : RO g (ext r n D) (n + 1) H o O := by
    cases q with
    | lst a b => exact .lst (moreL a) b
    | dic a =>
      refine .dic ?_
      induction a with
      | nil => exact .nil
      | int a _ ih => exact .int (moreV a) ih
      | str e a _ ih => exact .str e (moreV a) ih
    | ins a =>
      refine .ins ?_
      induction a with
      | nil => exact .nil
      | cons a _ ih => exact .cons (moreV a) ih
end
end NL
end

section
namespace NL
open PySem PySem.Spec PyProof.Rows L2

/-! ### calls of defs -/
/-- a written value on the layer's side -/
def dV : Va → V
  | .bl b => .bl b
  | .int i => .int i
  | .str s => .str (S s)
  | _ => .non
def litOk : Va → Bool
  | .non => true
  | .bl _ => true
  | .int _ => true
  | .str s => sOk s
  | _ => false
theorem dV_RV {g : Pg} {r : Nat → Addr} {n : Nat} {H : Hp} {v : Va} (h : litOk v = true) : RV g r n H v (dV v) := by
  cases v with
  | non => exact .non
  | bl b => exact .bl b
  | int i => exact .int i
  | str s => exact .str s h
  | _ => cases h
def pickX (l : List V) : List Pm → List V
  | [] => []
  | .arg i :: is => l.getD i .non :: pickX l is
  | .dfl v :: is => dV v :: pickX l is
def pmOk : List Pm → Bool
  | [] => true
  | .arg _ :: is => pmOk is
  | .dfl v :: is => litOk v && pmOk is
theorem pick_RVs {g : Pg} {r : Nat → Addr} {n : Nat} {H : Hp} {l : List Va} {xs : List V} (q : RVs g r n H l xs) : ∀ {pm : List Pm} {vs : List Va}, pmOk pm = true → pick' l pm = some vs → RVs g r n H vs (pickX xs pm)
  | [], _, _, e => by cases e; exact .nil
  | .arg i :: is, vs, k, e => by
    unfold pick' at e
    split at e
    · rename_i v ws e1 e2
      cases e
      obtain ⟨x, e3, rv⟩ := q.get e1
      have : xs.getD i .non = x := by rw [List.getD_eq_getElem?_getD, e3]; rfl
      rw [pickX, this]
      exact .cons rv (pick_RVs q k e2)
    · cases e
  | .dfl v :: is, vs, k, e => by
    unfold pmOk at k
    rw [Bool.and_eq_true] at k
    unfold pick' at e
    split at e
    · rename_i ws e2
      cases e
      exact .cons (dV_RV k.1) (pick_RVs q k.2 e2)
    · cases e
/-- a def's promise -/
def spF (g : Pg) (F : CallT) (f np : Nat) : Sp := fun vs H Q E => ∃ r bars h l, At g bars r h H ∧ RVs g r h.length H l vs ∧ l.length = np ∧ RpV g bars (fun c d H => E c d H) r h H Q (F bars f l h)
/-- how a form of call binds -/
structure FormOk (K : PySem.W.Frag) (fd : FuncData) (ps : List Str) (np : Nat) (ks : List Str) (pm : List Pm) : Prop where
  ok : pmOk pm = true
  bind : ∃ gU : List Value → List Value → List Value, (∀ (s : Shared) (us ws : List Value), K.In s.heap → us.length = np → ws.length = ks.length → BindsTo s fd ⟨us, ks.zip ws⟩ (ps.zip (gU us ws))) ∧
    (∀ vs us zs ws, Vals vs us → Vals zs ws → vs.length = np → zs.length = ks.length → Vals (pickX (vs ++ zs) pm) (gU us ws))
section
variable {g : Pg} {X : Cx} {bars : List Nat}
def tK (g : Pg) (W : WX) (bars : List Nat) (f : Env' → Hep → Res (List Va)) : TA := tAs g W bars f
theorem k_nil {W : WX} : PK X [] (tAs g W bars fun _ h => .ok [] h) := by
  refine ⟨fun pos pins s σ H Q I q => pk_nil.run pos pins s σ H Q I ?_⟩
  obtain ⟨r, e, h, A, E, q⟩ := q
  exact Rp.pure A .nil q
theorem k_cons {a : Expr} {kws : List Keyword} {nm : Option Str} {kpos : Pos} {W : WX} {fa : Env' → Hep → Res Va} {fs : Env' → Hep → Res (List Va)} (ha : PE X a (tE g W bars fa)) (hs : PK X kws (tAs g W bars fs)) :
    PK X (⟨nm, a, kpos⟩ :: kws) (tAs g W bars fun e h => (fa e h).bd fun x h => (fs e h).bd fun l h => .ok (x :: l) h) := by
  refine ⟨fun pos pins s σ H Q I q => (pk_cons ha hs).run pos pins s σ H Q I ?_⟩
  obtain ⟨r, e, h, A, E, q⟩ := q
  exact ⟨r, e, h, A, E, Rp.bd q fun v h1 r1 H1 x _ G A1 rv q1 => ⟨r1, e, h1, A1, E.mono G, Rp.bd q1 fun l h2 r2 H2 xs _ G2 A2 rl q2 => Rp.pure A2 (.cons (rv.mono G2) rl) q2⟩⟩
theorem run_fnG {CX : CXT} {k : Nat} {f : Addr} {fd : FuncData} {ps ks : List Str} {sp : Sp} {E : XK} {pins : List (Addr × Obj)} {σ : L2.St} {H : Hp} {s : Shared} {Q : VK} {us ws gw : List Value} {gv : List V} (F : FnOk X.prog X.w X.K X.mg X.base CX k f fd ps sp) (hr : Room k X.A) (hx : PassesAt CX X σ E)
    (I : Inv X pins σ H s) (hb : BindsTo s fd ⟨us, ks.zip ws⟩ (ps.zip gw)) (r : Vals gv gw) (h : sp gv H Q E) : wpAny (model X.prog X.w) X.A (call (.ref f) us (ks.zip ws)) (EP X pins σ Q) X.xe s := by
  refine wpAny_call (codeAny_mono (F.run X.A X.stack s H ⟨us, ks.zip ws⟩ gw gv Q E hr I.env0 hb r h) fun r s' hq => ?_)
  cases r with
  | error e => exact hx pins H s e s' I hq
  | ok fl =>
    cases fl with
    | ret u => exact I.after hq
    | next => exact False.elim hq
    | brk => exact False.elim hq
    | cont => exact False.elim hq
/-- a call's reading -/
def tCallG (sp : Sp) (pm : List Pm) (W : WX) (np nk : Nat) (t tk : TA) : TE := fun σ H Q => t σ H fun vs H1 => tk σ H1 fun zs H2 => vs.length = np ∧ zs.length = nk ∧ sp (pickX (vs ++ zs) pm) H2 Q (fun c d H => W c d σ H)
theorem call_rest {W : WX} {k np : Nat} {f : Addr} {fd : FuncData} {ps ks : List Str} {pm : List Pm} {sp : Sp} {pos : Pos} {kws : List Keyword} {tk : TA} {pins : List (Addr × Obj)} {σ : L2.St} {Q : VK} (F : FnOk X.prog X.w X.K X.mg X.base (L2.CX X.prog X.w) k f fd ps sp) (hr : Room k X.A) (tkW : Takes X W) (hb : FormOk X.K fd ps np ks pm)
    (hkw : PK X kws tk) (hks : (backToKw pos (keywordEach kws X.env)).filterMap (·.1) = ks) {us : List Value} {s1 : Shared} {vs : List V} {H1 : Hp} (I1 : Inv X pins σ H1 s1) (r : Vals vs us) (q : tk σ H1 fun zs H2 => vs.length = np ∧ zs.length = ks.length ∧ sp (pickX (vs ++ zs) pm) H2 Q (fun c d H => W c d σ H)) :
      wpAny (model X.prog X.w) X.A (evalAll ((backToKw pos (keywordEach kws X.env)).map (·.2))) (fun ws s₂ => X.K.In s₂.heap ∧ wpAny (model X.prog X.w) X.A (call (.ref f) us (((backToKw pos (keywordEach kws X.env)).filterMap (·.1)).zip ws)) (EP X pins σ Q) X.xe s₂) X.xe s1 := by
  obtain ⟨gU, b1, b2⟩ := hb.bind
  refine thn (hkw.run pos pins _ σ _ _ I1 q) fun ws s2 ⟨zs, H2, I2, rz, l1, l2, q2⟩ => ⟨I2.kIn, ?_⟩
  rw [hks]
  exact run_fnG F hr (passAt tkW σ) I2 (b1 s2 us ws I2.kIn (by rw [← r.length]; exact l1) (by rw [← rz.length]; exact l2)) (b2 _ _ _ _ r rz l1 l2) q2
theorem pe_callG {W : WX} {k np : Nat} {f : Addr} {fd : FuncData} {ps ks : List Str} {pm : List Pm} {sp : Sp} {x : Str} {p pos : Pos} {e : Expr} {es : List Expr} {kws : List Keyword} {t tk : TA} (F : FnOk X.prog X.w X.K X.mg X.base (L2.CX X.prog X.w) k f fd ps sp) (hr : Room k X.A) (tkW : Takes X W) (hg : Gl X x) (hm : X.mg x = some (.ref f)) (hk : PySem.W.keepIn X.K (.ref f) = true) (hb : FormOk X.K fd ps np ks pm)
    (ha : PA X (e :: es) t) (hkw : PK X kws tk) (hall : (backToKw pos (keywordEach kws X.env)).all (·.1.isSome) = true) (hks : (backToKw pos (keywordEach kws X.env)).filterMap (·.1) = ks) (hdb : (x == ("__debug__" : Str)) = false)
    (he : starEach (e :: es) X.env = (false, eval e X.env) :: starEach es X.env) (hpl : ((backTo pos (starEach (e :: es) X.env)).any (·.1) || (backToKw pos (keywordEach kws X.env)).any (·.1.isNone)) = false) :
    PE X (.Call (.Name x p) (e :: es) kws pos) (tCallG sp pm W np ks.length t tk) := by
  refine ⟨fun pins s σ H Q I h => ?_⟩
  refine wpAny_Call_Name_kw (ld_glob I hg hm ?_ hdb)
  exact PySem.W.callWith_KW (h₀ := X.base) I.ok.mod.kin hk hall (thn (ha.run pos pins s σ H _ I h) fun us s1 ⟨vs, H1, I1, r, q⟩ => call_rest F hr tkW hb hkw hks I1 r q) hpl he
theorem pe_callG0 {W : WX} {k : Nat} {f : Addr} {fd : FuncData} {ps ks : List Str} {pm : List Pm} {sp : Sp} {x : Str} {p pos : Pos} {kws : List Keyword} {tk : TA} (F : FnOk X.prog X.w X.K X.mg X.base (L2.CX X.prog X.w) k f fd ps sp) (hr : Room k X.A) (tkW : Takes X W) (hg : Gl X x) (hm : X.mg x = some (.ref f)) (hk : PySem.W.keepIn X.K (.ref f) = true) (hb : FormOk X.K fd ps 0 ks pm)
    (hkw : PK X kws tk) (hall : (backToKw pos (keywordEach kws X.env)).all (·.1.isSome) = true) (hks : (backToKw pos (keywordEach kws X.env)).filterMap (·.1) = ks) (hdb : (x == ("__debug__" : Str)) = false)
    (hpl : ((backTo pos (starEach [] X.env)).any (·.1) || (backToKw pos (keywordEach kws X.env)).any (·.1.isNone)) = false) :
    PE X (.Call (.Name x p) [] kws pos) (fun σ H Q => tk σ H fun zs H2 => ([] : List V).length = 0 ∧ zs.length = ks.length ∧ sp (pickX ([] ++ zs) pm) H2 Q (fun c d H => W c d σ H)) := by
  refine ⟨fun pins s σ H Q I h => ?_⟩
  refine wpAny_Call_Name_kw (ld_glob I hg hm ?_ hdb)
  exact PySem.W.callWith_KW0 (h₀ := X.base) I.ok.mod.kin hk hall (call_rest F hr tkW hb hkw hks I .nil h) hpl
/-- what follows the arguments -/
theorem call_sp {W : WX} {F : CallT} {f np n nk : Nat} {pm : List Pm} {r : Nat → Addr} {h : Hep} {H : Hp} {σ : L2.St} {Q : VK} {l m : List Va} {vs zs : List V} (A : At g bars r h H) (rl : RVs g r h.length H l vs) (rm : RVs g r h.length H m zs) (hok : pmOk pm = true) (hl : l.length = n) (hm : m.length = nk)
    (q : RpV g bars (fun c d H => W c d σ H) r h H Q (match pick' (l ++ m) pm with
      | some vs => if vs.length = np then F bars f vs h else .stuck
      | none => .stuck)) : vs.length = n ∧ zs.length = nk ∧ spF g F f np (pickX (vs ++ zs) pm) H Q (fun c d H => W c d σ H) := by
  refine ⟨by rw [← rl.length]; exact hl, by rw [← rm.length]; exact hm, ?_⟩
  split at q
  · rename_i ws e
    split at q
    · rename_i hn
      exact ⟨r, bars, h, ws, A, pick_RVs (rl.append rm) hok e, hn, q⟩
    · exact q.elim
  · exact q.elim
theorem e_call {W : WX} {F : CallT} {fi k np n : Nat} {f : Addr} {fd : FuncData} {ps ks : List Str} {pm : List Pm} {x : Str} {p pos : Pos} {e : Expr} {es : List Expr} {kws : List Keyword} {fs gs : Env' → Hep → Res (List Va)} (FO : FnOk X.prog X.w X.K X.mg X.base (L2.CX X.prog X.w) k f fd ps (spF g F fi np)) (hr : Room k X.A) (tkW : Takes X W) (hg : Gl X x) (hm : X.mg x = some (.ref f)) (hk : PySem.W.keepIn X.K (.ref f) = true) (hb : FormOk X.K fd ps n ks pm)
    (ha : PA X (e :: es) (tAs g W bars fs)) (hkw : PK X kws (tAs g W bars gs)) (hall : (backToKw pos (keywordEach kws X.env)).all (·.1.isSome) = true) (hks : (backToKw pos (keywordEach kws X.env)).filterMap (·.1) = ks) (hdb : (x == ("__debug__" : Str)) = false)
    (he : starEach (e :: es) X.env = (false, eval e X.env) :: starEach es X.env) (hpl : ((backTo pos (starEach (e :: es) X.env)).any (·.1) || (backToKw pos (keywordEach kws X.env)).any (·.1.isNone)) = false) :
    PE X (.Call (.Name x p) (e :: es) kws pos) (tE g W bars fun e h => (fs e h).bd fun l h => (gs e h).bd fun m h => callR F bars fi np n ks.length pm l m h) := by
  refine PE.imp (pe_callG FO hr tkW hg hm hk hb ha hkw hall hks hdb he hpl) fun σ H Q q => ?_
  obtain ⟨r, e, h, A, E, q⟩ := q
  refine ⟨r, e, h, A, E, Rp.bd q fun l h1 r1 H1 vs _ G A1 rl q1 => ⟨r1, e, h1, A1, E.mono G, Rp.bd q1 fun m h2 r2 H2 zs _ G2 A2 rm q2 => ?_⟩⟩
  unfold callR at q2
  split at q2
  · rename_i hh
    exact call_sp A2 (rl.mono G2) rm hb.ok hh.1 hh.2 q2
  · exact q2.elim
theorem e_call0 {W : WX} {F : CallT} {fi k np : Nat} {f : Addr} {fd : FuncData} {ps ks : List Str} {pm : List Pm} {x : Str} {p pos : Pos} {kws : List Keyword} {gs : Env' → Hep → Res (List Va)} (FO : FnOk X.prog X.w X.K X.mg X.base (L2.CX X.prog X.w) k f fd ps (spF g F fi np)) (hr : Room k X.A) (tkW : Takes X W) (hg : Gl X x) (hm : X.mg x = some (.ref f)) (hk : PySem.W.keepIn X.K (.ref f) = true) (hb : FormOk X.K fd ps 0 ks pm)
    (hkw : PK X kws (tAs g W bars gs)) (hall : (backToKw pos (keywordEach kws X.env)).all (·.1.isSome) = true) (hks : (backToKw pos (keywordEach kws X.env)).filterMap (·.1) = ks) (hdb : (x == ("__debug__" : Str)) = false)
    (hpl : ((backTo pos (starEach [] X.env)).any (·.1) || (backToKw pos (keywordEach kws X.env)).any (·.1.isNone)) = false) :
    PE X (.Call (.Name x p) [] kws pos) (tE g W bars fun e h => (Res.ok [] h).bd fun l h => (gs e h).bd fun m h => callR F bars fi np 0 ks.length pm l m h) := by
  refine PE.imp (pe_callG0 FO hr tkW hg hm hk hb hkw hall hks hdb hpl) fun σ H Q q => ?_
  obtain ⟨r, e, h, A, E, q⟩ := q
  dsimp only [Res.bd_ok] at q
  refine ⟨r, e, h, A, E, Rp.bd q fun m h2 r2 H2 zs _ G2 A2 rm q2 => ?_⟩
  unfold callR at q2
  split at q2
  · rename_i hh
    exact call_sp (vs := []) A2 .nil rm hb.ok hh.1 hh.2 q2
  · exact q2.elim
end
end NL
end

section
namespace NL
open PySem PySem.Spec PyProof.Rows L2

/-! ### shapes of the text -/
def noStar : Expr → Bool
  | .Starred .. => false
  | _ => true
def noSet : Expr → Bool
  | .Set .. => false
  | _ => true
def noComp : Expr → Bool
  | .ListComp .. => false
  | .SetComp .. => false
  | .DictComp .. => false
  | _ => true
def noSl : Expr → Bool
  | .Slice .. => false
  | .Tuple .. => false
  | _ => true
def noCall0 : Expr → Bool
  | .Call (.Name _ _) [] [] _ => false
  | _ => true
theorem star_cons {e : Expr} {es : List Expr} {env : Env} (h : noStar e = true) : starEach (e :: es) env = (false, eval e env) :: starEach es env := by
  cases e <;> first | rfl | cases h
theorem star_plain {pos : Pos} {env : Env} : ∀ {es : List Expr}, es.all noStar = true → ((backTo pos (starEach es env)).any (·.1)) = false
  | [], _ => rfl
  | e :: es, h => by
    rw [List.all_cons, Bool.and_eq_true] at h
    rw [star_cons h.1]
    show (false || ((backTo pos (starEach es env)).any (·.1))) = false
    rw [star_plain h.2]
    rfl
theorem star_plain2 {pos : Pos} {env : Env} : ∀ {es : List Expr}, es.all noStar = true → ((backTo pos (starEach es env)).all fun x => !x.1) = true
  | [], _ => rfl
  | e :: es, h => by
    rw [List.all_cons, Bool.and_eq_true] at h
    rw [star_cons h.1]
    show (true && ((backTo pos (starEach es env)).all fun x => !x.1)) = true
    rw [star_plain2 h.2]
    rfl
theorem asg_cons {e : Expr} {es : List Expr} {env : Env} (h : noStar e = true) : assignEach (e :: es) env = (false, assign e env) :: assignEach es env := by
  cases e <;> first | rfl | cases h
theorem asg_len {env : Env} : ∀ {es : List Expr}, es.all noStar = true → (assignEach es env).length = es.length
  | [], _ => rfl
  | e :: es, h => by
    rw [List.all_cons, Bool.and_eq_true] at h
    rw [asg_cons h.1, List.length_cons, asg_len h.2, List.length_cons]
theorem asg_idx {env : Env} : ∀ {es : List Expr}, es.all noStar = true → (assignEach es env).findIdx? (·.1) = none
  | [], _ => rfl
  | e :: es, h => by
    rw [List.all_cons, Bool.and_eq_true] at h
    rw [asg_cons h.1, List.findIdx?_cons, asg_idx h.2]
    rfl
theorem set_fold {e : Expr} {env : Env} (h : noSet e = true) : ∀ x, foldedSetIterable e env x = pure x := by
  intro x
  cases e <;> first | rfl | cases h
theorem ix_plain {b : Expr} (h : noSl b = true) : PlainIx b := by
  intro o i
  cases b <;> first | rfl | cases h
theorem attr_plain {o : Expr} {a : Str} {env : Env} {m : Sem Value} (h : noCall0 o = true) : attributeBase o a env m = m := by
  unfold attributeBase
  split
  · cases h
  · rfl
theorem swaps_no {e : Expr} {t : Option Expr} {n : Nat} {env : Env} (h : noComp e = true) : swapsWith e t n env = pure false := by
  cases e <;> first | rfl | cases h
theorem marks_no {op : CmpOp} {e : Expr} (h : noSet e = true) : behindInMarks op e = false := by
  cases e <;> first | rfl | cases h
theorem last_no {o p : CmpOp} {a b : Expr} (h : noSet b = true) : lastMarks [o, p] [a, b] = false := by
  show behindInMarks p b = false
  exact marks_no h
def kwNames : List Keyword → Option (List Str)
  | [] => some []
  | ⟨some n, _, _⟩ :: r => (kwNames r).map (n :: ·)
  | ⟨none, _, _⟩ :: _ => none
theorem kw_facts {pos : Pos} {env : Env} : ∀ {kws : List Keyword} {ks : List Str}, kwNames kws = some ks →
    (backToKw pos (keywordEach kws env)).all (·.1.isSome) = true ∧ (backToKw pos (keywordEach kws env)).filterMap (·.1) = ks ∧ ((backToKw pos (keywordEach kws env)).any (·.1.isNone)) = false
  | [], _, e => by cases e; exact ⟨rfl, rfl, rfl⟩
  | ⟨some n, v, p⟩ :: r, ks, e => by
    have e' : (kwNames r).map (n :: ·) = some ks := e
    cases q : kwNames r with
    | none => rw [q] at e'; cases e'
    | some ks' =>
      rw [q] at e'
      cases e'
      obtain ⟨h1, h2, h3⟩ := kw_facts (pos := pos) (env := env) q
      refine ⟨?_, ?_, ?_⟩
      · show (true && _) = true
        rw [Bool.true_and]; exact h1
      · show n :: _ = _
        rw [← h2]
        rfl
      · show (false || _) = false
        rw [Bool.false_or]; exact h3
  | ⟨none, _, _⟩ :: _, _, e => by cases e
end NL
end

section
namespace NL
open PySem PySem.Spec PyProof.Rows L2

/-! ### the check of a text against ours -/
structure FnI where
  name : Str
  qual : Str
  np : Nat
  ps : List Str
  forms : List (Nat × List Str × List Pm)
structure Tab where
  fns : List FnI
  cons : List (Str × Va)
  free : List Str
structure Cst where
  N : List Str
  sc : Scope
  fn : Str → Bool
def Pm.same : Pm → Pm → Bool
  | .arg i, .arg j => i == j
  | .dfl .non, .dfl .non => true
  | .dfl (.bl a), .dfl (.bl b) => a == b
  | .dfl (.int a), .dfl (.int b) => a == b
  | .dfl (.str a), .dfl (.str b) => a == b
  | _, _ => false
theorem Pm.same_eq {a b : Pm} (h : Pm.same a b = true) : a = b := by
  unfold Pm.same at h
  split at h
  all_goals first | rfl | (rw [beq_iff_eq.mp h]) | cases h
def pmSame : List Pm → List Pm → Bool
  | [], [] => true
  | a :: l, b :: m => a.same b && pmSame l m
  | _, _ => false
theorem pmSame_eq : ∀ {l m : List Pm}, pmSame l m = true → l = m
  | [], [], _ => rfl
  | a :: l, b :: m, h => by
    unfold pmSame at h
    rw [Bool.and_eq_true] at h
    rw [Pm.same_eq h.1, pmSame_eq h.2]
  | [], _ :: _, h => by cases h
  | _ :: _, [], h => by cases h
def kindB (sc : Scope) (x : Str) (k : NameKind) : Bool := decide (sc.names.lookup x = some k)
def visB (sc : Scope) (x : Str) : Bool := kindB sc x .local || kindB sc x .cell || kindB sc x .free
def glB (sc : Scope) (x : Str) : Bool := kindB sc x .globalImplicit && !(x == ("__debug__" : Str)) && decide (x ≠ ("__name__" : Str))
def stB (c : Cst) (i : Nat) (x : Str) : Bool := decide (c.N[i]? = some x) && (kindB c.sc x .local || (kindB c.sc x .cell && c.fn x))
def chkLit : Va → Const → Bool
  | .non, .none => true
  | .bl b, .bool c => b == c
  | .int i, .int j => i == j
  | .str s, .str x => sOk s && decide (x = S s)
  | _, _ => false
def boP : Bo → Operator
  | .add => .Add
  | .sub => .Sub
  | .mul => .Mult
  | .mod => .Mod
  | .fdiv => .FloorDiv
  | .pow => .Pow
def coP : Co → CmpOp
  | .eq => .Eq
  | .ne => .NotEq
  | .lt => .Lt
  | .le => .LtE
  | .gt => .Gt
  | .ge => .GtE
  | .is => .Is
  | .isn => .IsNot
  | .isin => .In
  | .nin => .NotIn
def btName : Bt → Option (Str × Value)
  | .len => some ("len", .builtin "len")
  | .abs => some ("abs", .builtin "abs")
  | .int => some ("int", .type "int")
  | .all => some ("all", .builtin "all")
  | .any => some ("any", .builtin "any")
  | .list => some ("list", .type "list")
  | .tuple => some ("tuple", .type "tuple")
  | _ => none
def mtName : Mt → Option Str
  | .join => some "join"
  | .append => some "append"
  | _ => none
/-- the free built-in names -/
def freeB (T : Tab) (c : Cst) (x : Str) : Bool := glB c.sc x && T.free.elem x
def formB (T : Tab) (f np n nk : Nat) (pm : List Pm) (x : Str) (ks : List Str) : Bool := match T.fns[f]? with
  | some I => decide (I.name = x) && decide (I.np = np) && decide (ks.length = nk) && I.forms.any fun F => decide (F.1 = n) && decide (F.2.1 = ks) && pmSame F.2.2 pm
  | none => false
def blkCst (c : Cst) (scope : Scope) : Cst := ⟨c.N, relS scope c.sc, fun x => scope.names.lookup x == some .cell⟩
def ownOf (N : List Str) : List Nat → Option (List (Str × Nat))
  | [] => some []
  | i :: l => match N[i]?, ownOf N l with
    | some x, some r => some ((x, i) :: r)
    | _, _ => none
theorem ownOf_snd : ∀ {N : List Str} {l : List Nat} {r : List (Str × Nat)}, ownOf N l = some r → r.map (·.2) = l
  | _, [], _, e => by cases e; rfl
  | N, i :: l, r, e => by
    unfold ownOf at e
    split at e
    · rename_i x r' e1 e2
      cases e
      rw [List.map_cons, ownOf_snd e2]
    · cases e
def tyExpr (T : Tab) (c : Cst) : Tq → Expr → Bool
  | q, .Name x _ => q.bi && decide (x = (q.nm : Str)) && freeB T c x
  | _, _ => false
def tyExprs (T : Tab) (c : Cst) : List Tq → List Expr → Bool
  | [], [] => true
  | q :: qs, e :: es => tyExpr T c q e && tyExprs T c qs es
  | _, _ => false
def Tg.ws : Tg → List Nat
  | .name i => [i]
  | .tup ts => wss ts
  | .sub _ _ => []
where wss : Tgs → List Nat
  | .nil => []
  | .cons t r => Tg.ws t ++ wss r
def Tgs.len : Tgs → Nat
  | .nil => 0
  | .cons _ r => r.len + 1
def lineOk (apos cpos : Pos) : Bool := apos.endLine == cpos.line
mutual
def chkE (T : Tab) (c : Cst) : Ex → Expr → Bool
  | .lit v, .Constant k _ _ => chkLit v k
  | .var i, .Name x _ => decide (c.N[i]? = some x) && visB c.sc x && !(x == ("__debug__" : Str)) && !(x == ("__classdict__" : Str))
  | .con k, .Name x _ => glB c.sc x && (match T.cons[k]? with
    | some p => decide (p.1 = x)
    | none => false)
  | .bin o a b, .BinOp a' o' b' _ => decide (boP o = o') && chkE T c a a' && chkE T c b b'
  | .neg a, .UnaryOp .USub a' _ => chkE T c a a'
  | .not a, .UnaryOp .Not a' _ => chkE T c a a'
  | .and a b, .BoolOp .And (x :: y :: r) p => chkE T c a x && (match r with
    | [] => chkE T c b y
    | _ => (match b with
      | .and _ _ => chkE T c b (.BoolOp .And (y :: r) p)
      | _ => false))
  | .or a b, .BoolOp .Or (x :: y :: r) p => chkE T c a x && (match r with
    | [] => chkE T c b y
    | _ => (match b with
      | .or _ _ => chkE T c b (.BoolOp .Or (y :: r) p)
      | _ => false))
  | .ifx t a b, .IfExp t' a' b' _ => chkE T c t t' && chkE T c a a' && chkE T c b b'
  | .cmp o a b, .Compare a' [o'] [b'] _ => decide (coP o = o') && noSet b' && chkE T c a a' && chkE T c b b'
  | .chn o p a b d, .Compare a' [o', p'] [b', d'] _ => decide (coP o = o') && decide (coP p = p') && noSet d' && chkE T c a a' && chkE T c b b' && chkE T c d d'
  | .tup es, .Tuple es' _ _ => es'.all noStar && chkEs T c es es'
  | .lst es, .List es' _ => es'.all noStar && chkEs T c es es'
  | .sub a i, .Subscript a' i' _ => noSl i' && chkE T c a a' && chkE T c i i'
  | .sli a lo hi, .Subscript a' (.Slice lo' hi' none _) _ => chkE T c a a' && chkP T c lo lo' && chkP T c hi hi'
  | .isi a ts, .Call (.Name x _) [a', t] [] _ => decide (x = ("isinstance" : Str)) && freeB T c x && noStar a' && chkE T c a a' && (match t with
    | .Tuple es _ _ => !ts.isEmpty && decide (ts.length ≤ 100) && ts.all Tq.bi && es.all noStar && tyExprs T c ts es
    | t => (match ts with
      | [q] => tyExpr T c q t
      | _ => false))
  | .call f np n nk pm es ks, .Call (.Name x _) es' kws _ => glB c.sc x && es'.all noStar && decide (es'.length = n) && (match kwNames kws with
    | some ns => formB T f np n nk pm x ns
    | none => false) && chkEs T c es es' && chkKs T c ks kws
  | .blt b es, .Call (.Name x _) (e :: es') [] _ => (match btName b with
    | some p => decide (p.1 = x)
    | none => false) && freeB T c x && (e :: es').all noStar && chkEs T c es (e :: es')
  | .met m o es, .Call (.Attribute o' nm apos) (e :: es') [] cpos => decide (mtName m = some nm) && noCall0 o' && lineOk apos cpos && (e :: es').all noStar && decide (es'.length < 20) && chkE T c o o' && chkEs T c es (e :: es')
  | .comp el t s d own, .ListComp el' [⟨t', s', ifs, 0⟩] scope _ => noSet s' && chkI T c s s' && (match ownOf c.N own with
    | some ow => blkC c.N c.sc scope ow
    | none => false) && t.ws.all (fun i => own.elem i) && chkT T (blkCst c scope) t t' && (match ifs with
      | [] => (match d with
        | .lit (.bl true) => true
        | _ => false)
      | [d'] => chkE T (blkCst c scope) d d'
      | _ => false) && chkE T (blkCst c scope) el el'
  | _, _ => false
def chkEs (T : Tab) (c : Cst) : Exs → List Expr → Bool
  | .nil, [] => true
  | .cons a r, e :: es => chkE T c a e && chkEs T c r es
  | _, _ => false
def chkKs (T : Tab) (c : Cst) : Exs → List Keyword → Bool
  | .nil, [] => true
  | .cons a r, ⟨_, e, _⟩ :: es => chkE T c a e && chkKs T c r es
  | _, _ => false
def chkP (T : Tab) (c : Cst) : Pt → Option Expr → Bool
  | .no, none => true
  | .ex a, some e => chkE T c a e
  | _, _ => false
def chkT (T : Tab) (c : Cst) : Tg → Expr → Bool
  | .name i, .Name x _ => stB c i x
  | .tup ts, .Tuple es _ _ => es.all noStar && chkTs T c ts es
  | .sub o i, .Subscript o' i' _ => noSl i' && chkE T c o o' && chkE T c i i'
  | _, _ => false
def chkTs (T : Tab) (c : Cst) : Tgs → List Expr → Bool
  | .nil, [] => true
  | .cons a r, e :: es => chkT T c a e && chkTs T c r es
  | _, _ => false
def chkI (T : Tab) (c : Cst) : It → Expr → Bool
  | .seq a, e => chkE T c a e
  | .ran1 a, .Call (.Name x _) [a'] [] _ => decide (x = ("range" : Str)) && freeB T c x && noStar a' && chkE T c a a'
  | .ran2 a b, .Call (.Name x _) [a', b'] [] _ => decide (x = ("range" : Str)) && freeB T c x && noStar a' && noStar b' && chkE T c a a' && chkE T c b b'
  | _, _ => false
end
end NL
end

section
namespace NL
open PySem PySem.Spec PyProof.Rows L2
example (T : Tab) (c : Cst) (p : Pos) : chkE T c (.lit .non) (.Constant .none 0 p) = true := rfl

/-- the context of a body or of a comprehension's block -/
structure GX (g : Pg) (d : Nat) (c : Cst) (X : Cx) : Prop where
  prog : X.prog = g.P
  w : X.w = g.w
  K : X.K = g.K
  mg : X.mg = g.mg
  base : X.base = g.base
  N : X.N = c.N
  nd : c.N.Nodup
  sc : X.env.scope = c.sc
  kind : c.sc.kind = .function
  fn : X.fn = c.fn
  calm : X.calm = true
  room : Room d X.A
/-- what is known of the program's names -/
structure TabOk (g : Pg) (T : Tab) (con : Nat → Va) : Prop where
  free : ∀ x ∈ T.free, g.mg x = none
  cons : ∀ (k : Nat) (p : Str × Va), T.cons[k]? = some p → con k = p.2 ∧ ∃ (u : Value) (x : V), g.mg p.1 = some u ∧ RelV x u ∧ ∀ (r : Nat → Addr) (n : Nat) (H : Hp), RV g r n H p.2 x
/-- the defs keep their promises, calls of at most d deep -/
structure FnsOk (g : Pg) (T : Tab) (F : CallT) (d : Nat) : Prop where
  fn : ∀ (f : Nat) (I : FnI), T.fns[f]? = some I → ∃ fd : FuncData, g.mg I.name = some (.ref (g.fa f)) ∧ PySem.W.keepIn g.K (.ref (g.fa f)) = true ∧ FnOk g.P g.w g.K g.mg g.base (L2.CX g.P g.w) d (g.fa f) fd I.ps (spF g F f I.np) ∧ ∀ p ∈ I.forms, FormOk g.K fd I.ps p.1 p.2.1 p.2.2
section
variable {g : Pg} {T : Tab} {C : Cfg} {d : Nat} {bars : List Nat}
theorem kind_of {c : Cst} {X : Cx} (G : GX g d c X) {x : Str} {k : NameKind} (h : kindB c.sc x k = true) : X.env.scope.names.lookup x = some k := by
  rw [G.sc]
  exact of_decide_eq_true h
theorem vis_of {c : Cst} {X : Cx} (G : GX g d c X) {x : Str} (h : visB c.sc x = true) : Vis X.env.scope x := by
  unfold visB at h
  rw [Bool.or_eq_true, Bool.or_eq_true] at h
  rcases h with (h | h) | h
  · exact .inl (kind_of G h)
  · exact .inr (.inl (kind_of G h))
  · exact .inr (.inr (kind_of G h))
theorem gl_of {c : Cst} {X : Cx} (G : GX g d c X) {x : Str} (h : glB c.sc x = true) : Gl X x ∧ (x == ("__debug__" : Str)) = false ∧ x ≠ ("__name__" : Str) := by
  unfold glB at h
  rw [Bool.and_eq_true, Bool.and_eq_true, Bool.not_eq_true', decide_eq_true_eq] at h
  exact ⟨kind_of G h.1.1, h.1.2, h.2⟩
theorem free_of {con : Nat → Va} {c : Cst} {X : Cx} (G : GX g d c X) (K : TabOk g T con) {x : Str} (h : freeB T c x = true) : Gl X x ∧ X.mg x = none ∧ (x == ("__debug__" : Str)) = false ∧ x ≠ ("__name__" : Str) := by
  unfold freeB at h
  rw [Bool.and_eq_true] at h
  obtain ⟨h1, h2, h3⟩ := gl_of G h.1
  exact ⟨h1, by rw [G.mg]; exact K.free x (List.mem_of_elem_eq_true h.2), h2, h3⟩
theorem GX.units {c : Cst} {X : Cx} (G : GX g d c X) : X.A.units + 64 < cLine := G.room.units
theorem op_ok {c : Cst} {X : Cx} (G : GX g d c X) (o : Bo) : OpR X (binaryOp (boP o)) (rB g bars (binV o)) := by
  cases o with
  | add => exact op_addOk G.K
  | sub => exact op_subOk
  | mul => exact op_mulOk
  | mod => exact op_modOk
  | fdiv => exact op_fdivOk
  | pow => exact op_powOk
theorem co_ok {c : Cst} {X : Cx} (G : GX g d c X) (o : Co) : OpR X (compareOp (coP o)) (rB g bars (cmpV o)) := by
  cases o with
  | eq => exact op_eqOk G.K G.units
  | ne => exact op_neOk G.K G.units
  | lt => exact op_ltOk
  | le => exact op_leOk
  | gt => exact op_gtOk
  | ge => exact op_geOk
  | is => exact op_isOk
  | isn => exact op_isnOk
  | isin => exact op_inOk G.K
  | nin => exact op_ninOk G.K
theorem lit_ok {X : Cx} {v : Va} {k : Const} {j : Nat} {p : Pos} (h : chkLit v k = true) : ∃ x, PE X (.Constant k j p) (tC x) ∧ ∀ r n H, RV g r n H v x := by
  unfold chkLit at h
  split at h
  · exact ⟨_, pe_non, fun _ _ _ => .non⟩
  · rw [beq_iff_eq.mp h]; exact ⟨_, pe_bl, fun _ _ _ => .bl _⟩
  · rw [beq_iff_eq.mp h]; exact ⟨_, pe_int, fun _ _ _ => .int _⟩
  · rw [Bool.and_eq_true, decide_eq_true_eq] at h
    rw [h.2]
    exact ⟨_, pe_str, fun _ _ _ => .str _ h.1⟩
  · cases h
theorem ty_nm (q : Tq) (h : q.bi = true) : bootBuiltins (q.nm : Str) = some (.type q.nm) := by
  cases q with
  | int => decide +kernel
  | str => decide +kernel
  | bool => decide +kernel
  | list => decide +kernel
  | tuple => decide +kernel
  | cls i => cases h
theorem tyE_ok {con : Nat → Va} {c : Cst} {X : Cx} (G : GX g d c X) (K : TabOk g T con) {q : Tq} {e : Expr} (h : tyExpr T c q e = true) : q.bi = true ∧ noStar e = true ∧ PE X e (tC (.ty q.nm)) := by
  unfold tyExpr at h
  split at h
  · rename_i x p
    rw [Bool.and_eq_true, Bool.and_eq_true, decide_eq_true_eq] at h
    obtain ⟨h1, h2, h3, h4⟩ := free_of G K h.2
    rw [h.1.2] at h1 h2 h3 h4 ⊢
    exact ⟨h.1.1, rfl, pe_bltn h1 h2 (ty_nm q h.1.1) rfl h4 h3⟩
  · cases h
theorem tyEs_ok {con : Nat → Va} {c : Cst} {X : Cx} (G : GX g d c X) (K : TabOk g T con) : ∀ {ts : List Tq} {es : List Expr}, tyExprs T c ts es = true → PA X es (tTys (ts.map fun q => V.ty q.nm))
  | [], [], _ => a_tys_nil
  | q :: ts, e :: es, h => by
    unfold tyExprs at h
    rw [Bool.and_eq_true] at h
    obtain ⟨h1, h2, h3⟩ := tyE_ok G K h.1
    exact a_tys_cons h3 (tyEs_ok G K h.2) (star_cons h2)
  | [], _ :: _, h => by cases h
  | _ :: _, [], h => by cases h
theorem GX.blk {c : Cst} {X : Cx} (G : GX g d c X) (s : Shared) (H : Hp) (scope : Scope) (hk : scope.kind = .function) (C' : Addr) (cl : List (Str × Addr)) (fp : List Addr) : GX g d (blkCst c scope) (X.blk s H scope (compEnvC scope cl C' X.env) fp) where
  prog := G.prog
  w := G.w
  K := G.K
  mg := G.mg
  base := G.base
  N := G.N
  nd := G.nd
  sc := by
    show relS scope X.env.scope = relS scope c.sc
    rw [G.sc]
  kind := hk
  fn := rfl
  calm := G.calm
  room := G.room
/-- a built-in function's rule -/
theorem bt_ok {c : Cst} {X : Cx} (G : GX g d c X) {b : Bt} {p : Str × Value} (h : btName b = some p) : bootBuiltins p.1 = some p.2 ∧ ((∃ id, p.2 = .builtin id ∧ CallR X (.builtin id) (rC g bars (bltV b))) ∨ ∃ t, p.2 = .type t ∧ CallR X (.type t) (rC g bars (bltV b))) := by
  cases b <;> cases h
  · exact ⟨by decide +kernel, .inl ⟨_, rfl, c_len G.K⟩⟩
  · exact ⟨by decide +kernel, .inl ⟨_, rfl, c_abs⟩⟩
  · exact ⟨by decide +kernel, .inr ⟨_, rfl, c_int⟩⟩
  · exact ⟨by decide +kernel, .inl ⟨_, rfl, c_all G.calm⟩⟩
  · exact ⟨by decide +kernel, .inl ⟨_, rfl, c_any G.calm⟩⟩
  · exact ⟨by decide +kernel, .inr ⟨_, rfl, c_list G.calm G.K⟩⟩
  · exact ⟨by decide +kernel, .inr ⟨_, rfl, c_tuple G.K⟩⟩
/-- a built-in type's method -/
theorem mt_ok {c : Cst} {X : Cx} (G : GX g d c X) {m : Mt} {nm : Str} (h : mtName m = some nm) : ∃ T id, PlainAttrs T ∧ Slot T nm id ∧ typeOf (Value.builtin id) = pure (Value.type "method_descriptor") ∧ MtR X id (rM g bars (metV bars m)) ∧
    ∀ (r : Nat → Addr) (h : Hep) (H : Hp) (a : Va) (x : V), At g bars r h H → RV g r h.length H a x → recOk h m a = true → tyV X.K T x H := by
  cases m <;> cases h
  · refine ⟨"str", _, PySem.F.plainAttrs_str, PySem.F.slot_str_join, PySem.F.type_str_join, m_join, fun r h H a x A rv k => ?_⟩
    cases rv with
    | str _ _ => exact (rfl : "str" = "str")
    | _ => cases k
  · refine ⟨"list", _, PySem.F.plainAttrs_list, PySem.F.slot_list_append, PySem.F.type_list_append, m_append, fun r h H a x A rv k => ?_⟩
    cases rv with
    | ref hi =>
      rename_i a
      have k' : (match h[a]? with | some (.lst _) => true | _ => false) = true := k
      split at k'
      · rename_i l e
        obtain ⟨xs, s1, s2, s3⟩ := A.lst e
        exact .inl ⟨rfl, xs, .inl (.inl s1)⟩
      · cases k'
    | _ => cases k
end
end NL
end

section
namespace NL
open PySem PySem.Spec PyProof.Rows L2

section
variable {g : Pg} {T : Tab} {C : Cfg} {d : Nat} {bars : List Nat}
theorem and3 {a b c : Bool} (h : (a && b && c) = true) : a = true ∧ b = true ∧ c = true := by
  rw [Bool.and_eq_true, Bool.and_eq_true] at h
  exact ⟨h.1.1, h.1.2, h.2⟩
theorem and2 {a b : Bool} (h : (a && b) = true) : a = true ∧ b = true := by
  rw [Bool.and_eq_true] at h
  exact h
theorem evTs_len (e : Tgs) : ∀ (l : List Va) (env : Env') (h : Hep), l.length ≠ e.len → evTs C bars e l env h = none := by
  match e with
  | .nil =>
    intro l env h n
    cases l with
    | nil => exact absurd rfl n
    | cons _ _ => rfl
  | .cons t r =>
    intro l env h n
    cases l with
    | nil => rfl
    | cons v l =>
      show (match evT C bars t v env h with
        | some (e, h) => evTs C bars r l e h
        | none => none) = none
      split
      · rename_i e1 h1 z
        exact evTs_len r l e1 h1 fun z => n (by rw [List.length_cons, z]; rfl)
      · rfl
def isBop : Expr → Prop
  | .BoolOp .. => True
  | _ => False
theorem chkTs_len {c : Cst} : ∀ {ts : Tgs} {es : List Expr}, chkTs T c ts es = true → es.length = ts.len
  | .nil, [], _ => rfl
  | .nil, _ :: _, h => by cases h
  | .cons _ _, [], h => by cases h
  | .cons t r, e :: es, h => by
    have h' : (chkT T c t e && chkTs T c r es) = true := h
    rw [List.length_cons, chkTs_len (and2 h').2]
    rfl
set_option maxHeartbeats 4000000
theorem RpB.lift {r r1 : Nat → Addr} {h h1 : Hep} {H H1 : Hp} {W : Value → Option Addr → Hp → Prop} {Q : Bool → Hp → Prop} {m : Res Va} (G : Grow r h.length H r1 h1.length H1) (q : RpB g bars W r h H Q m) : RpB g bars W r1 h1 H1 Q m := by
  cases m with
  | stuck => exact q
  | exc c h2 => exact fun r2 H2 cls d G2 A2 e => q r2 H2 cls d (G.trans G2) A2 e
  | ok v2 h2 => exact fun r2 H2 y G2 A2 e => q r2 H2 y (G.trans G2) A2 e
theorem t_ifx {X : Cx} {c a b : Expr} {W : WX} {fc fa fb : Env' → Hep → Res Va} {pos : Pos} (hc : PT X c (tT g W bars fc)) (ha : PT X a (tT g W bars fa)) (hb : PT X b (tT g W bars fb)) :
    PT X (.IfExp c a b pos) (tT g W bars fun e h => (fc e h).bd fun x h => match x with
      | .bl true => fa e h
      | .bl false => fb e h
      | _ => .stuck) := by
  refine ⟨fun pins s σ H Q I q => ?_⟩
  obtain ⟨r, e, h, A, E, hbl, q⟩ := q
  dsimp only at q hbl
  have hb' := Rp.tst hbl q fun v h n => by cases v <;> first | rfl | exact absurd rfl (n _)
  have key : tT g W bars fc σ H (fun c H1 => if c = true then tT g W bars fa σ H1 Q else tT g W bars fb σ H1 Q) := by
    refine ⟨r, e, h, A, E, hb', ?_⟩
    revert q hbl
    cases m : fc e h with
    | stuck => exact fun _ q => q
    | exc c h1 => exact fun _ q => q
    | ok v h1 =>
      obtain ⟨b, rfl⟩ := hb' v h1 m
      intro hbl q r1 H1 x G A1 rv
      cases rv
      cases b with
      | true => exact iteT ⟨r1, e, h1, A1, E.mono G, hbl, RpB.lift G q⟩
      | false => exact iteF ⟨r1, e, h1, A1, E.mono G, hbl, RpB.lift G q⟩
  refine isTrue_IfExp (thn (hc.run pins s σ H _ I key) fun c s1 ⟨H1, I1, q1⟩ => ?_)
  cases c with
  | true => exact ha.run pins s1 σ H1 Q I1 q1
  | false => exact hb.run pins s1 σ H1 Q I1 q1
mutual
theorem sE (K : TabOk g T C.con) (FO : FnsOk g T C.call d) : ∀ (m : Ex) {c : Cst} {X : Cx} {W : WX} {e : Expr} (G : GX g d c X) (tk : Takes X W), chkE T c m e = true → PE X e (tE g W bars fun env h => ev C bars env m h)
  | .lit v, c, X, W, e, G, tk, h => by
    cases e <;> first | (cases h; done) | skip
    obtain ⟨x, h1, h2⟩ := lit_ok (X := X) h
    exact e_lit h1 h2
  | .var i, c, X, W, e, G, tk, h => by
    cases e <;> first | (cases h; done) | skip
    rename_i x p
    have h' : (decide (c.N[i]? = some x) && visB c.sc x && !(x == ("__debug__" : Str)) && !(x == ("__classdict__" : Str))) = true := h
    obtain ⟨h1, h2⟩ := and2 h'
    obtain ⟨h3, h4, h5⟩ := and3 h1
    exact e_var (by rw [G.N]; exact of_decide_eq_true h3) (vis_of G h4) (by simpa using h5) (by simpa using h2)
  | .con k, c, X, W, e, G, tk, h => by
    cases e <;> first | (cases h; done) | skip
    rename_i x p
    have h' : (glB c.sc x && (match T.cons[k]? with
      | some p => decide (p.1 = x)
      | none => false)) = true := h
    obtain ⟨h1, h2⟩ := and2 h'
    split at h2
    · rename_i q e1
      obtain ⟨k1, u, y, k2, k3, k4⟩ := K.cons k q e1
      obtain ⟨g1, g2, g3⟩ := gl_of G h1
      have e2 : q.1 = x := of_decide_eq_true h2
      rw [e2, ← G.mg] at k2
      refine e_lit (pe_glob g1 k2 k3 g2) fun r n H => ?_
      rw [k1]
      exact k4 r n H
    · cases h2
  | .bin o a b, c, X, W, e, G, tk, h => by
    cases e <;> first | (cases h; done) | skip
    rename_i a' o' b' p
    obtain ⟨h1, h2, h3⟩ := and3 (show (decide (boP o = o') && chkE T c a a' && chkE T c b b') = true from h)
    rw [← of_decide_eq_true h1]
    exact e_op (op_ok G o) (noX_bin o) (sE K FO a G tk h2) (sE K FO b G tk h3)
  | .neg a, c, X, W, e, G, tk, h => by
    cases e <;> first | (cases h; done) | skip
    rename_i o a' p
    cases o <;> first | (cases h; done) | skip
    exact e_neg (sE K FO a G tk h)
  | .not a, c, X, W, e, G, tk, h => by
    cases e <;> first | (cases h; done) | skip
    rename_i o a' p
    cases o <;> first | (cases h; done) | skip
    exact e_not (sE K FO a G tk h)
  | .and a b, c, X, W, e, G, tk, h => by
    cases e <;> first | (cases h; done) | skip
    rename_i o l p
    cases o <;> first | (cases h; done) | skip
    match l, h with
    | [x, y], h =>
      obtain ⟨h1, h2⟩ := and2 (show (chkE T c a x && chkE T c b y) = true from h)
      exact e_and (sE K FO a G tk h1) (pe_one (sE K FO b G tk h2))
    | x :: y :: z :: r, h =>
      obtain ⟨h1, h2⟩ := and2 (show (chkE T c a x && (match (motive := Ex → Bool) b with
      | .and _ _ => chkE T c b (.BoolOp .And (y :: z :: r) p)
      | _ => false)) = true from h)
      split at h2
      · exact e_and (sE K FO a G tk h1) (sE K FO _ G tk h2)
      · cases h2
    | [], h => cases h
    | [_], h => cases h
  | .or a b, c, X, W, e, G, tk, h => by
    cases e <;> first | (cases h; done) | skip
    rename_i o l p
    cases o <;> first | (cases h; done) | skip
    match l, h with
    | [x, y], h =>
      obtain ⟨h1, h2⟩ := and2 (show (chkE T c a x && chkE T c b y) = true from h)
      exact e_or (sE K FO a G tk h1) (pe_one (sE K FO b G tk h2))
    | x :: y :: z :: r, h =>
      obtain ⟨h1, h2⟩ := and2 (show (chkE T c a x && (match (motive := Ex → Bool) b with
      | .or _ _ => chkE T c b (.BoolOp .Or (y :: z :: r) p)
      | _ => false)) = true from h)
      split at h2
      · exact e_or (sE K FO a G tk h1) (sE K FO _ G tk h2)
      · cases h2
    | [], h => cases h
    | [_], h => cases h
  | .ifx t a b, c, X, W, e, G, tk, h => by
    cases e <;> first | (cases h; done) | skip
    rename_i t' a' b' p
    obtain ⟨h1, h2, h3⟩ := and3 (show (chkE T c t t' && chkE T c a a' && chkE T c b b') = true from h)
    exact e_ifx (sT K FO t G tk h1).1 (sE K FO a G tk h2) (sE K FO b G tk h3)
  | .cmp o a b, c, X, W, e, G, tk, h => by
    cases e <;> first | (cases h; done) | skip
    rename_i a' ops bs p
    match ops, bs, h with
    | [o'], [b'], h =>
      obtain ⟨h1, h2, h3⟩ := and3 (show (decide (coP o = o') && noSet b' && chkE T c a a' && chkE T c b b') = true from h)
      obtain ⟨h4, h5⟩ := and2 h1
      rw [← of_decide_eq_true h4]
      exact e_cmp (co_ok G o) (noX_cmp o) (marks_no h5) (sE K FO a G tk h2) (sE K FO b G tk h3)
    | [], [], h => cases h
    | [], [_], h => cases h
    | [], _ :: _ :: _, h => cases h
    | [_], [], h => cases h
    | [_], _ :: _ :: _, h => cases h
    | _ :: _ :: _, [], h => cases h
    | _ :: _ :: _, [_], h => cases h
    | _ :: _ :: _, _ :: _ :: _, h => cases h
  | .chn o p a b e', c, X, W, e, G, tk, h => by
    cases e <;> first | (cases h; done) | skip
    rename_i a' ops bs q
    match ops, bs, h with
    | [o', p'], [b', d'], h =>
      obtain ⟨h1, h2⟩ := and2 (show (decide (coP o = o') && decide (coP p = p') && noSet d' && chkE T c a a' && chkE T c b b' && chkE T c e' d') = true from h)
      obtain ⟨h3, h4, h5⟩ := and3 h1
      obtain ⟨h6, h7, h8⟩ := and3 h3
      rw [← of_decide_eq_true h6, ← of_decide_eq_true h7]
      exact e_chn (noX_cmp o) (noX_cmp p) (co_ok G o) (co_ok G p) (last_no h8) (sE K FO a G tk h4) (sE K FO b G tk h5) (sE K FO e' G tk h2)
    | [], [], h => cases h
    | [], [_], h => cases h
    | [], [_, _], h => cases h
    | [], _ :: _ :: _ :: _, h => cases h
    | [_], [], h => cases h
    | [_], [_], h => cases h
    | [_], [_, _], h => cases h
    | [_], _ :: _ :: _ :: _, h => cases h
    | [_, _], [], h => cases h
    | [_, _], [_], h => cases h
    | [_, _], _ :: _ :: _ :: _, h => cases h
    | _ :: _ :: _ :: _, [], h => cases h
    | _ :: _ :: _ :: _, [_], h => cases h
    | _ :: _ :: _ :: _, [_, _], h => cases h
    | _ :: _ :: _ :: _, _ :: _ :: _ :: _, h => cases h
  | .tup es, c, X, W, e, G, tk, h => by
    cases e <;> first | (cases h; done) | skip
    rename_i es' k p
    obtain ⟨h1, h2⟩ := and2 (show (es'.all noStar && chkEs T c es es') = true from h)
    exact e_tup (sEs K FO es G tk h1 h2)
  | .lst es, c, X, W, e, G, tk, h => by
    cases e <;> first | (cases h; done) | skip
    rename_i es' p
    obtain ⟨h1, h2⟩ := and2 (show (es'.all noStar && chkEs T c es es') = true from h)
    exact e_lst (sEs K FO es G tk h1 h2)
  | .sub a i, c, X, W, e, G, tk, h => by
    cases e <;> first | (cases h; done) | skip
    rename_i a' i' p
    obtain ⟨h1, h2, h3⟩ := and3 (show (noSl i' && chkE T c a a' && chkE T c i i') = true from h)
    exact e_sub G.K (sE K FO a G tk h2) (sE K FO i G tk h3) (ix_plain h1)
  | .sli a lo hi, c, X, W, e, G, tk, h => by
    cases e <;> first | (cases h; done) | skip
    rename_i a' i' p
    cases i' <;> first | (cases h; done) | skip
    rename_i lo' hi' st p2
    cases st <;> first | (cases h; done) | skip
    obtain ⟨h1, h2, h3⟩ := and3 (show (chkE T c a a' && chkP T c lo lo' && chkP T c hi hi') = true from h)
    exact e_sli G.K (sE K FO a G tk h1) (sP K FO lo G tk h2) (sP K FO hi G tk h3)
  | .isi a ts, c, X, W, e, G, tk, h => by
    cases e <;> first | (cases h; done) | skip
    rename_i fx args kws p
    cases fx <;> first | (cases h; done) | skip
    rename_i x p0
    match args, kws, h with
    | [a', t], [], h =>
      obtain ⟨h1, h2⟩ := and2 (show (decide (x = ("isinstance" : Str)) && freeB T c x && noStar a' && chkE T c a a' && (match (motive := Expr → Bool) t with
        | .Tuple es _ _ => !ts.isEmpty && decide (ts.length ≤ 100) && ts.all Tq.bi && es.all noStar && tyExprs T c ts es
        | t => (match (motive := List Tq → Bool) ts with
          | [q] => tyExpr T c q t
          | _ => false))) = true from h)
      obtain ⟨h3, h4, h5⟩ := and3 h1
      obtain ⟨h6, h7⟩ := and2 h3
      obtain ⟨f1, f2, f3, f4⟩ := free_of G K h7
      rw [of_decide_eq_true h6] at f1 f2 f3 f4 ⊢
      have hv : bootBuiltins ("isinstance" : Str) = some (.builtin "isinstance") := by decide +kernel
      split at h2
      · rename_i es k p2
        obtain ⟨q1, q2⟩ := and2 h2
        obtain ⟨q3, q4⟩ := and2 q1
        obtain ⟨q5, q6, q7⟩ := and3 q3
        exact e_isiT G.K (by intro z; rw [z] at q5; cases q5) (of_decide_eq_true q6) q7 (sE K FO a G tk h5) (tyEs_ok G K q2) f1 f2 hv f4 f3 (star_cons h4)
      · split at h2
        · obtain ⟨q1, q2, q3⟩ := tyE_ok G K h2
          exact e_isi1 G.K q1 (sE K FO a G tk h5) q3 f1 f2 hv f4 f3 (star_cons h4) (star_cons q2) (star_plain (by rw [List.all_cons, q2]; rfl))
        · cases h2
    | [], _, h => cases h
    | [_], _, h => cases h
    | _ :: _ :: _ :: _, _, h => cases h
    | [_, _], _ :: _, h => cases h
  | .call f np n nk pm es ks, c, X, W, e, G, tk, h => by
    cases e <;> first | (cases h; done) | skip
    rename_i fx args kws p
    cases fx <;> first | (cases h; done) | skip
    rename_i x p0
    obtain ⟨h1, h2, h3⟩ := and3 (show (glB c.sc x && args.all noStar && decide (args.length = n) && (match kwNames kws with
      | some ns => formB T f np n nk pm x ns
      | none => false) && chkEs T c es args && chkKs T c ks kws) = true from h)
    obtain ⟨h4, h5⟩ := and2 h1
    obtain ⟨h6, h7, h8⟩ := and3 h4
    split at h5
    · rename_i ns e1
      obtain ⟨g1, g2, g3⟩ := gl_of G h6
      unfold formB at h5
      split at h5
      · rename_i I e2
        obtain ⟨k1, k2⟩ := and2 h5
        obtain ⟨k3, k4, k5⟩ := and3 k1
        obtain ⟨fd, m1, m2, m3, m4⟩ := FO.fn f I e2
        obtain ⟨p3, p4, p5⟩ := List.any_eq_true.mp k2
        obtain ⟨q1, q2, q3⟩ := and3 p5
        have FM := m4 p3 p4
        rw [of_decide_eq_true q1, of_decide_eq_true q2, pmSame_eq q3, ← G.K] at FM
        have en : ns.length = nk := of_decide_eq_true k5
        have enp : I.np = np := of_decide_eq_true k4
        have hm : X.mg x = some (.ref (g.fa f)) := by rw [G.mg, ← of_decide_eq_true k3]; exact m1
        have hk : PySem.W.keepIn X.K (.ref (g.fa f)) = true := by rw [G.K]; exact m2
        have FF : FnOk X.prog X.w X.K X.mg X.base (L2.CX X.prog X.w) d (g.fa f) fd I.ps (spF g C.call f np) := by
          rw [G.prog, G.w, G.K, G.mg, G.base, ← enp]; exact m3
        obtain ⟨w1, w2, w3⟩ := kw_facts (pos := p) (env := X.env) e1
        rw [← en]
        match args, h2, h7, h8 with
        | [], h2, h7, h8 =>
          have en : n = 0 := (of_decide_eq_true h8).symm
          subst en
          cases es with
          | nil => exact e_call0 (F := C.call) FF G.room tk g1 hm hk FM (sKs K FO ks G tk h3) w1 w2 g2 (by rw [w3]; rfl)
          | cons _ _ => cases h2
        | a0 :: as, h2, h7, h8 =>
          have hs := star_cons (env := X.env) (es := as) (and2 (show (noStar a0 && as.all noStar) = true from h7)).1
          exact e_call (F := C.call) FF G.room tk g1 hm hk FM (sEs K FO es G tk h7 h2) (sKs K FO ks G tk h3) w1 w2 g2 hs (by rw [star_plain h7, w3]; rfl)
      · cases h5
    · cases h5
  | .blt b es, c, X, W, e, G, tk, h => by
    cases e <;> first | (cases h; done) | skip
    rename_i fx args kws p
    cases fx <;> first | (cases h; done) | skip
    rename_i x p0
    match args, kws, h with
    | a0 :: as, [], h =>
      obtain ⟨h1, h2, h3⟩ := and3 (show ((match btName b with
        | some p => decide (p.1 = x)
        | none => false) && freeB T c x && (a0 :: as).all noStar && chkEs T c es (a0 :: as)) = true from h)
      obtain ⟨h4, h5⟩ := and2 h1
      obtain ⟨f1, f2, f3, f4⟩ := free_of G K h5
      have hs := star_cons (env := X.env) (es := as) (and2 (show (noStar a0 && as.all noStar) = true from h2)).1
      have hp := star_plain (pos := p) (env := X.env) (and2 (show (noStar a0 && as.all noStar) = true from h2)).2
      split at h4
      · rename_i q e1
        obtain ⟨b1, b2⟩ := bt_ok (g := g) (bars := bars) G e1
        rw [of_decide_eq_true h4] at b1
        rcases b2 with ⟨id, b3, b4⟩ | ⟨t, b3, b4⟩
        · rw [b3] at b1
          exact e_blt (noX_blt b) b4 f1 f2 b1 (sEs K FO es G tk h2 h3) f4 f3 hs hp
        · rw [b3] at b1
          exact e_bty (noX_blt b) b4 f1 f2 b1 (sEs K FO es G tk h2 h3) f4 f3 hs hp
      · cases h4
    | [], _, h => cases h
    | _ :: _, _ :: _, h => cases h
  | .met m o es, c, X, W, e, G, tk, h => by
    cases e <;> first | (cases h; done) | skip
    rename_i fx args kws p
    cases fx <;> first | (cases h; done) | skip
    rename_i o' nm apos
    match args, kws, h with
    | a0 :: as, [], h =>
      obtain ⟨h1, h2, h3⟩ := and3 (show (decide (mtName m = some nm) && noCall0 o' && lineOk apos p && (a0 :: as).all noStar && decide (as.length < 20) && chkE T c o o' && chkEs T c es (a0 :: as)) = true from h)
      obtain ⟨h4, h5, h6⟩ := and3 h1
      obtain ⟨h7, h8, h9⟩ := and3 h4
      obtain ⟨T', id, m1, m2, m3, m4, m5⟩ := mt_ok (g := g) (bars := bars) G (of_decide_eq_true h7)
      have h5' := and2 (show (noStar a0 && as.all noStar) = true from h5)
      have hs := star_cons (env := X.env) (es := as) h5'.1
      refine e_met m5 m1 m2 m3 m4 (sE K FO o G tk h2) (sEs K FO es G tk h5 h3) (attr_plain h8) ?_ h9 hs (star_plain h5'.2)
      rw [star_plain2 h5]
      have hl : as.length < 20 := of_decide_eq_true h6
      show (true && true && decide ((a0 :: as).length + 0 + 0 < 30)) = true
      rw [Bool.true_and, Bool.true_and, decide_eq_true_eq, List.length_cons]
      omega
    | [], _, h => cases h
    | _ :: _, _ :: _, h => cases h
  | .comp el t s d' own, c, X, W, e, G, tk, h => by
    cases e <;> first | (cases h; done) | skip
    rename_i el' gens scope p
    match gens, h with
    | [⟨t', s', ifs, 0⟩], h =>
      obtain ⟨h1, h2, h3⟩ := and3 (show (noSet s' && chkI T c s s' && (match ownOf c.N own with
        | some ow => blkC c.N c.sc scope ow
        | none => false) && t.ws.all (fun i => own.elem i) && chkT T (blkCst c scope) t t' && (match (motive := List Expr → Bool) ifs with
          | [] => (match (motive := Ex → Bool) d' with
            | .lit (.bl true) => true
            | _ => false)
          | [d''] => chkE T (blkCst c scope) d' d''
          | _ => false) && chkE T (blkCst c scope) el el') = true from h)
      obtain ⟨h4, h5, h6⟩ := and3 h1
      obtain ⟨h7, h8, h9⟩ := and3 h4
      split at h9
      · rename_i ow e1
        have ok : BlkOk X.N X.env.scope scope ow := by
          rw [G.N, G.sc]
          exact blkOk_by h9
        have hs : ∀ j ∈ t.ws, j ∈ ow.map (·.2) := fun j hj => by
          rw [ownOf_snd e1]
          exact List.mem_of_elem_eq_true (List.all_eq_true.mp h5 j hj)
        have hif : ∀ (s : Shared) (H : Hp) (C' : Addr) (cl : List (Str × Addr)) (fp : List Addr), PTs (X.blk s H scope (compEnvC scope cl C' X.env) fp) ifs (tT g W0 bars fun env h => ev C bars env d' h) := fun s H C' cl fp => by
          split at h2
          · split at h2
            · refine ⟨fun pins s σ H Q I q => pts_nil.run pins s σ H Q I ?_⟩
              obtain ⟨r, e, h, A, E, _, q⟩ := q
              exact q r H true .refl A rfl
            · cases h2
          · exact pts_one (sT K FO d' (G.blk s H scope ok.kind C' cl fp) takes0 h2).1
          · cases h2
        refine PE.imp (pe_lc G.calm (by rw [G.N]; exact G.nd) (sI K FO s G tk h8) ok (fun s H C' cl fp => sTg K FO t (G.blk s H scope ok.kind C' cl fp) takes0 h6) hif (fun s H C' cl fp => sE K FO el (G.blk s H scope ok.kind C' cl fp) takes0 h3) (set_fold h7)) fun σ H Q q => ?_
        rw [← ownOf_snd e1] at q
        exact lc_ok hs σ H Q q
      · cases h9
    | [⟨t', s', ifs, .ofNat (_ + 1)⟩], h => cases h
    | [⟨t', s', ifs, .negSucc _⟩], h => cases h
    | [], h => cases h
    | ⟨_, _, _, .ofNat 0⟩ :: _ :: _, h => cases h
    | ⟨_, _, _, .ofNat (_ + 1)⟩ :: _ :: _, h => cases h
    | ⟨_, _, _, .negSucc _⟩ :: _ :: _, h => cases h
theorem sT (K : TabOk g T C.con) (FO : FnsOk g T C.call d) : ∀ (m : Ex) {c : Cst} {X : Cx} {W : WX} {e : Expr} (G : GX g d c X) (tk : Takes X W), chkE T c m e = true → PT X e (tT g W bars fun env h => ev C bars env m h) ∧ (isBop e → PW X e (tT g W bars fun env h => ev C bars env m h))
  | .and a b, c, X, W, e, G, tk, h => by
    cases e <;> first | (cases h; done) | skip
    rename_i o l p
    cases o <;> first | (cases h; done) | skip
    match l, h with
    | [x, y], h =>
      obtain ⟨h1, h2⟩ := and2 (show (chkE T c a x && chkE T c b y) = true from h)
      have w := t_and (sT K FO a G tk h1).1 (pw_and1 (pos := p) (sT K FO b G tk h2).1)
      exact ⟨PW.pt w, fun _ => w⟩
    | x :: y :: z :: r, h =>
      obtain ⟨h1, h2⟩ := and2 (show (chkE T c a x && (match (motive := Ex → Bool) b with
      | .and _ _ => chkE T c b (.BoolOp .And (y :: z :: r) p)
      | _ => false)) = true from h)
      split at h2
      · have w := t_and (sT K FO a G tk h1).1 ((sT K FO _ G tk h2).2 trivial)
        exact ⟨PW.pt w, fun _ => w⟩
      · cases h2
    | [], h => cases h
    | [_], h => cases h
  | .or a b, c, X, W, e, G, tk, h => by
    cases e <;> first | (cases h; done) | skip
    rename_i o l p
    cases o <;> first | (cases h; done) | skip
    match l, h with
    | [x, y], h =>
      obtain ⟨h1, h2⟩ := and2 (show (chkE T c a x && chkE T c b y) = true from h)
      have w := t_or (sT K FO a G tk h1).1 (pw_or1 (pos := p) (sT K FO b G tk h2).1)
      exact ⟨PW.pt w, fun _ => w⟩
    | x :: y :: z :: r, h =>
      obtain ⟨h1, h2⟩ := and2 (show (chkE T c a x && (match (motive := Ex → Bool) b with
      | .or _ _ => chkE T c b (.BoolOp .Or (y :: z :: r) p)
      | _ => false)) = true from h)
      split at h2
      · have w := t_or (sT K FO a G tk h1).1 ((sT K FO _ G tk h2).2 trivial)
        exact ⟨PW.pt w, fun _ => w⟩
      · cases h2
    | [], h => cases h
    | [_], h => cases h
  | .not a, c, X, W, e, G, tk, h => by
    cases e <;> first | (cases h; done) | skip
    rename_i o a' p
    cases o <;> first | (cases h; done) | skip
    exact ⟨t_not (sT K FO a G tk h).1, fun z => z.elim⟩
  | .cmp o a b, c, X, W, e, G, tk, h => by
    cases e <;> first | (cases h; done) | skip
    rename_i a' ops bs p
    match ops, bs, h with
    | [o'], [b'], h =>
      obtain ⟨h1, h2, h3⟩ := and3 (show (decide (coP o = o') && noSet b' && chkE T c a a' && chkE T c b b') = true from h)
      obtain ⟨h4, h5⟩ := and2 h1
      rw [← of_decide_eq_true h4]
      exact ⟨t_cmp (co_ok G o) (noX_cmp o) (marks_no h5) (sE K FO a G tk h2) (sE K FO b G tk h3), fun z => z.elim⟩
    | [], [], h => cases h
    | [], [_], h => cases h
    | [], _ :: _ :: _, h => cases h
    | [_], [], h => cases h
    | [_], _ :: _ :: _, h => cases h
    | _ :: _ :: _, [], h => cases h
    | _ :: _ :: _, [_], h => cases h
    | _ :: _ :: _, _ :: _ :: _, h => cases h
  | .chn o p a b e', c, X, W, e, G, tk, h => by
    cases e <;> first | (cases h; done) | skip
    rename_i a' ops bs q
    match ops, bs, h with
    | [o', p'], [b', d'], h =>
      obtain ⟨h1, h2⟩ := and2 (show (decide (coP o = o') && decide (coP p = p') && noSet d' && chkE T c a a' && chkE T c b b' && chkE T c e' d') = true from h)
      obtain ⟨h3, h4, h5⟩ := and3 h1
      obtain ⟨h6, h7, h8⟩ := and3 h3
      rw [← of_decide_eq_true h6, ← of_decide_eq_true h7]
      exact ⟨t_chn (noX_cmp o) (noX_cmp p) (co_ok G o) (co_ok G p) (last_no h8) (sE K FO a G tk h4) (sE K FO b G tk h5) (sE K FO e' G tk h2), fun z => z.elim⟩
    | [], [], h => cases h
    | [], [_], h => cases h
    | [], [_, _], h => cases h
    | [], _ :: _ :: _ :: _, h => cases h
    | [_], [], h => cases h
    | [_], [_], h => cases h
    | [_], [_, _], h => cases h
    | [_], _ :: _ :: _ :: _, h => cases h
    | [_, _], [], h => cases h
    | [_, _], [_], h => cases h
    | [_, _], _ :: _ :: _ :: _, h => cases h
    | _ :: _ :: _ :: _, [], h => cases h
    | _ :: _ :: _ :: _, [_], h => cases h
    | _ :: _ :: _ :: _, [_, _], h => cases h
    | _ :: _ :: _ :: _, _ :: _ :: _ :: _, h => cases h
  | .lit v, c, X, W, e, G, tk, h => by
    have w := sE K FO (.lit v) G tk h
    cases e <;> first | (cases h; done) | skip
    exact ⟨t_val w fun _ => rfl, fun z => z.elim⟩
  | .var i, c, X, W, e, G, tk, h => by
    have w := sE K FO (.var i) G tk h
    cases e <;> first | (cases h; done) | skip
    exact ⟨t_val w fun _ => rfl, fun z => z.elim⟩
  | .con k, c, X, W, e, G, tk, h => by
    have w := sE K FO (.con k) G tk h
    cases e <;> first | (cases h; done) | skip
    exact ⟨t_val w fun _ => rfl, fun z => z.elim⟩
  | .bin o a b, c, X, W, e, G, tk, h => by
    have w := sE K FO (.bin o a b) G tk h
    cases e <;> first | (cases h; done) | skip
    exact ⟨t_val w fun _ => rfl, fun z => z.elim⟩
  | .neg a, c, X, W, e, G, tk, h => by
    have w := sE K FO (.neg a) G tk h
    cases e <;> first | (cases h; done) | skip
    rename_i o a' p
    cases o <;> first | (cases h; done) | skip
    exact ⟨t_val w fun _ => rfl, fun z => z.elim⟩
  | .ifx t a b, c, X, W, e, G, tk, h => by
    cases e <;> first | (cases h; done) | skip
    rename_i t' a' b' p
    obtain ⟨h1, h2, h3⟩ := and3 (show (chkE T c t t' && chkE T c a a' && chkE T c b b') = true from h)
    exact ⟨t_ifx (sT K FO t G tk h1).1 (sT K FO a G tk h2).1 (sT K FO b G tk h3).1, fun z => z.elim⟩
  | .tup es, c, X, W, e, G, tk, h => by
    have w := sE K FO (.tup es) G tk h
    cases e <;> first | (cases h; done) | skip
    exact ⟨t_val w fun _ => rfl, fun z => z.elim⟩
  | .lst es, c, X, W, e, G, tk, h => by
    have w := sE K FO (.lst es) G tk h
    cases e <;> first | (cases h; done) | skip
    exact ⟨t_val w fun _ => rfl, fun z => z.elim⟩
  | .sub a i, c, X, W, e, G, tk, h => by
    have w := sE K FO (.sub a i) G tk h
    cases e <;> first | (cases h; done) | skip
    exact ⟨t_val w fun _ => rfl, fun z => z.elim⟩
  | .sli a lo hi, c, X, W, e, G, tk, h => by
    have w := sE K FO (.sli a lo hi) G tk h
    cases e <;> first | (cases h; done) | skip
    exact ⟨t_val w fun _ => rfl, fun z => z.elim⟩
  | .isi a ts, c, X, W, e, G, tk, h => by
    have w := sE K FO (.isi a ts) G tk h
    cases e <;> first | (cases h; done) | skip
    exact ⟨t_val w fun _ => rfl, fun z => z.elim⟩
  | .call f np n nk pm es ks, c, X, W, e, G, tk, h => by
    have w := sE K FO (.call f np n nk pm es ks) G tk h
    cases e <;> first | (cases h; done) | skip
    exact ⟨t_val w fun _ => rfl, fun z => z.elim⟩
  | .blt b es, c, X, W, e, G, tk, h => by
    have w := sE K FO (.blt b es) G tk h
    cases e <;> first | (cases h; done) | skip
    exact ⟨t_val w fun _ => rfl, fun z => z.elim⟩
  | .met m o es, c, X, W, e, G, tk, h => by
    have w := sE K FO (.met m o es) G tk h
    cases e <;> first | (cases h; done) | skip
    exact ⟨t_val w fun _ => rfl, fun z => z.elim⟩
  | .comp el t s d' own, c, X, W, e, G, tk, h => by
    have w := sE K FO (.comp el t s d' own) G tk h
    cases e <;> first | (cases h; done) | skip
    exact ⟨t_val w fun _ => rfl, fun z => z.elim⟩
theorem sEs (K : TabOk g T C.con) (FO : FnsOk g T C.call d) : ∀ (m : Exs) {c : Cst} {X : Cx} {W : WX} {es : List Expr} (G : GX g d c X) (tk : Takes X W), es.all noStar = true → chkEs T c m es = true → PA X es (tAs g W bars fun env h => evs C bars env m h)
  | .nil, c, X, W, es, G, tk, hn, h => by
    cases es with
    | nil => exact a_nil
    | cons _ _ => cases h
  | .cons a r, c, X, W, es, G, tk, hn, h => by
    cases es with
    | nil => cases h
    | cons e es =>
      obtain ⟨h1, h2⟩ := and2 (show (chkE T c a e && chkEs T c r es) = true from h)
      obtain ⟨n1, n2⟩ := and2 (show (noStar e && es.all noStar) = true from hn)
      exact a_cons (sE K FO a G tk h1) (sEs K FO r G tk n2 h2) (star_cons n1)
theorem sKs (K : TabOk g T C.con) (FO : FnsOk g T C.call d) : ∀ (m : Exs) {c : Cst} {X : Cx} {W : WX} {es : List Keyword} (G : GX g d c X) (tk : Takes X W), chkKs T c m es = true → PK X es (tAs g W bars fun env h => evs C bars env m h)
  | .nil, c, X, W, es, G, tk, h => by
    cases es with
    | nil => exact k_nil
    | cons _ _ => cases h
  | .cons a r, c, X, W, es, G, tk, h => by
    cases es with
    | nil => cases h
    | cons e es =>
      obtain ⟨nm, e, p⟩ := e
      obtain ⟨h1, h2⟩ := and2 (show (chkE T c a e && chkKs T c r es) = true from h)
      exact k_cons (sE K FO a G tk h1) (sKs K FO r G tk h2)
theorem sP (K : TabOk g T C.con) (FO : FnsOk g T C.call d) : ∀ (m : Pt) {c : Cst} {X : Cx} {W : WX} {e : Option Expr} (G : GX g d c X) (tk : Takes X W), chkP T c m e = true → PO X e (tP g W bars fun env h => evP C bars env m h)
  | .no, c, X, W, e, G, tk, h => by
    cases e with
    | none => exact p_no
    | some _ => cases h
  | .ex a, c, X, W, e, G, tk, h => by
    cases e with
    | none => cases h
    | some e => exact p_ex (sE K FO a G tk h)
theorem sTg (K : TabOk g T C.con) (FO : FnsOk g T C.call d) : ∀ (m : Tg) {c : Cst} {X : Cx} {W : WX} {e : Expr} (G : GX g d c X) (tk : Takes X W), chkT T c m e = true → PG X e (tG g bars m.ws fun v env h => evT C bars m v env h)
  | .name i, c, X, W, e, G, tk, h => by
    cases e <;> first | (cases h; done) | skip
    rename_i x p
    obtain ⟨h1, h2⟩ := and2 (show (decide (c.N[i]? = some x) && (kindB c.sc x .local || (kindB c.sc x .cell && c.fn x))) = true from h)
    rw [Bool.or_eq_true] at h2
    refine g_name (by rw [G.N]; exact G.nd) (by rw [G.N]; exact of_decide_eq_true h1) ?_ ?_
    · rcases h2 with h2 | h2
      · exact .inl (kind_of G h2)
      · exact .inr (kind_of G (and2 h2).1)
    · rcases h2 with h2 | h2
      · exact .inr (kind_of G h2)
      · exact .inl (by rw [G.fn]; exact (and2 h2).2)
  | .tup ts, c, X, W, e, G, tk, h => by
    cases e <;> first | (cases h; done) | skip
    rename_i es k p
    obtain ⟨h1, h2⟩ := and2 (show (es.all noStar && chkTs T c ts es) = true from h)
    exact g_tup G.K G.calm (sTgs K FO ts G tk h1 h2) (asg_len h1) (asg_idx h1) fun l env h n => evTs_len ts l env h fun z => n (by rw [z, chkTs_len h2])
  | .sub o i, c, X, W, e, G, tk, h => by
    cases e <;> first | (cases h; done) | skip
    rename_i o' i' p
    obtain ⟨h1, h2, h3⟩ := and3 (show (noSl i' && chkE T c o o' && chkE T c i i') = true from h)
    refine g_sub (sE K FO o G tk h2) (sE K FO i G tk h3) fun v => ?_
    cases i' <;> first | rfl | cases h1
theorem sTgs (K : TabOk g T C.con) (FO : FnsOk g T C.call d) : ∀ (m : Tgs) {c : Cst} {X : Cx} {W : WX} {es : List Expr} (G : GX g d c X) (tk : Takes X W), es.all noStar = true → chkTs T c m es = true → PGs X es (tGs g bars (Tg.ws.wss m) fun l env h => evTs C bars m l env h)
  | .nil, c, X, W, es, G, tk, hn, h => by
    cases es with
    | nil =>
      refine PGs.imp (gs_nil (g := g) (bars := bars)) fun xs σ H Q q => ?_
      obtain ⟨r, e, h, l, A, E, rl, q⟩ := q
      refine ⟨r, e, h, l, A, E, rl, ?_⟩
      cases l <;> exact q
    | cons _ _ => cases h
  | .cons a rr, c, X, W, es, G, tk, hn, h => by
    cases es with
    | nil => cases h
    | cons e es =>
      obtain ⟨h1, h2⟩ := and2 (show (chkT T c a e && chkTs T c rr es) = true from h)
      obtain ⟨n1, n2⟩ := and2 (show (noStar e && es.all noStar) = true from hn)
      refine PGs.imp (gs_cons (sTg K FO a G tk h1) (sTgs K FO rr G tk n2 h2) (by rw [asg_cons n1]; rfl)) fun xs σ H Q q => ?_
      obtain ⟨r, e, h, l, A, E, rl, q⟩ := q
      refine ⟨r, e, h, l, A, E, rl, ?_⟩
      cases l <;> exact q
theorem sI (K : TabOk g T C.con) (FO : FnsOk g T C.call d) : ∀ (m : It) {c : Cst} {X : Cx} {W : WX} {tg e : Expr} (G : GX g d c X) (tk : Takes X W), chkI T c m e = true → PI X tg e (tI g W bars fun env h => evI C bars env m h)
  | .seq a, c, X, W, tg, e, G, tk, h => i_seq G.K (sE K FO a G tk h)
  | .ran1 a, c, X, W, tg, e, G, tk, h => by
    cases e <;> first | (cases h; done) | skip
    rename_i fx args kws p
    cases fx <;> first | (cases h; done) | skip
    rename_i x p0
    match args, kws, h with
    | [a'], [], h =>
      obtain ⟨h1, h2, h3⟩ := and3 (show (decide (x = ("range" : Str)) && freeB T c x && noStar a' && chkE T c a a') = true from h)
      obtain ⟨h4, h5⟩ := and2 h1
      obtain ⟨f1, f2, f3, f4⟩ := free_of G K h5
      rw [of_decide_eq_true h4] at f1 f2 ⊢
      exact i_ran1 f1 f2 (sE K FO a G tk h3) (star_cons h2)
    | [], _, h => cases h
    | _ :: _ :: _, _, h => cases h
    | [_], _ :: _, h => cases h
  | .ran2 a b, c, X, W, tg, e, G, tk, h => by
    cases e <;> first | (cases h; done) | skip
    rename_i fx args kws p
    cases fx <;> first | (cases h; done) | skip
    rename_i x p0
    match args, kws, h with
    | [a', b'], [], h =>
      obtain ⟨h1, h2, h3⟩ := and3 (show (decide (x = ("range" : Str)) && freeB T c x && noStar a' && noStar b' && chkE T c a a' && chkE T c b b') = true from h)
      obtain ⟨h4, h5, h6⟩ := and3 h1
      obtain ⟨h7, h8⟩ := and2 h4
      obtain ⟨f1, f2, f3, f4⟩ := free_of G K h8
      rw [of_decide_eq_true h7] at f1 f2 ⊢
      exact i_ran2 f1 f2 (sE K FO a G tk h2) (sE K FO b G tk h3) (star_cons h5) (star_cons h6)
    | [], _, h => cases h
    | [_], _, h => cases h
    | _ :: _ :: _ :: _, _, h => cases h
    | [_, _], _ :: _, h => cases h
end
end
end NL
end

section
namespace NL
open PySem PySem.Spec PyProof.Rows L2

/-! ### statements -/
/-- nothing is swapped where a tuple of targets takes a tuple -/
def noTupE : Expr → Bool
  | .Tuple .. => false
  | _ => true
def noTupT : Expr → Bool
  | .Tuple .. => false
  | .List .. => false
  | _ => true
def isNm : Expr → Bool
  | .Name .. => true
  | _ => false
theorem swst_no {tg e : Expr} {env : Env} (h : (noTupT tg || noTupE e) = true) : swappedStores [tg] e env = pure none := by
  unfold swappedStores
  cases tg <;> first | rfl | (cases e <;> first | rfl | cases h)
theorem swso_no {tg e : Expr} {n : Nat} {env : Env} (h : (noComp e || !isNm tg) = true) : swapsWithSole [tg] e n env = pure false := by
  show swapsWith e (some tg) n env = pure false
  by_cases q : noComp e = true
  · exact swaps_no q
  · cases e <;> first | exact absurd rfl q | (cases tg <;> first | rfl | cases h)
/-- a comprehension stored in a name: whether the machine swaps -/
def swB (c : Cst) (x : Str) (px : Pos) (e : Expr) : Option Bool := match e with
  | .ListComp _ _ s p => some (kindB c.sc x .local && (px.line == p.line) && !(s.names.any fun q => q.1 == x && (q.2 == .local || q.2 == .cell)))
  | _ => none
/-- x, y = a, b -/
def parShape : Stmt → Option (Str × Pos × Str × Pos × Expr × Expr)
  | .Assign [.Tuple [.Name x px, .Name y py] _ _] (.Tuple [a, b] _ _) _ => some (x, px, y, py, a, b)
  | _ => none
theorem parShape_eq {st : Stmt} {x : Str} {px : Pos} {y : Str} {py : Pos} {a b : Expr} (h : parShape st = some (x, px, y, py, a, b)) : ∃ k1 p1 k2 p2 sp, st = .Assign [.Tuple [.Name x px, .Name y py] k1 p1] (.Tuple [a, b] k2 p2) sp := by
  unfold parShape at h
  split at h
  · cases h
    exact ⟨_, _, _, _, _, rfl⟩
  · cases h
mutual
def chkS (T : Tab) (c : Cst) : Sm → Stmt → Bool
  | .set t a, .Assign [tg] e sp => (match tg with
    | .Name x px => (match t with
      | .name i => stB c i x && chkE T c a e && (match e with
        | .ListComp el' gs scope p => kindB c.sc x .local && (px.line == p.line) && !(scope.names.any fun q => q.1 == x && (q.2 == .local || q.2 == .cell)) && (match a with
          | .comp .. => true
          | _ => false)
        | e => noComp e)
      | _ => false)
    | tg => (noTupT tg || noTupE e) && noComp e && noStar tg && chkE T c a e && chkT T c t tg)
  | .par i j a b, st => (match parShape st with
    | some (x, px, y, py, a', b') => stB c i x && stB c j y && kindB c.sc x .local && kindB c.sc y .local && !(i == j) && !(x == y) && (px.line == py.line) && noStar a' && noStar b' && !([a', b'].all (foldedForSure 8)) && !([a', b'].all (constantsAlone 8)) && chkE T c a a' && chkE T c b b'
    | none => false)
  | .ret a, .Return (some e) _ => chkE T c a e
  | .ifs d t f, .If d' t' f' _ => chkE T c d d' && chkSs T c t t' && chkSs T c f f'
  | .for t s b, .For t' s' b' [] _ => noSet s' && chkT T c t t' && chkI T c s s' && chkSs T c b b'
  | .whl d b, .While d' b' [] _ => chkE T c d d' && chkSs T c b b'
  | .ex a, .Expr e _ => noComp e && chkE T c a e
  | .pas, .Pass _ => true
  | .brk, .Break _ => true
  | .cnt, .Continue _ => true
  | .never, _ => true
  | _, _ => false
def chkSs (T : Tab) (c : Cst) : Sms → List Stmt → Bool
  | .nil, [] => true
  | .cons s r, t :: ts => chkS T c s t && chkSs T c r ts
  | _, _ => false
end
section
variable {g : Pg} {T : Tab} {C : Cfg} {d : Nat} {bars : List Nat}
/-- a comprehension, stored in a name of the frame -/
theorem s_setC (K : TabOk g T C.con) (FO : FnsOk g T C.call d) {el : Ex} {t : Tg} {s : It} {d' : Ex} {own : List Nat} {i : Nat} {c : Cst} {X : Cx} {W : WX} {x : Str} {px sp p : Pos} {el' : Expr} {gs : List Comprehension} {scope : Scope} (G : GX g d c X) (tk : Takes X W) (h : chkE T c (.comp el t s d' own) (.ListComp el' gs scope p) = true)
    (hs : stB c i x = true) (hl : kindB c.sc x .local = true) (hp : (px.line == p.line) = true) (hn : (!(scope.names.any fun q => q.1 == x && (q.2 == .local || q.2 == .cell))) = true) :
    PS X (.Assign [.Name x px] (.ListComp el' gs scope p) sp) (tS g W bars fun env h => ex C bars (.set (.name i) (.comp el t s d' own)) env h) := by
  obtain ⟨hs1, hs2⟩ := and2 hs
  match gs, h with
  | [⟨t', s', ifs, 0⟩], h =>
    obtain ⟨h1, h2, h3⟩ := and3 (show (noSet s' && chkI T c s s' && (match ownOf c.N own with
      | some ow => blkC c.N c.sc scope ow
      | none => false) && t.ws.all (fun i => own.elem i) && chkT T (blkCst c scope) t t' && (match (motive := List Expr → Bool) ifs with
        | [] => (match (motive := Ex → Bool) d' with
          | .lit (.bl true) => true
          | _ => false)
        | [d''] => chkE T (blkCst c scope) d' d''
        | _ => false) && chkE T (blkCst c scope) el el') = true from h)
    obtain ⟨h4, h5, h6⟩ := and3 h1
    obtain ⟨h7, h8, h9⟩ := and3 h4
    split at h9
    · rename_i ow e1
      have ok : BlkOk X.N X.env.scope scope ow := by
        rw [G.N, G.sc]
        exact blkOk_by h9
      have hs : ∀ j ∈ t.ws, j ∈ ow.map (·.2) := fun j hj => by
        rw [ownOf_snd e1]
        exact List.mem_of_elem_eq_true (List.all_eq_true.mp h5 j hj)
      have hif : ∀ (s : Shared) (H : Hp) (C' : Addr) (cl : List (Str × Addr)) (fp : List Addr), PTs (X.blk s H scope (compEnvC scope cl C' X.env) fp) ifs (tT g W0 bars fun env h => ev C bars env d' h) := fun s H C' cl fp => by
        split at h2
        · split at h2
          · refine ⟨fun pins s σ H Q I q => pts_nil.run pins s σ H Q I ?_⟩
            obtain ⟨r, e, h, A, E, _, q⟩ := q
            exact q r H true .refl A rfl
          · cases h2
        · exact pts_one (sT K FO d' (G.blk s H scope ok.kind C' cl fp) takes0 h2).1
        · cases h2
      have hsw : swapsWith (.ListComp el' [⟨t', s', ifs, 0⟩] scope p) (some (.Name x px)) sp.line X.env = pure true := by
        show pure (X.env.blockKind == .function && X.env.kindOf x == some .local && px.line == p.line && !(scope.names.any fun (n, k) => n == x && (k == .local || k == .cell))) = (pure true : Sem Bool)
        have k1 : X.env.kindOf x = some .local := kind_of G hl
        have hn' : (!(scope.names.any fun (n, k) => n == x && (k == .local || k == .cell))) = true := hn
        rw [k1, hp, hn']
        have k2 : X.env.blockKind = .function := by
          unfold Env.blockKind
          rw [G.sc, G.kind]
          rfl
        rw [k2]
        rfl
      refine PS.imp (ps_setLc (i := i) G.calm (by rw [G.N]; exact G.nd) (by rw [G.N]; exact of_decide_eq_true hs1) (kind_of G hl) hsw (sI (bars := bars) K FO s G tk h8) ok (fun s H C' cl fp => sTg (bars := bars) K FO t (G.blk s H scope ok.kind C' cl fp) takes0 h6) hif (fun s H C' cl fp => sE (bars := bars) K FO el (G.blk s H scope ok.kind C' cl fp) takes0 h3) (set_fold h7)) fun D σ H q => ?_
      obtain ⟨r, e, h, A, E, q⟩ := q
      have q' : RpO g bars W r h H D ((ev C bars e (.comp el t s d' own) h).to e fun v h => .nx (e.set i (some v)) h) := q
      rw [ownOf_snd e1]
      refine lc_ok (by rw [ownOf_snd e1] at hs; exact hs) σ H _ ⟨r, e, h, A, E, RpO.to E q' fun v h1 r1 H1 x _ G A1 rv q1 => ?_⟩
      exact q1 r1 H1 _ .refl A1 ((E.mono G).set rv i)
    · cases h9
  | [⟨t', s', ifs, .ofNat (_ + 1)⟩], h => cases h
  | [⟨t', s', ifs, .negSucc _⟩], h => cases h
  | [], h => cases h
  | ⟨_, _, _, .ofNat 0⟩ :: _ :: _, h => cases h
  | ⟨_, _, _, .ofNat (_ + 1)⟩ :: _ :: _, h => cases h
  | ⟨_, _, _, .negSucc _⟩ :: _ :: _, h => cases h
mutual
theorem sS (K : TabOk g T C.con) (FO : FnsOk g T C.call d) : ∀ (m : Sm) {c : Cst} {X : Cx} {W : WX} {st : Stmt} (G : GX g d c X) (tk : Takes X W) (hp : PassesOwn (model X.prog X.w) X.A X.env X.xe), chkS T c m st = true → PS X st (tS g W bars fun env h => ex C bars m env h)
  | .set t a, c, X, W, st, G, tk, hp, h => by
    cases st <;> first | (cases h; done) | skip
    rename_i tgs e sp
    match tgs, h with
    | [tg], h =>
      have gen : noComp e = true → (noTupT tg || noTupE e) = true → noStar tg = true → chkE T c a e = true → chkT T c t tg = true → PS X (.Assign [tg] e sp) (tS g W bars fun env h => ex C bars (.set t a) env h) := fun h1 h2 h3 h4 h5 =>
        s_set (fun te tt a1 a2 => ps_asg a1 a2 (swso_no (by rw [h1]; rfl)) (swst_no h2) (by rw [asg_cons h3]; rfl)) (sE K FO a G tk h4) (sTg K FO t G tk h5)
      cases tg
      case Name x px =>
        cases t with
        | name i =>
          obtain ⟨h1, h2, h3⟩ := and3 (show (stB c i x && chkE T c a e && (match (motive := Expr → Bool) e with
            | .ListComp el' gs scope p => kindB c.sc x .local && (px.line == p.line) && !(scope.names.any fun q => q.1 == x && (q.2 == .local || q.2 == .cell)) && (match (motive := Ex → Bool) a with
              | .comp .. => true
              | _ => false)
            | e => noComp e)) = true from h)
          split at h3
          · obtain ⟨k1, k2⟩ := and2 h3
            obtain ⟨k3, k4, k5⟩ := and3 k1
            split at k2
            · exact s_setC K FO G tk h2 h1 k3 k4 k5
            · cases k2
          · exact gen h3 rfl rfl h2 h1
        | _ => cases h
      all_goals (
        obtain ⟨h1, h2⟩ := and2 (show (_ && chkT T c t _) = true from h)
        obtain ⟨h3, h4⟩ := and2 h1
        obtain ⟨h5, h6, h7⟩ := and3 h3
        exact gen h6 h5 h7 h4 h2)
    | [], h => cases h
    | _ :: _ :: _, h => cases h
  | .par i j a b, c, X, W, st, G, tk, hp, h => by
    have h0 : (match parShape st with
      | some (x, px, y, py, a', b') => stB c i x && stB c j y && kindB c.sc x .local && kindB c.sc y .local && !(i == j) && !(x == y) && (px.line == py.line) && noStar a' && noStar b' && !([a', b'].all (foldedForSure 8)) && !([a', b'].all (constantsAlone 8)) && chkE T c a a' && chkE T c b b'
      | none => false) = true := by cases st <;> exact h
    split at h0
    case h_2 => cases h0
    rename_i x px y py a' b' es
    obtain ⟨kk, p1, kk2, p2, sp, rfl⟩ := parShape_eq es
    obtain ⟨h0, h12, h13⟩ := and3 h0
    obtain ⟨h0, h10, h11⟩ := and3 h0
    obtain ⟨h0, h8, h9⟩ := and3 h0
    obtain ⟨h0, h6, h7⟩ := and3 h0
    obtain ⟨h0, h4, h5⟩ := and3 h0
    obtain ⟨h1, h2, h3⟩ := and3 h0
    have h10' : ([a', b'].all (foldedForSure 8)) = false := by rw [Bool.not_eq_true'] at h10; exact h10
    have h11' : ([a', b'].all (constantsAlone 8)) = false := by rw [Bool.not_eq_true'] at h11; exact h11
    have k1 := kind_of G h3
    have k2 := kind_of G h4
    have e7 : px.line = py.line := beq_iff_eq.mp h7
    have hxy : x ≠ y := fun z => by rw [z] at h6; simp at h6
    have hij : i ≠ j := fun z => by rw [z] at h5; simp at h5
    have hbk : X.env.blockKind = .function := by
      unfold Env.blockKind
      rw [G.sc, G.kind]
      rfl
    have hsw : swappedStores [.Tuple [.Name x px, .Name y py] kk p1] (.Tuple [a', b'] kk2 p2) X.env = pure (some [x, y]) := by
      have n8 : noStar a' = true := h8
      have e1 : ([a', b'].any fun | .Starred .. => true | _ => false) = false := by
        cases a' <;> first | (cases h8; done) | (cases b' <;> first | rfl | cases h9)
      have kx : X.env.kindOf x = some .local := k1
      have ky : X.env.kindOf y = some .local := k2
      unfold swappedStores
      have q1 : (some NameKind.local == some NameKind.local) = true := rfl
      have q2 : (px.line == py.line) = true := h7
      have q3 : (py.line == py.line) = true := beq_self_eq_true _
      have q4 : (y == x) = false := by
        cases z : y == x
        · rfl
        · exact absurd (eq_of_beq z).symm hxy
      simp only [hbk, e1, kx, ky, h10', h11', List.filterMap_cons, List.filterMap_nil, List.head?_cons, Option.map_some, Option.getD_some, Expr.pos, e7, q1, q3, Bool.and_self, if_true, List.length_cons, List.length_nil, List.eraseDups_cons, List.eraseDups_nil, List.filter_cons, List.filter_nil, q4, Bool.not_false]
      rw [if_neg (by decide), if_neg (by rw [Bool.not_eq_true]; exact e1), if_neg (by simp), if_neg (by simp), if_neg (by simp)]
    refine s_par (a := a') (b := b') (ps_par (i := i) (j := j) G.calm (by rw [G.N]; exact G.nd) (by rw [G.N]; exact of_decide_eq_true (and2 h1).1) (by rw [G.N]; exact of_decide_eq_true (and2 h2).1) hij k1 k2 (a_cons (sE K FO a G tk h12) (a_cons (sE K FO b G tk h13) a_nil (star_cons h9)) (star_cons h8)) hsw)
  | .ret a, c, X, W, st, G, tk, hp, h => by
    cases st <;> first | (cases h; done) | skip
    rename_i v p
    cases v with
    | none => cases h
    | some e => exact s_ret (sE K FO a G tk h)
  | .ifs d' t f, c, X, W, st, G, tk, hp, h => by
    cases st <;> first | (cases h; done) | skip
    rename_i d'' t' f' p
    obtain ⟨h1, h2, h3⟩ := and3 (show (chkE T c d' d'' && chkSs T c t t' && chkSs T c f f') = true from h)
    exact s_if (sT K FO d' G tk h1).1 (sSs K FO t G tk hp h2) (sSs K FO f G tk hp h3)
  | .for t s b, c, X, W, st, G, tk, hp, h => by
    cases st <;> first | (cases h; done) | skip
    rename_i t' s' b' el p
    cases el <;> first | (cases h; done) | skip
    obtain ⟨h1, h2, h3⟩ := and3 (show (noSet s' && chkT T c t t' && chkI T c s s' && chkSs T c b b') = true from h)
    obtain ⟨h4, h5⟩ := and2 h1
    exact s_for (fun wi gt tb a1 a2 a3 => ps_for hp G.calm a1 a2 a3 (set_fold h4)) (sI K FO s G tk h2) (sTg K FO t G tk h5) (sSs K FO b G tk hp h3)
  | .whl d' b, c, X, W, st, G, tk, hp, h => by
    cases st <;> first | (cases h; done) | skip
    rename_i d'' b' el p
    cases el <;> first | (cases h; done) | skip
    obtain ⟨h1, h2⟩ := and2 (show (chkE T c d' d'' && chkSs T c b b') = true from h)
    exact s_whl (fun tc tb a1 a2 => ps_while hp a1 a2) (sT K FO d' G tk h1).1 (sSs K FO b G tk hp h2)
  | .ex a, c, X, W, st, G, tk, hp, h => by
    cases st <;> first | (cases h; done) | skip
    rename_i e p
    obtain ⟨h1, h2⟩ := and2 (show (noComp e && chkE T c a e) = true from h)
    exact s_ex (sE K FO a G tk h2) fun t a1 => ps_expr a1 (swaps_no h1)
  | .pas, c, X, W, st, G, tk, hp, h => by
    cases st <;> first | (cases h; done) | skip
    exact s_pas
  | .brk, c, X, W, st, G, tk, hp, h => by
    cases st <;> first | (cases h; done) | skip
    exact s_brk
  | .cnt, c, X, W, st, G, tk, hp, h => by
    cases st <;> first | (cases h; done) | skip
    exact s_cnt
  | .never, c, X, W, st, G, tk, hp, h => s_never
theorem sSs (K : TabOk g T C.con) (FO : FnsOk g T C.call d) : ∀ (m : Sms) {c : Cst} {X : Cx} {W : WX} {st : List Stmt} (G : GX g d c X) (tk : Takes X W) (hp : PassesOwn (model X.prog X.w) X.A X.env X.xe), chkSs T c m st = true → PSs X st (tS g W bars fun env h => exs C bars m env h)
  | .nil, c, X, W, st, G, tk, hp, h => by
    cases st with
    | nil => exact ss_nil
    | cons _ _ => cases h
  | .cons s r, c, X, W, st, G, tk, hp, h => by
    cases st with
    | nil => cases h
    | cons t ts =>
      obtain ⟨h1, h2⟩ := and2 (show (chkS T c s t && chkSs T c r ts) = true from h)
      exact ss_cons (sS K FO s G tk hp h1) (sSs K FO r G tk hp h2) fun t u a1 a2 => pss_cons a1 a2
end
end
end NL
end

section
namespace NL
open PySem PySem.Spec PyProof.Rows L2

section
variable {g : Pg} {r : Nat → Addr} {bars : List Nat}
/-! ### what a tidy call leaves behind -/
theorem RFs.cut {n m : Nat} {H : Hp} {fs : List (Nat × Va)} {gs : List (Str × V)} (h : RFs g r n H fs gs) (q : fs.all (fun p => p.2.bel m) = true) : RFs g r m H fs gs := by
  induction h with
  | nil => exact .nil
  | cons a _ ih =>
    rw [List.all_cons, Bool.and_eq_true] at q
    exact .cons (a.cut q.1) (ih q.2)
theorem At.wall {h : Hep} {H : Hp} (A : At g bars r h H) : At g (h.length :: bars) r h H := by
  refine ⟨A.rh, fun b hb => ?_⟩
  rcases List.mem_cons.mp hb with rfl | hb
  · refine ⟨Nat.le_refl _, fun i o _ e => ?_⟩
    obtain ⟨O, e1, e2⟩ := A.rh.ob i o e
    exact e2.bel
  · exact A.bo b hb
theorem At.cut {n : Nat} {h' : Hep} {H' : Hp} (A : At g (n :: bars) r h' H') (hb : ∀ b ∈ bars, b ≤ n) : At g bars r (h'.take n) H' ∧ (h'.take n).length = n := by
  obtain ⟨k1, k2⟩ := A.bo n (List.mem_cons_self ..)
  have hl : (h'.take n).length = n := by rw [List.length_take]; omega
  refine ⟨⟨⟨fun i j hi hj e => A.rh.inj i j (by omega) (by omega) e, fun i o e => ?_⟩, fun b hbm => ⟨by rw [hl]; exact hb b hbm, fun i o hi e => ?_⟩⟩, hl⟩
  · have hi : i < n := by rw [← hl]; exact (List.getElem?_eq_some_iff.mp e).1
    rw [List.getElem?_take_of_lt hi] at e
    obtain ⟨O, e1, e2⟩ := A.rh.ob i o e
    rw [hl]
    exact ⟨O, e1, e2.cut (k2 i o hi e)⟩
  · have hi' : i < n := Nat.lt_of_lt_of_le hi (hb b hbm)
    rw [List.getElem?_take_of_lt hi'] at e
    exact (A.bo b (List.mem_cons_of_mem _ hbm)).2 i o hi e
theorem Grow.cut {n n' : Nat} {r' : Nat → Addr} {H H' : Hp} (G : Grow r n H r' n' H') : Grow r n H r' n H' :=
  ⟨Nat.le_refl _, G.same, G.keep, G.frame, fun i h1 h2 => absurd h2 (Nat.not_lt_of_le h1), G.dom⟩
theorem tidy_ok {h : Hep} {H : Hp} {Q : VK} {E : XK} {o : Out} {hb : ∀ b ∈ bars, b ≤ h.length} (q : RpV g bars (fun c d H => E c d H) r h H Q (tidyR h.length (endO o))) : RpV g (h.length :: bars) (fun c d H => E c d H) r h H Q (endO o) := by
  cases m : endO o with
  | stuck => rw [m] at q; exact q
  | exc c h' =>
    rw [m] at q
    unfold tidyR at q
    dsimp only at q
    intro r1 H1 cls d G A x
    split at q
    · rename_i hf
      obtain ⟨A2, hl⟩ := A.cut hb
      refine q r1 H1 cls d (by rw [hl]; exact G.cut) A2 ?_
      rw [hl]
      refine ⟨x.1, ?_⟩
      have x2 := x.2
      cases d with
      | none => exact x2
      | some dd =>
        obtain ⟨gs, e1, e2⟩ := x2
        exact ⟨gs, e1, e2.cut hf⟩
    · exact q r1 H1 cls d G ⟨A.rh, fun b hbm => A.bo b (List.mem_cons_of_mem _ hbm)⟩ x
  | ok v h' =>
    rw [m] at q
    unfold tidyR at q
    dsimp only at q
    intro r1 H1 x G A rv
    have A1 : At g bars r1 h' H1 := ⟨A.rh, fun b hbm => A.bo b (List.mem_cons_of_mem _ hbm)⟩
    split at q
    · rename_i hv
      obtain ⟨A2, hl⟩ := A.cut hb
      exact q r1 H1 x (by rw [hl]; exact G.cut) A2 (by rw [hl]; exact rv.cut hv)
    · rename_i hv
      cases rv with
      | ref hi =>
        rename_i a
        dsimp only at q
        split at q
        · rename_i o e
          split at q
          · rename_i ho
            obtain ⟨A2, hl⟩ := A.cut hb
            have ha : h.length ≤ a := by
              have hv' : ¬ (decide (a < h.length) = true) := hv
              rw [decide_eq_true_eq] at hv'
              omega
            obtain ⟨O, e1, e2⟩ := A.rh.ob a o e
            have out : ∀ j, j < h.length → r1 j ≠ r1 a := fun j hj z => by
              have := A.rh.inj j a (by omega) hi z
              omega
            have hln : ∀ (u : Ob), (h'.take h.length ++ [u]).length = h.length + 1 := fun u => by rw [List.length_append, hl]; rfl
            have G2 : Grow r h.length H (ext r1 h.length (r1 a)) (h'.take h.length ++ [o]).length H1 := by
              rw [hln]
              refine ⟨Nat.le_succ _, fun i hi => (ext_ne (Nat.ne_of_lt hi)).trans (G.same i hi), G.keep, G.frame, fun i h1 h2 => ?_, G.dom⟩
              have : i = h.length := by omega
              subst this
              rw [ext_at]
              exact G.fresh a ha hi
            have A3 : At g bars (ext r1 h.length (r1 a)) (h'.take h.length ++ [o]) H1 := by
              refine ⟨⟨fun i j hi hj e => ?_, fun i u eu => ?_⟩, A2.bo.new⟩
              · rw [hln] at hi hj
                by_cases z1 : i = h.length
                · subst z1
                  by_cases z2 : j = h.length
                  · exact z2.symm
                  · rw [ext_at, ext_ne z2] at e
                    exact absurd e.symm (out j (by omega))
                · by_cases z2 : j = h.length
                  · subst z2
                    rw [ext_at, ext_ne z1] at e
                    exact absurd e (out i (by omega))
                  · rw [ext_ne z1, ext_ne z2] at e
                    exact A2.rh.inj i j (by omega) (by omega) e
              · rw [hln]
                by_cases z : i = h.length
                · subst z
                  rw [List.getElem?_append_right (by omega), hl, Nat.sub_self] at eu
                  simp at eu
                  subst eu
                  exact ⟨O, by rw [ext_at]; exact e1, lc_ok.moreO (e2.cut ho)⟩
                · have hi2 : i < h.length := by
                    have := (List.getElem?_eq_some_iff.mp eu).1
                    rw [hln] at this
                    omega
                  rw [List.getElem?_append_left (by omega)] at eu
                  obtain ⟨O2, e3, e4⟩ := A2.rh.ob i u eu
                  rw [hl] at e4
                  exact ⟨O2, by rw [ext_ne z]; exact e3, lc_ok.moreO e4⟩
            have rv2 : RV g (ext r1 h.length (r1 a)) (h'.take h.length ++ [o]).length H1 (.ref h.length) (.ref (r1 a)) := by
              have : RV g (ext r1 h.length (r1 a)) (h'.take h.length ++ [o]).length H1 (.ref h.length) (.ref (ext r1 h.length (r1 a) h.length)) := .ref (by rw [hln]; omega)
              rwa [ext_at] at this
            exact q _ _ _ G2 A3 rv2
          · exact q r1 H1 _ G A1 (.ref hi)
        · exact q.elim
      | non => exact absurd rfl hv
      | bl b => exact absurd rfl hv
      | int b => exact absurd rfl hv
      | str b hb => exact absurd rfl hv
      | fn => exact absurd rfl hv
      | cl => exact absurd rfl hv
      | tup a b c => exact q r1 H1 _ G A1 (.tup a b c)
      | kl a b c => exact q r1 H1 _ G A1 (.kl a b c)
/-! ### defs -/
theorem RE_start {n : Nat} {H : Hp} : ∀ {l : List Va} {xs : List V} (k : Nat), RVs g r n H l xs → RE g r n H (l.map some ++ List.replicate k none) (xs.map some ++ List.replicate k none)
  | [], _, k, q => by
    cases q
    induction k with
    | zero => exact trivial
    | succ k ih => exact ih
  | a :: l, _, k, q => by
    cases q with
    | cons a b => exact ⟨a, RE_start k b⟩
/-- one def's text and ours -/
structure FnS where
  params : Arguments
  body : List Stmt
  scope : Scope
  N : List Str
def FnS.cst (s : FnS) : Cst := ⟨s.N, s.scope, fun _ => true⟩
structure FnGood (g : Pg) (T : Tab) (tb : Nat → Option Def) (f : Nat) (I : FnI) : Prop where
  ex : ∃ (s : FnS) (D : Def) (fd : FuncData) (dvs : List V) (kws : List (Str × V)), tb f = some D ∧ D.np = I.np ∧ I.ps.length = I.np ∧ D.nn = s.N.length ∧ FnScope s.N I.ps s.scope ∧ chkSs T s.cst D.body s.body = true ∧ L2.FunD g.K I.name I.qual s.params s.body s.scope dvs kws (g.fa f) fd ∧ (∀ p ∈ I.forms, FormOk g.K fd I.ps p.1 p.2.1 p.2.2)
  mg : g.mg I.name = some (.ref (g.fa f))
theorem fn_step {T : Tab} {tb : Nat → Option Def} {sub : Nat → Nat → Bool} {con : Nat → Va} (K : TabOk g T con) {d : Nat} (ih : FnsOk g T (callF tb sub con d) d) {f : Nat} {I : FnI} {s : FnS} {D : Def} {fd : FuncData} {dvs : List V} {kws : List (Str × V)} (h1 : tb f = some D) (h2 : D.np = I.np) (h3 : I.ps.length = I.np) (h4 : D.nn = s.N.length) (h5 : FnScope s.N I.ps s.scope) (h6 : chkSs T s.cst D.body s.body = true) (h7 : L2.FunD g.K I.name I.qual s.params s.body s.scope dvs kws (g.fa f) fd) :
    FnOk g.P g.w g.K g.mg g.base (L2.CX g.P g.w) (d + 1) (g.fa f) fd I.ps (spF g (callF tb sub con (d + 1)) f I.np) := by
  refine h7.ok h5 (fun vs H Q E z => ?_) (fun cdv A outer st H vs Q E hr z => ?_)
  · obtain ⟨r, bars, h, l, _, rl, hl, _⟩ := z
    rw [← rl.length, hl, h3]
  · obtain ⟨r, bars, h, l, A0, rl, hl, q⟩ := z
    have GC : GX g d s.cst (cxOf (L2.CX g.P g.w) g.P g.w g.K g.mg g.base s.N I.qual s.scope (g.fa f) cdv A outer st H E) := ⟨rfl, rfl, rfl, rfl, rfl, rfl, h5.nd, rfl, h5.kind, rfl, rfl, hr⟩
    have tk : Takes (cxOf (L2.CX g.P g.w) g.P g.w g.K g.mg g.base s.N I.qual s.scope (g.fa f) cdv A outer st H E) (fun cls d _ H => E cls d H) := takes_of rfl rfl rfl rfl
    have hp := passes_of (X := cxOf (L2.CX g.P g.w) g.P g.w g.K g.mg g.base s.N I.qual s.scope (g.fa f) cdv A outer st H E) rfl
    have hst : L2.start s.N vs = vs.map some ++ List.replicate (D.nn - l.length) none := by
      unfold L2.start
      rw [h4, rl.length]
    have fin : ∀ {bars' : List Nat} {o : Out}, RpV g bars' (fun c d H => E c d H) r h H Q (endO o) → RpO g bars' (fun cls d _ H => E cls d H) r h H { nx := fun _ H' => Q .non H', rt := Q } o := by
      intro bars' o q
      cases o with
      | nx e h' => exact fun r1 H1 σ1 G A E => q r1 H1 .non G A .non
      | rt v h' => exact q
      | xc c e h' => exact fun r1 H1 σ1 cls d G A E x => q r1 H1 cls d G A x
      | bk e h' => exact q.elim
      | ct e h' => exact q.elim
      | stuck => exact q
    unfold callF at q
    rw [h1] at q
    dsimp only at q
    rw [if_pos (by rw [h2]; exact hl)] at q
    by_cases ht : D.tidy = true
    · rw [if_pos ht] at q
      have q2 := tidy_ok (hb := fun b hb => (A0.bo b hb).1) q
      refine ⟨_, sSs (C := ⟨callF tb sub con d, sub, con⟩) (bars := h.length :: bars) K ih D.body GC tk hp h6, r, D.start l, h, A0.wall, ?_, fin q2⟩
      rw [hst]
      exact RE_start _ rl
    · rw [if_neg ht] at q
      refine ⟨_, sSs (C := ⟨callF tb sub con d, sub, con⟩) (bars := bars) K ih D.body GC tk hp h6, r, D.start l, h, A0, ?_, fin q⟩
      rw [hst]
      exact RE_start _ rl
theorem fns_ok {T : Tab} {tb : Nat → Option Def} {sub : Nat → Nat → Bool} {con : Nat → Va} (K : TabOk g T con) (F : ∀ f I, T.fns[f]? = some I → FnGood g T tb f I) : ∀ d, FnsOk g T (callF tb sub con d) d := by
  intro d
  induction d with
  | zero =>
    refine ⟨fun f I e => ?_⟩
    obtain ⟨⟨s, D, fd, dvs, kws, h1, h2, h3, h4, h5, h6, h7, h8⟩, mg⟩ := F f I e
    refine ⟨fd, mg, h7.kp, ⟨fun vs H Q E z => ?_, fun A outer st H args us vs Q E _ _ _ _ z => ?_⟩, h8⟩
    · obtain ⟨r, bars, h, l, _, _, _, q⟩ := z
      exact q.elim
    · obtain ⟨r, bars, h, l, _, _, _, q⟩ := z
      exact q.elim
  | succ d ih =>
    refine ⟨fun f I e => ?_⟩
    obtain ⟨⟨s, D, fd, dvs, kws, h1, h2, h3, h4, h5, h6, h7, h8⟩, mg⟩ := F f I e
    exact ⟨fd, mg, h7.kp, fn_step K ih h1 h2 h3 h4 h5 h6 h7, h8⟩
end
end NL
end

section
namespace NL
open PySem PySem.Spec PyProof.Rows L2

/-! ### a law's end: the facts by names, the defs, the run -/
structure Item where
  I : FnI
  s : FnS
  D : Def
  dfl : List He.Dv := []
  kwd : List (Str × He.Dv) := []
def Item.dd (t : Item) : He.DefD := ⟨(t.I.name, none), t.I.name, t.I.qual, t.s.params, t.s.body, t.s.scope, t.dfl, t.kwd⟩
def scB (N P : List Str) (sc : Scope) : Bool := decide (sc.kind = .function) && decide (sc.isCoroutine = false) && decide (sc.isGenerator = false) && decide (N.Nodup) && decide (N.take P.length = P) && (P.all fun x => decide (sc.names.lookup x = some .local) || decide (sc.names.lookup x = some .cell)) && (sc.names.all fun y => decide (y.2 ≠ .free))
theorem scB_ok {N P : List Str} {sc : Scope} (h : scB N P sc = true) : FnScope N P sc := by
  unfold scB at h
  simp only [Bool.and_eq_true, decide_eq_true_eq, List.all_eq_true, Bool.or_eq_true] at h
  obtain ⟨⟨⟨⟨⟨⟨h1, h2⟩, h3⟩, h4⟩, h5⟩, h6⟩, h7⟩ := h
  exact ⟨h1, h2, h3, h4, h5, h6, h7⟩
def Item.ok (T : Tab) (t : Item) : Bool := (t.D.np == t.I.np) && (t.I.ps.length == t.I.np) && (t.D.nn == t.s.N.length) && scB t.s.N t.I.ps t.s.scope && chkSs T t.s.cst t.D.body t.s.body
def conFa : Str × Va → Option He.Fa
  | (x, .int i) => some (.int x i)
  | (x, .str l) => if sOk l = true then some (.str x (S l)) else none
  | _ => none
def tabFa (T : Tab) : List He.Fa := T.free.map .free ++ (T.fns.map fun I => .glo I.name) ++ T.cons.filterMap conFa
def conAt (T : Tab) (k : Nat) : Va := ((T.cons[k]?).map (·.2)).getD .non
theorem fact_mem {fa : List He.Fa} {fn : List He.DefD} {K : PySem.W.Frag} (c : He.SaysD fa fn K) {f : He.Fa} (h : f ∈ fa) : f.ok K = true := by
  obtain ⟨i, hi⟩ := List.mem_iff_getElem?.mp h
  exact c.fact i hi
theorem tab_ok {g : Pg} {T : Tab} {fn : List He.DefD} {h : Heap} (c : He.SaysD (tabFa T) fn g.K) (X : g.K.In h) (G : h.Ns mainGlobals g.mg) (hc : T.cons.all (fun p => (conFa p).isSome) = true) : TabOk g T (conAt T) := by
  refine ⟨fun x hx => He.free_ok X G (fact_mem c ?_), fun k p e => ⟨by unfold conAt; rw [e]; rfl, ?_⟩⟩
  · unfold tabFa
    exact List.mem_append_left _ (List.mem_append_left _ (List.mem_map_of_mem hx))
  · have hp := List.mem_of_getElem? e
    have h1 := List.all_eq_true.mp hc p hp
    obtain ⟨x, v⟩ := p
    cases v with
    | int i =>
      have : He.Fa.int x i ∈ tabFa T := List.mem_append_right _ (List.mem_filterMap.mpr ⟨_, hp, rfl⟩)
      obtain ⟨t, ht⟩ := He.int_ok X G (fact_mem c this)
      exact ⟨_, .int i, ht, ⟨t, rfl⟩, fun _ _ _ => .int i⟩
    | str l =>
      by_cases hl : sOk l = true
      · have : He.Fa.str x (S l) ∈ tabFa T := List.mem_append_right _ (List.mem_filterMap.mpr ⟨_, hp, by show (if sOk l = true then some (He.Fa.str x (S l)) else none) = _; rw [if_pos hl]⟩)
        obtain ⟨t, ht⟩ := He.str_ok X G (fact_mem c this)
        exact ⟨_, .str (S l), ht, ⟨t, rfl⟩, fun _ _ _ => .str l hl⟩
      · have h2 : (if sOk l = true then some (He.Fa.str x (S l)) else none).isSome = true := h1
        rw [if_neg hl] at h2
        cases h2
    | _ => cases h1
/-! ### the forms of calls of a def without defaults -/
def gPick (l : List Value) : List Pm → List Value
  | [] => []
  | .arg i :: is => l.getD i .none :: gPick l is
  | .dfl _ :: is => .none :: gPick l is
def pmArg : List Pm → Bool
  | [] => true
  | .arg _ :: is => pmArg is
  | .dfl _ :: _ => false
theorem Vals.getD' {vs : List V} {us : List Value} (h : Vals vs us) : ∀ i : Nat, RelV (vs.getD i .non) (us.getD i .none) := by
  induction h with
  | nil => exact fun i => rfl
  | cons a _ ih => exact fun i => match i with
    | 0 => a
    | i + 1 => ih i
theorem pick_Vals {vs : List V} {us : List Value} (h : Vals vs us) : ∀ {pm : List Pm}, pmArg pm = true → Vals (pickX vs pm) (gPick us pm)
  | [], _ => .nil
  | .arg i :: is, k => .cons (Vals.getD' h i) (pick_Vals h (pm := is) k)
  | .dfl _ :: _, k => by cases k
theorem pmArg_ok : ∀ {pm : List Pm}, pmArg pm = true → pmOk pm = true
  | [], _ => rfl
  | .arg _ :: is, k => pmArg_ok (pm := is) k
  | .dfl _ :: _, k => by cases k
theorem form_of {K : PySem.W.Frag} {x qual : Str} {params : Arguments} {body : List Stmt} {scope : Scope} {kws : List (Str × V)} {f : Addr} {fd : FuncData} {ps ks : List Str} {np : Nat} {pm : List Pm} (F : L2.FunD K x qual params body scope [] kws f fd) (hp : pmArg pm = true)
    (h : ∀ (kV doc pmo : Value) (an : Option Addr) (cdv ct : Value) (us ws : List Value), us.length = np → ws.length = ks.length → bindArgs (PySem.W.fnOf x qual params body scope .none kV doc pmo an cdv ct) ⟨us, ks.zip ws⟩ = pure (ps.zip (gPick (us ++ ws) pm))) : FormOk K fd ps np ks pm := by
  obtain ⟨oc, od, dV, kV, doc, pmo, an, cdv, ct, osl, rfl, lk, hcd, hD, hK⟩ := F.ex
  rcases hD with ⟨_, rfl⟩ | ⟨e, _⟩
  · exact ⟨pmArg_ok hp, fun us ws => gPick (us ++ ws) pm, fun s us ws _ l1 l2 => .of_eq (h _ _ _ _ _ _ us ws l1 l2), fun vs us zs ws r1 r2 _ _ => pick_Vals (r1.append r2) hp⟩
  · exact absurd rfl e
/-! ### .. of a def with defaults -/
def gPickD (l : List Value) : List Value → List Pm → List Value
  | _, [] => []
  | mv, .arg i :: is => l.getD i .none :: gPickD l mv is
  | m :: mv, .dfl _ :: is => m :: gPickD l mv is
  | [], .dfl _ :: is => .none :: gPickD l [] is
def dfls : List Pm → List V
  | [] => []
  | .arg _ :: is => dfls is
  | .dfl v :: is => dV v :: dfls is
theorem pickD_Vals {vs : List V} {us : List Value} (h : Vals vs us) : ∀ {pm : List Pm} {mv : List Value}, Vals (dfls pm) mv → Vals (pickX vs pm) (gPickD us mv pm)
  | [], _, _ => by unfold gPickD; exact .nil
  | .arg i :: is, mv, k => by
    unfold gPickD
    exact .cons (Vals.getD' h i) (pickD_Vals h (pm := is) k)
  | .dfl v :: is, mv, k => by
    cases k with
    | cons a b =>
      unfold gPickD
      exact .cons a (pickD_Vals h (pm := is) b)
theorem Vals.map_getD {ds : List V} {its : List Value} (h : Vals ds its) : ∀ js : List Nat, Vals (js.map fun j => ds.getD j .non) (js.map fun j => its.getD j .none)
  | [] => .nil
  | j :: js => .cons (Vals.getD' h j) (Vals.map_getD h js)
section
variable {K : PySem.W.Frag} {x qual : Str} {params : Arguments} {body : List Stmt} {scope : Scope} {dvs : List V} {kws : List (Str × V)} {f : Addr} {fd : FuncData} {ps ks : List Str} {np : Nat} {pm : List Pm}
/-- keyword-only defaults alone; ms: those that lack -/
theorem form_k (F : L2.FunD K x qual params body scope [] kws f fd) (ms : List (Str × V)) (hk : kws ≠ []) (hms : ∀ q ∈ ms, q ∈ kws) (hp : pmOk pm = true) (hd : dfls pm = ms.map (·.2))
    (h : ∀ (D : Addr) (doc pmo : Value) (an : Option Addr) (cdv ct : Value) (us ws mv : List Value), us.length = np → ws.length = ks.length → mv.length = ms.length → KwChain D ((ms.map (·.1)).zip mv) (bindArgs (PySem.W.fnOf x qual params body scope .none (.ref D) doc pmo an cdv ct) ⟨us, ks.zip ws⟩) (ps.zip (gPickD (us ++ ws) mv pm))) : FormOk K fd ps np ks pm := by
  obtain ⟨oc, od, dV, kV, doc, pmo, an, cdv, ct, osl, rfl, lk, hcd, hD, hK⟩ := F.ex
  rcases hD with ⟨_, rfl⟩ | ⟨e, _⟩
  · rcases hK with e | ⟨D, rfl, hq⟩
    · exact absurd e hk
    · obtain ⟨mv, hl, rk, hks⟩ := kwd_vals (ms := ms) fun q hm => hq q (hms q hm)
      exact ⟨hp, fun us ws => gPickD (us ++ ws) mv pm, fun s us ws X l1 l2 => BindsTo.of_looks fun M => KwChain.looks X hks (h D doc pmo an cdv ct us ws mv l1 l2 hl), fun vs us zs ws r1 r2 _ _ => pickD_Vals (r1.append r2) (by rw [hd]; exact rk)⟩
  · exact absurd rfl e
/-- positional defaults; js: the places of those that lack; every keyword-only parameter is given -/
theorem form_p (F : L2.FunD K x qual params body scope dvs kws f fd) (js : List Nat) (hv : dvs ≠ []) (hp : pmOk pm = true) (hd : dfls pm = js.map fun j => dvs.getD j .non)
    (h : ∀ (T : Addr) (kV doc pmo : Value) (an : Option Addr) (cdv ct : Value) (us ws its : List Value), us.length = np → ws.length = ks.length → its.length = dvs.length →
      ∃ k, bindArgs (PySem.W.fnOf x qual params body scope (.ref T) kV doc pmo an cdv ct) ⟨us, ks.zip ws⟩ = seqItems? (.ref T) >>= k ∧ k (some its.toArray) = pure (ps.zip (gPickD (us ++ ws) (js.map fun j => its.getD j .none) pm))) : FormOk K fd ps np ks pm := by
  obtain ⟨oc, od, dV, kV, doc, pmo, an, cdv, ct, osl, rfl, lk, hcd, hD, hK⟩ := F.ex
  rcases hD with ⟨e, _⟩ | ⟨_, T, o, its, m, rfl, lT, oT, rT⟩
  · exact absurd e hv
  · refine ⟨hp, fun us ws => gPickD (us ++ ws) (js.map fun j => its.getD j .none) pm, fun s us ws X l1 l2 => ?_, fun vs us zs ws r1 r2 _ _ => pickD_Vals (r1.append r2) (by rw [hd]; exact Vals.map_getD rT js)⟩
    obtain ⟨k, e1, e2⟩ := h T kV doc pmo an cdv ct us ws its l1 l2 rT.length.symm
    refine BindsTo.of_looks fun M => ?_
    rw [e1]
    exact looks_items X lT oT (.of_pure e2)
/-- both -/
theorem form_b (F : L2.FunD K x qual params body scope dvs kws f fd) (js : List Nat) (ms : List (Str × V)) (hv : dvs ≠ []) (hk : kws ≠ []) (hms : ∀ q ∈ ms, q ∈ kws) (hp : pmOk pm = true) (hd : dfls pm = (js.map fun j => dvs.getD j .non) ++ ms.map (·.2))
    (h : ∀ (T D : Addr) (doc pmo : Value) (an : Option Addr) (cdv ct : Value) (us ws its mv : List Value), us.length = np → ws.length = ks.length → its.length = dvs.length → mv.length = ms.length →
      ∃ k, bindArgs (PySem.W.fnOf x qual params body scope (.ref T) (.ref D) doc pmo an cdv ct) ⟨us, ks.zip ws⟩ = seqItems? (.ref T) >>= k ∧ KwChain D ((ms.map (·.1)).zip mv) (k (some its.toArray)) (ps.zip (gPickD (us ++ ws) ((js.map fun j => its.getD j .none) ++ mv) pm))) : FormOk K fd ps np ks pm := by
  obtain ⟨oc, od, dV, kV, doc, pmo, an, cdv, ct, osl, rfl, lk, hcd, hD, hK⟩ := F.ex
  rcases hD with ⟨e, _⟩ | ⟨_, T, o, its, m, rfl, lT, oT, rT⟩
  · exact absurd e hv
  · rcases hK with e | ⟨D, rfl, hq⟩
    · exact absurd e hk
    · obtain ⟨mv, hl, rk, hks⟩ := kwd_vals (ms := ms) fun q hm => hq q (hms q hm)
      refine ⟨hp, fun us ws => gPickD (us ++ ws) ((js.map fun j => its.getD j .none) ++ mv) pm, fun s us ws X l1 l2 => ?_, fun vs us zs ws r1 r2 _ _ => pickD_Vals (r1.append r2) (by rw [hd]; exact (Vals.map_getD rT js).append rk)⟩
      obtain ⟨k, e1, e2⟩ := h T D doc pmo an cdv ct us ws its mv l1 l2 rT.length.symm hl
      refine BindsTo.of_looks fun M => ?_
      rw [e1]
      exact looks_items X lT oT (KwChain.looks X hks e2)
end
/-! ### the walk -/
theorem walk_ofN {l : PySem.W.OpenLaw} {n k : Nat} {q : Program} {loose : List Str} {XP : (Str → Option Value) → Heap → Prop} {YP : World → Heap → Prop} {d : DefRec} {CX : World → CXT} {x : Str}
    (hn : l.most = some n) (hn2 : n ≤ sizeLine) (hdf : d.params.defaults = []) (hr : Room k callerA)
    (F : ∀ (w : World) (mg : Str → Option Value) (fa : Addr) (h : Heap), YP w h → h.Ns mainGlobals mg → mg d.name = some (.ref fa) →
      ∃ (K : PySem.W.Frag) (fd : FuncData) (sp : Sp), K.In h ∧ (∀ (s : Shared) (u : Value), BindsTo s fd ⟨[u], []⟩ [(x, u)]) ∧
        (∀ (H : Hp) (a : Addr) (ns : List Int), ns.length ≤ n → Only H → SqL K H a (ns.map V.int) → sp [.ref a] H (fun v _ => v = .bl true) fun _ _ _ => False) ∧
        ∀ base : Heap, K.In base → base.Ns mainGlobals mg → FnOk l.prog w K mg base (CX w) k fa fd [x] sp)
    (hCX : ∀ (w : World) (H : Hp) (s : Shared) (e : Value) (s' : Shared), CX w [] H s (fun _ _ _ => False) e s' → False) :
    PySem.W.WalkO q loose XP YP l.row.toRowW d [] (fun f vs => PySem.call f vs) := by
  refine Att.attach_call hn hdf fun w s₀ s₁ mg mb fa o pm cd doc a vs ns G Y ho hd hcd hmg hobj hints hlen hg => ?_
  obtain ⟨K, fd, sp, KX, hb, hsp, hF⟩ := F w mg fa _ Y G.T.g hmg
  exact law_call KX G.T.g G.T.b G.T.builtins G.T.nolimit hg hobj hints (Nat.le_trans hlen hn2) hr hF hb (fun H hO hS => hsp H a ns hlen hO hS) fun H e s' => hCX w H s₁ e s'
theorem RVs_ints {g : Pg} {r : Nat → Addr} {n : Nat} {H : Hp} : ∀ (ns : List Int), RVs g r n H (ns.map Va.int) (ns.map V.int)
  | [] => .nil
  | i :: ns => .cons (.int i) (RVs_ints ns)
def tbOf (items : List Item) (f : Nat) : Option Def := (items[f]?).map (·.D)
/-- everything of a law but its plain part -/
theorem law_end {l : PySem.W.OpenLaw} {n k j : Nat} {q : Program} {loose : List Str} {XP : (Str → Option Value) → Heap → Prop} {YP : World → Heap → Prop} {d : DefRec} {x : Str} {items : List Item} {T : Tab} {t : Item} {sub : Nat → Nat → Bool} {ca : PySem.W.Frag → Nat → Addr} {fdn : Nat → Str}
    (hn : l.most = some n) (hn2 : n ≤ sizeLine) (hdf : d.params.defaults = []) (hr : Room (k + 1) callerA)
    (hT : T.fns = items.map (·.I)) (hok : items.all (Item.ok T) = true) (hc : T.cons.all (fun p => (conFa p).isSome) = true)
    (hY : ∀ w h, YP w h → ∃ K : PySem.W.Frag, K.In h ∧ He.SaysD (tabFa T) (items.map Item.dd) K)
    (hforms : ∀ t ∈ items, ∀ (K : PySem.W.Frag) (f : Addr) (fd : FuncData), L2.FunD K t.I.name t.I.qual t.s.params t.s.body t.s.scope (t.dd.dvs K) (t.dd.kws K) f fd → ∀ p ∈ t.I.forms, FormOk K fd t.I.ps p.1 p.2.1 p.2.2)
    (hj : items[j]? = some t) (hname : t.I.name = d.name) (hps : t.I.ps = [x]) (hnp : t.I.np = 1) (hdf2 : t.dfl = []) (hkw2 : t.kwd = [])
    (hbind : ∀ (kV doc pm : Value) (an : Option Addr) (cdv ct : Value) (us : List Value), us.length = [x].length → bindArgs (PySem.W.fnOf t.I.name t.I.qual t.s.params t.s.body t.s.scope .none kV doc pm an cdv ct) ⟨us, []⟩ = pure ([x].zip us))
    (hspec : ∀ ns : List Int, ns.length ≤ n → ∃ h, callF (tbOf items) sub (conAt T) (k + 1) [] j [.kl (ns.map .int)] [] = .ok (.bl true) h) :
    PySem.W.WalkO q loose XP YP l.row.toRowW d [] (fun f vs => PySem.call f vs) := by
  refine walk_ofN (CX := fun w => L2.CX l.prog w) (x := x) hn hn2 hdf hr (fun w mg fa h Y G hmg => ?_) (fun w H s e s' c => ?_)
  · obtain ⟨K, KX, c⟩ := hY w h Y
    have dj : (items.map Item.dd)[j]? = some t.dd := by rw [List.getElem?_map, hj]; rfl
    obtain ⟨fdl, Fl⟩ := c.def_ j dj
    have Fl : L2.FunD K t.I.name t.I.qual t.s.params t.s.body t.s.scope [] [] (He.ga K t.I.name) fdl := by
      have z : L2.FunD K t.I.name t.I.qual t.s.params t.s.body t.s.scope (t.dfl.map (He.Dv.v K)) (t.kwd.map fun q => (q.1, q.2.v K)) (He.ga K t.I.name) fdl := Fl
      rw [hdf2, hkw2] at z
      exact z
    have hja : T.fns[j]? = some t.I := by rw [hT, List.getElem?_map, hj]; rfl
    have gl : ∀ {f : Nat} {I : FnI}, T.fns[f]? = some I → mg I.name = some (.ref (He.ga K I.name)) := fun {f I} e =>
      He.glo_ok KX G (fact_mem c (List.mem_append_left _ (List.mem_append_right _ (List.mem_map.mpr ⟨I, List.mem_of_getElem? e, rfl⟩))))
    have e0 : (some (Value.ref fa) : Option Value) = some (.ref (He.ga K t.I.name)) := by rw [← hmg, ← hname]; exact gl hja
    cases e0
    let g : Heap → Pg := fun base => ⟨l.prog, w, K, mg, base, fun i => He.ga K (((T.fns[i]?).map (·.name)).getD ""), ca K, fdn⟩
    have fns : ∀ base, FnsOk (g base) T (callF (tbOf items) sub (conAt T) k) k := fun base => by
      refine fns_ok (tab_ok (fn := items.map Item.dd) (h := h) c KX G hc) (fun f I e => ?_) k
      have hf : ∃ u : Item, items[f]? = some u ∧ u.I = I := by
        rw [hT, List.getElem?_map] at e
        cases q : items[f]? with
        | none => rw [q] at e; cases e
        | some u => rw [q] at e; exact ⟨u, rfl, Option.some.inj e⟩
      obtain ⟨u, hu, rfl⟩ := hf
      have ok := List.all_eq_true.mp hok u (List.mem_of_getElem? hu)
      unfold Item.ok at ok
      simp only [Bool.and_eq_true, beq_iff_eq] at ok
      obtain ⟨⟨⟨⟨o1, o2⟩, o3⟩, o4⟩, o5⟩ := ok
      have du : (items.map Item.dd)[f]? = some u.dd := by rw [List.getElem?_map, hu]; rfl
      obtain ⟨fdu, Fu⟩ := c.def_ f du
      have hfa : (g base).fa f = He.ga K u.I.name := by
        show He.ga K (((T.fns[f]?).map (·.name)).getD "") = _
        rw [e] <;> rfl
      refine ⟨⟨u.s, u.D, fdu, u.dd.dvs K, u.dd.kws K, by unfold tbOf; rw [hu]; rfl, o1, o2, o3, scB_ok o4, o5, ?_, hforms u (List.mem_of_getElem? hu) K _ fdu Fu⟩, ?_⟩
      · rw [hfa]
        exact Fu
      · rw [hfa]
        exact gl e
    have b := FunD.bindsA (ps := [x]) Fl hbind
    refine ⟨K, fdl, fun vs H Q E => ∃ (a : Addr) (ns : List Int), ns.length ≤ n ∧ vs = [.ref a] ∧ SqF K H a (ns.map V.int) ∧ ∀ H', Q (.bl true) H', KX, fun s v => b s [v] rfl, fun H a ns hl hO hS => ⟨a, ns, hl, rfl, ?_, fun _ => rfl⟩, fun base hK hbn => ?_⟩
    · rcases hS with hS | hS
      · rcases hO a with h0 | ⟨o, xs, h0⟩
        · rcases hS with hS | ⟨o, hS⟩
          · rw [h0] at hS; cases hS
          · rw [h0] at hS; cases hS
        · rcases hS with hS | ⟨o', hS⟩
          · rw [h0] at hS; cases hS
          · exact .inl ⟨o', hS⟩
      · exact .inr hS
    · have ok := List.all_eq_true.mp hok t (List.mem_of_getElem? hj)
      unfold Item.ok at ok
      simp only [Bool.and_eq_true, beq_iff_eq] at ok
      obtain ⟨⟨⟨⟨o1, o2⟩, o3⟩, o4⟩, o5⟩ := ok
      have hfa : (g base).fa j = He.ga K t.I.name := by
        show He.ga K (((T.fns[j]?).map (·.name)).getD "") = _
        rw [hja] <;> rfl
      have r := fn_step (g := g base) (f := j) (I := t.I) (s := t.s) (D := t.D) (fd := fdl) (dvs := []) (kws := []) (sub := sub) (tb := tbOf items) (tab_ok (g := g base) (fn := items.map Item.dd) (h := h) c KX G hc) (fns base) (by unfold tbOf; rw [hj]; rfl) o1 o2 o3 (scB_ok o4) o5 (by rw [hfa]; exact Fl)
      rw [hfa, hps, hnp] at r
      refine r.imp fun vs H Q E z => ?_
      obtain ⟨a, ns, hl, rfl, hS, hQ⟩ := z
      obtain ⟨h', e⟩ := hspec ns hl
      refine ⟨fun _ => 0, [], [], [.kl (ns.map .int)], ⟨⟨fun i j hi => absurd hi (Nat.not_lt_zero _), fun i o e => by cases e⟩, fun b hb => by cases hb⟩, .cons (.kl hS ?_ (RVs_ints ns)) .nil, rfl, ?_⟩
      · rw [List.length_map]
        exact Nat.le_trans hl hn2
      · rw [e]
        intro r1 H1 y _ _ rv
        cases rv
        exact hQ _
  · obtain ⟨a, B, H', cls, d, _, _, _, _, _, _, _, hE⟩ := c
    exact hE
end NL
end

section
namespace NL
open PySem

/-! ### the plain side: a run that ends well -/
def OkR {α : Type} (r : Res α) (Q : α → Hep → Prop) (E : Xc → Hep → Prop) : Prop := match r with
  | .ok a h => Q a h
  | .exc x h => E x h
  | .stuck => False
structure Ok {α : Type} (r : Res α) (Q : α → Hep → Prop) (E : Xc → Hep → Prop) : Prop where
  run : OkR r Q E
theorem Ok.eq {α : Type} {r : Res α} {Q : α → Hep → Prop} (h : Ok r Q fun _ _ => False) : ∃ a h', r = .ok a h' ∧ Q a h' := by
  cases r with
  | ok a h' => exact ⟨a, h', rfl, h.run⟩
  | exc x h' => exact h.run.elim
  | stuck => exact h.run.elim
theorem Ok.imp {α : Type} {r : Res α} {Q Q' : α → Hep → Prop} {E E' : Xc → Hep → Prop} (h : Ok r Q E) (k : ∀ a h', Q a h' → Q' a h') (kE : ∀ x h', E x h' → E' x h') : Ok r Q' E' := by
  cases r with
  | ok a h' => exact ⟨k _ _ h.run⟩
  | exc x h' => exact ⟨kE _ _ h.run⟩
  | stuck => exact h.run.elim
theorem Ok.bd {α β : Type} {r : Res α} {f : α → Hep → Res β} {Q : β → Hep → Prop} {E : Xc → Hep → Prop} (h : Ok r (fun a h => Ok (f a h) Q E) E) : Ok (r.bd f) Q E := by
  cases r with
  | ok a h' => exact h.run
  | exc x h' => exact ⟨h.run⟩
  | stuck => exact h.run.elim
theorem Ok.of {α : Type} {r : Res α} {a : α} {h : Hep} {Q : α → Hep → Prop} {E : Xc → Hep → Prop} (e : r = .ok a h) (q : Q a h) : Ok r Q E := by rw [e]; exact ⟨q⟩
/-- what is wanted of a statement -/
structure KO where
  nx : Env' → Hep → Prop
  rt : Va → Hep → Prop
  bk : Env' → Hep → Prop
  ct : Env' → Hep → Prop
  xc : Xc → Hep → Prop
def OkOR (o : Out) (K : KO) : Prop := match o with
  | .nx e h => K.nx e h
  | .rt v h => K.rt v h
  | .bk e h => K.bk e h
  | .ct e h => K.ct e h
  | .xc x _ h => K.xc x h
  | .stuck => False
structure OkO (o : Out) (K : KO) : Prop where
  run : OkOR o K
theorem OkO.to {α : Type} {r : Res α} {e : Env'} {f : α → Hep → Out} {K : KO} (h : Ok r (fun a h => OkO (f a h) K) K.xc) : OkO (r.to e f) K := by
  cases r with
  | ok a h' => exact h.run
  | exc x h' => exact ⟨h.run⟩
  | stuck => exact h.run.elim
theorem OkO.imp {o : Out} {K K' : KO} (h : OkO o K) (k1 : ∀ e h, K.nx e h → K'.nx e h) (k2 : ∀ v h, K.rt v h → K'.rt v h) (k3 : ∀ e h, K.bk e h → K'.bk e h) (k4 : ∀ e h, K.ct e h → K'.ct e h) (k5 : ∀ x h, K.xc x h → K'.xc x h) : OkO o K' := by
  cases o with
  | nx e h' => exact ⟨k1 _ _ h.run⟩
  | rt e h' => exact ⟨k2 _ _ h.run⟩
  | bk e h' => exact ⟨k3 _ _ h.run⟩
  | ct e h' => exact ⟨k4 _ _ h.run⟩
  | xc x e h' => exact ⟨k5 _ _ h.run⟩
  | stuck => exact h.run.elim
section
variable {C : Cfg} {bars : List Nat} {e : Env'} {h : Hep} {Q : Va → Hep → Prop} {E : Xc → Hep → Prop} {K : KO} {nx bk ct : Env' → Hep → Prop} {rt : Va → Hep → Prop} {xc : Xc → Hep → Prop}
/-! rules: expressions -/
theorem r_lit {v : Va} (q : Q v h) : Ok (ev C bars e (.lit v) h) Q E := ⟨q⟩
theorem r_var {i : Nat} {v : Va} (k : e[i]? = some (some v)) (q : Q v h) : Ok (ev C bars e (.var i) h) Q E := by
  unfold ev
  rw [k]
  exact ⟨q⟩
theorem r_con {i : Nat} {v : Va} (k : C.con i = v) (q : Q v h) : Ok (ev C bars e (.con i) h) Q E := by
  unfold ev
  rw [k]
  exact ⟨q⟩
theorem r_bin {o : Bo} {a b : Ex} (q : Ok (ev C bars e a h) (fun x h => Ok (ev C bars e b h) (fun y h => Ok (binV o x y h) Q E) E) E) : Ok (ev C bars e (.bin o a b) h) Q E := by
  unfold ev
  exact .bd (q.imp (fun x h q => .bd q) fun _ _ q => q)
theorem r_neg {a : Ex} (q : Ok (ev C bars e a h) (fun x h => Ok (negV x h) Q E) E) : Ok (ev C bars e (.neg a) h) Q E := by
  unfold ev
  exact .bd q
/-- a condition: a truth value -/
def Tr (Q : Bool → Hep → Prop) (v : Va) (h : Hep) : Prop := match v with
  | .bl b => Q b h
  | _ => False
theorem r_not {a : Ex} (q : Ok (ev C bars e a h) (Tr fun b h => Q (.bl (!b)) h) E) : Ok (ev C bars e (.not a) h) Q E := by
  unfold ev
  refine .bd (q.imp (fun x h q => ?_) fun _ _ q => q)
  cases x <;> first | exact ⟨q⟩ | exact q.elim
theorem r_and {a b : Ex} (q : Ok (ev C bars e a h) (Tr fun t h => (t = true → Ok (ev C bars e b h) Q E) ∧ (t = false → Q (.bl false) h)) E) : Ok (ev C bars e (.and a b) h) Q E := by
  unfold ev
  refine .bd (q.imp (fun x h q => ?_) fun _ _ q => q)
  cases x with
  | bl t => cases t with
    | true => exact q.1 rfl
    | false => exact ⟨q.2 rfl⟩
  | _ => exact q.elim
theorem r_or {a b : Ex} (q : Ok (ev C bars e a h) (Tr fun t h => (t = true → Q (.bl true) h) ∧ (t = false → Ok (ev C bars e b h) Q E)) E) : Ok (ev C bars e (.or a b) h) Q E := by
  unfold ev
  refine .bd (q.imp (fun x h q => ?_) fun _ _ q => q)
  cases x with
  | bl t => cases t with
    | true => exact ⟨q.1 rfl⟩
    | false => exact q.2 rfl
  | _ => exact q.elim
theorem r_ifx {c a b : Ex} (q : Ok (ev C bars e c h) (Tr fun t h => (t = true → Ok (ev C bars e a h) Q E) ∧ (t = false → Ok (ev C bars e b h) Q E)) E) : Ok (ev C bars e (.ifx c a b) h) Q E := by
  unfold ev
  refine .bd (q.imp (fun x h q => ?_) fun _ _ q => q)
  cases x with
  | bl t => cases t with
    | true => exact q.1 rfl
    | false => exact q.2 rfl
  | _ => exact q.elim
theorem r_cmp {o : Co} {a b : Ex} (q : Ok (ev C bars e a h) (fun x h => Ok (ev C bars e b h) (fun y h => Ok (cmpV o x y h) Q E) E) E) : Ok (ev C bars e (.cmp o a b) h) Q E := by
  unfold ev
  exact .bd (q.imp (fun x h q => .bd q) fun _ _ q => q)
theorem r_chn {o p : Co} {a b c : Ex} (q : Ok (ev C bars e a h) (fun x h => Ok (ev C bars e b h) (fun y h => Ok (cmpV o x y h) (Tr fun t h => (t = true → Ok (ev C bars e c h) (fun w h => Ok (cmpV p y w h) Q E) E) ∧ (t = false → Q (.bl false) h)) E) E) E) : Ok (ev C bars e (.chn o p a b c) h) Q E := by
  unfold ev
  refine .bd (q.imp (fun x h q => .bd (q.imp (fun y h q => .bd (q.imp (fun z h q => ?_) fun _ _ q => q)) fun _ _ q => q)) fun _ _ q => q)
  cases z with
  | bl t => cases t with
    | true => exact .bd (q.1 rfl)
    | false => exact ⟨q.2 rfl⟩
  | _ => exact q.elim
theorem r_tup {es : Exs} (q : Ok (evs C bars e es h) (fun l h => Ok (newT l h) Q E) E) : Ok (ev C bars e (.tup es) h) Q E := by
  unfold ev
  exact .bd q
theorem r_lst {es : Exs} (q : Ok (evs C bars e es h) (fun l h => Ok (newL l h) Q E) E) : Ok (ev C bars e (.lst es) h) Q E := by
  unfold ev
  exact .bd q
theorem r_sub {a i : Ex} (q : Ok (ev C bars e a h) (fun x h => Ok (ev C bars e i h) (fun y h => Ok (subV x y h) Q E) E) E) : Ok (ev C bars e (.sub a i) h) Q E := by
  unfold ev
  exact .bd (q.imp (fun x h q => .bd q) fun _ _ q => q)
theorem r_sli {a : Ex} {lo hi : Pt} (q : Ok (ev C bars e a h) (fun x h => Ok (evP C bars e lo h) (fun y h => Ok (evP C bars e hi h) (fun z h => Ok (sliV x y z h) Q E) E) E) E) : Ok (ev C bars e (.sli a lo hi) h) Q E := by
  unfold ev
  exact .bd (q.imp (fun x h q => .bd (q.imp (fun _ _ q => .bd q) fun _ _ q => q)) fun _ _ q => q)
theorem r_pno {Q : Option Int → Hep → Prop} (q : Q none h) : Ok (evP C bars e .no h) Q E := ⟨q⟩
theorem r_pex {a : Ex} {Q : Option Int → Hep → Prop} (q : Ok (ev C bars e a h) (fun x h => ∃ i, x = .int i ∧ Q (some i) h) E) : Ok (evP C bars e (.ex a) h) Q E := by
  unfold evP
  refine .bd (q.imp (fun x h q => ?_) fun _ _ q => q)
  obtain ⟨i, rfl, q⟩ := q
  exact ⟨q⟩
theorem r_isi {a : Ex} {ts : List Tq} (q : Ok (ev C bars e a h) (fun x h => ∃ b, isAny h C.sub x ts = some b ∧ Q (.bl b) h) E) : Ok (ev C bars e (.isi a ts) h) Q E := by
  unfold ev
  refine .bd (q.imp (fun x h q => ?_) fun _ _ q => q)
  obtain ⟨b, k, q⟩ := q
  show Ok (optR (isAny h C.sub x ts) h) Q E
  rw [k]
  exact ⟨q⟩
theorem r_call {f np n nk : Nat} {pm : List Pm} {es ks : Exs} (q : Ok (evs C bars e es h) (fun l h => Ok (evs C bars e ks h) (fun m h => Ok (callR C.call bars f np n nk pm l m h) Q E) E) E) : Ok (ev C bars e (.call f np n nk pm es ks) h) Q E := by
  unfold ev
  exact .bd (q.imp (fun x h q => .bd q) fun _ _ q => q)
theorem r_callR {F : CallT} {f np n nk : Nat} {pm : List Pm} {l m vs : List Va} (k1 : l.length = n) (k2 : m.length = nk) (k3 : pick' (l ++ m) pm = some vs) (k4 : vs.length = np) (q : Ok (F bars f vs h) Q E) : Ok (callR F bars f np n nk pm l m h) Q E := by
  unfold callR
  rw [if_pos ⟨k1, k2⟩, k3]
  dsimp only
  rw [if_pos k4]
  exact q
theorem r_blt {b : Bt} {es : Exs} (q : Ok (evs C bars e es h) (fun l h => Ok (bltV b l h) Q E) E) : Ok (ev C bars e (.blt b es) h) Q E := by
  unfold ev
  exact .bd q
theorem r_met {m : Mt} {o : Ex} {es : Exs} (q : Ok (ev C bars e o h) (fun x h => recOk h m x = true ∧ Ok (evs C bars e es h) (fun l h => Ok (metV bars m x l h) Q E) E) E) : Ok (ev C bars e (.met m o es) h) Q E := by
  unfold ev
  refine .bd (q.imp (fun x h q => ?_) fun _ _ q => q)
  rw [if_pos q.1]
  exact .bd q.2
theorem r_nil {Q : List Va → Hep → Prop} (q : Q [] h) : Ok (evs C bars e .nil h) Q E := ⟨q⟩
theorem r_cons {a : Ex} {r : Exs} {Q : List Va → Hep → Prop} (q : Ok (ev C bars e a h) (fun x h => Ok (evs C bars e r h) (fun l h => Q (x :: l) h) E) E) : Ok (evs C bars e (.cons a r) h) Q E := by
  unfold evs
  refine .bd (q.imp (fun x h q => .bd (q.imp (fun l h q => ?_) fun _ _ q => q)) fun _ _ q => q)
  exact ⟨q⟩
/-! rules: values -/
theorem v_add {a b : Int} (q : Q (.int (a + b)) h) : Ok (binV .add (.int a) (.int b) h) Q E := ⟨q⟩
theorem v_sub {a b : Int} (q : Q (.int (a - b)) h) : Ok (binV .sub (.int a) (.int b) h) Q E := ⟨q⟩
theorem v_mul {a b : Int} (k : (okI a || okI b) = true) (q : Q (.int (a * b)) h) : Ok (binV .mul (.int a) (.int b) h) Q E := by
  show Ok (if (okI a || okI b) then .ok (.int (a * b)) h else .stuck) Q E
  rw [if_pos k]
  exact ⟨q⟩
theorem v_mulR {a b : Int} (k : okI b = true) (q : Q (.int (a * b)) h) : Ok (binV .mul (.int a) (.int b) h) Q E := v_mul (by rw [k, Bool.or_true]) q
theorem v_mulL' {a b : Int} (k : okI a = true) (q : Q (.int (a * b)) h) : Ok (binV .mul (.int a) (.int b) h) Q E := v_mul (by rw [k, Bool.true_or]) q
theorem v_mod {a b : Int} (k : b ≠ 0) (q : Q (.int (a.fmod b)) h) : Ok (binV .mod (.int a) (.int b) h) Q E := by
  show Ok (if b = 0 then .stuck else .ok (.int (a.fmod b)) h) Q E
  rw [if_neg k]
  exact ⟨q⟩
theorem v_fdiv {a b : Int} (k : b ≠ 0 ∧ b.natAbs < 1073741824) (q : Q (.int (a.fdiv b)) h) : Ok (binV .fdiv (.int a) (.int b) h) Q E := by
  show Ok (if b ≠ 0 ∧ b.natAbs < 1073741824 then .ok (.int (a.fdiv b)) h else .stuck) Q E
  rw [if_pos k]
  exact ⟨q⟩
theorem v_pow {a b : Int} (k : 0 ≤ b ∧ b ≤ 1000 ∧ a.natAbs < 2 ^ 64) (q : Q (.int (a ^ b.toNat)) h) : Ok (binV .pow (.int a) (.int b) h) Q E := by
  show Ok (if 0 ≤ b ∧ b ≤ 1000 ∧ a.natAbs < 2 ^ 64 then .ok (.int (a ^ b.toNat)) h else .stuck) Q E
  rw [if_pos k]
  exact ⟨q⟩
theorem v_cat {a b : List Nat} (k : (a ++ b).length ≤ line) (q : Q (.str (a ++ b)) h) : Ok (binV .add (.str a) (.str b) h) Q E := by
  show Ok (newS (a ++ b) h) Q E
  unfold newS
  rw [if_pos k]
  exact ⟨q⟩
theorem lsAt_get {a : Nat} {l : List Va} (k : lsAt h a = some l) : h[a]? = some (.lst l) := by
  unfold lsAt at k
  split at k
  · rename_i l' e'
    rw [e', Option.some.inj k]
  · cases k
theorem lsAt_of {a : Nat} {l : List Va} (k : h[a]? = some (.lst l)) : lsAt h a = some l := by
  unfold lsAt
  rw [k]
theorem v_catL {a b : Nat} {l m : List Va} (k1 : lsAt h a = some l) (k2 : lsAt h b = some m) (k : (l ++ m).length ≤ line) (q : Q (.ref h.length) (h ++ [.lst (l ++ m)])) : Ok (binV .add (.ref a) (.ref b) h) Q E := by
  have e1 := lsAt_get k1
  have e2 := lsAt_get k2
  show Ok (match h[a]?, h[b]? with
    | some (.lst l), some (.lst m) => newL (l ++ m) h
    | _, _ => .stuck) Q E
  rw [e1, e2]
  show Ok (if (l ++ m).length ≤ line then _ else _) Q E
  rw [if_pos k]
  exact ⟨q⟩
theorem v_mulL {a : Nat} {b : Int} {l : List Va} (k1 : lsAt h a = some l) (k : (okI b && decide (l.length * b.toNat ≤ line)) = true) (k2 : (List.replicate b.toNat l).flatten.length ≤ line) (q : Q (.ref h.length) (h ++ [.lst (List.replicate b.toNat l).flatten])) : Ok (binV .mul (.ref a) (.int b) h) Q E := by
  have e1 := lsAt_get k1
  show Ok (match h[a]? with
    | some (.lst l) => if okI b && decide (l.length * b.toNat ≤ line) then newL (List.replicate b.toNat l).flatten h else .stuck
    | _ => .stuck) Q E
  rw [e1]
  dsimp only
  rw [if_pos k]
  unfold newL
  rw [if_pos k2]
  exact ⟨q⟩
theorem v_lt {a b : Int} (q : Q (.bl (decide (a < b))) h) : Ok (cmpV .lt (.int a) (.int b) h) Q E := ⟨q⟩
theorem v_le {a b : Int} (q : Q (.bl (decide (a ≤ b))) h) : Ok (cmpV .le (.int a) (.int b) h) Q E := ⟨q⟩
theorem v_gt {a b : Int} (q : Q (.bl (decide (b < a))) h) : Ok (cmpV .gt (.int a) (.int b) h) Q E := ⟨q⟩
theorem v_ge {a b : Int} (q : Q (.bl (decide (b ≤ a))) h) : Ok (cmpV .ge (.int a) (.int b) h) Q E := ⟨q⟩
theorem v_eq {a b : Va} {t : Bool} (k : eqS h a b = some t) (q : Q (.bl t) h) : Ok (cmpV .eq a b h) Q E := by
  show Ok (optR (eqS h a b) h) Q E
  rw [k]
  exact ⟨q⟩
theorem v_ne {a b : Va} {t : Bool} (k : eqS h a b = some t) (q : Q (.bl (!t)) h) : Ok (cmpV .ne a b h) Q E := by
  show Ok (optR (notO (eqS h a b)) h) Q E
  rw [k]
  exact ⟨q⟩
theorem v_is {a : Va} (q : Q (.bl (isNon a)) h) : Ok (cmpV .is a .non h) Q E := ⟨q⟩
theorem v_isN (q : Q (.bl true) h) : Ok (cmpV .is .non .non h) Q E := ⟨q⟩
theorem v_isI {i : Int} (q : Q (.bl false) h) : Ok (cmpV .is (.int i) .non h) Q E := ⟨q⟩
theorem v_isB {i : Bool} (q : Q (.bl false) h) : Ok (cmpV .is (.bl i) .non h) Q E := ⟨q⟩
theorem v_isS {i : List Nat} (q : Q (.bl false) h) : Ok (cmpV .is (.str i) .non h) Q E := ⟨q⟩
theorem v_isR {i : Nat} (q : Q (.bl false) h) : Ok (cmpV .is (.ref i) .non h) Q E := ⟨q⟩
theorem v_isT {i : List Va} (q : Q (.bl false) h) : Ok (cmpV .is (.tup i) .non h) Q E := ⟨q⟩
theorem v_inN (q : Q (.bl false) h) : Ok (cmpV .isn .non .non h) Q E := ⟨q⟩
theorem v_inI {i : Int} (q : Q (.bl true) h) : Ok (cmpV .isn (.int i) .non h) Q E := ⟨q⟩
theorem v_inB {i : Bool} (q : Q (.bl true) h) : Ok (cmpV .isn (.bl i) .non h) Q E := ⟨q⟩
theorem v_inS {i : List Nat} (q : Q (.bl true) h) : Ok (cmpV .isn (.str i) .non h) Q E := ⟨q⟩
theorem v_inR {i : Nat} (q : Q (.bl true) h) : Ok (cmpV .isn (.ref i) .non h) Q E := ⟨q⟩
theorem v_inT {i : List Va} (q : Q (.bl true) h) : Ok (cmpV .isn (.tup i) .non h) Q E := ⟨q⟩
theorem v_isn {a : Va} (q : Q (.bl (!isNon a)) h) : Ok (cmpV .isn a .non h) Q E := ⟨q⟩
theorem v_in {a b : Va} {t : Bool} (k : inO h a b = some t) (q : Q (.bl t) h) : Ok (cmpV .isin a b h) Q E := by
  show Ok (optR (inO h a b) h) Q E
  rw [k]
  exact ⟨q⟩
theorem v_nin {a b : Va} {t : Bool} (k : inO h a b = some t) (q : Q (.bl (!t)) h) : Ok (cmpV .nin a b h) Q E := by
  show Ok (optR (notO (inO h a b)) h) Q E
  rw [k]
  exact ⟨q⟩
theorem v_subL {a : Nat} {i : Int} {k : Nat} {l : List Va} {v : Va} (k1 : lsAt h a = some l) (k2 : ixOf l.length i = some k) (k3 : l[k]? = some v) (q : Q v h) : Ok (subV (.ref a) (.int i) h) Q E := by
  show Ok (match lsAt h a with
    | some l => (match (ixOf l.length i).bind (l[·]?) with
      | some v => .ok v h
      | none => .stuck)
    | none => .stuck) Q E
  rw [k1]
  dsimp only
  rw [k2, Option.bind_some, k3]
  exact ⟨q⟩
theorem v_subL0 {a : Nat} {v : Va} {l : List Va} (k1 : lsAt h a = some (v :: l)) (q : Q v h) : Ok (subV (.ref a) (.int 0) h) Q E := v_subL k1 (k := 0) (by unfold ixOf L2.ixN; rw [if_pos (by decide), if_pos (by rw [List.length_cons]; omega)]; rfl) rfl q
theorem v_subL1 {a : Nat} {v v0 : Va} {l : List Va} (k1 : lsAt h a = some (v0 :: v :: l)) (q : Q v h) : Ok (subV (.ref a) (.int 1) h) Q E := v_subL k1 (k := 1) (by unfold ixOf L2.ixN; rw [if_pos (by decide), if_pos (by rw [List.length_cons, List.length_cons]; omega)]; rfl) rfl q
theorem v_subL2 {a : Nat} {v v0 v1 : Va} {l : List Va} (k1 : lsAt h a = some (v0 :: v1 :: v :: l)) (q : Q v h) : Ok (subV (.ref a) (.int 2) h) Q E := v_subL k1 (k := 2) (by unfold ixOf L2.ixN; rw [if_pos (by decide), if_pos (by rw [List.length_cons, List.length_cons, List.length_cons]; omega)]; rfl) rfl q
theorem v_subL3 {a : Nat} {v v0 v1 v2 : Va} {l : List Va} (k1 : lsAt h a = some (v0 :: v1 :: v2 :: v :: l)) (q : Q v h) : Ok (subV (.ref a) (.int 3) h) Q E := v_subL k1 (k := 3) (by unfold ixOf L2.ixN; rw [if_pos (by decide), if_pos (by rw [List.length_cons, List.length_cons, List.length_cons, List.length_cons]; omega)]; rfl) rfl q
theorem v_subT {i : Int} {k : Nat} {l : List Va} {v : Va} (k2 : ixOf l.length i = some k) (k3 : l[k]? = some v) (q : Q v h) : Ok (subV (.tup l) (.int i) h) Q E := by
  show Ok (match (ixOf l.length i).bind (l[·]?) with
      | some v => .ok v h
      | none => .stuck) Q E
  rw [k2, Option.bind_some, k3]
  exact ⟨q⟩
theorem v_subS {i : Int} {k : Nat} {l : List Nat} {v : Nat} (k2 : ixOf l.length i = some k) (k3 : l[k]? = some v) (q : Q (.str [v]) h) : Ok (subV (.str l) (.int i) h) Q E := by
  show Ok (match (ixOf l.length i).bind (l[·]?) with
      | some c => .ok (.str [c]) h
      | none => .stuck) Q E
  rw [k2, Option.bind_some, k3]
  exact ⟨q⟩
theorem v_lenL {a : Nat} {l : List Va} (k1 : lsAt h a = some l) (q : Q (.int l.length) h) : Ok (bltV .len [.ref a] h) Q E := by
  show Ok (match lsAt h a with
    | some l => .ok (.int l.length) h
    | none => .stuck) Q E
  rw [k1]
  exact ⟨q⟩
theorem v_lenS {s : List Nat} (q : Q (.int s.length) h) : Ok (bltV .len [.str s] h) Q E := ⟨q⟩
theorem v_lenT {s : List Va} (q : Q (.int s.length) h) : Ok (bltV .len [.tup s] h) Q E := ⟨q⟩
theorem v_abs {i : Int} (q : Q (.int (if i < 0 then -i else i)) h) : Ok (bltV .abs [.int i] h) Q E := ⟨q⟩
theorem v_int {i : Int} (q : Q (.int i) h) : Ok (bltV .int [.int i] h) Q E := ⟨q⟩
theorem v_all {a : Nat} {l : List Va} {t : List Bool} (k1 : lsAt h a = some l) (k2 : bools l = some t) (q : Q (.bl (t.all id)) h) : Ok (bltV .all [.ref a] h) Q E := by
  show Ok (match (lsAt h a).bind bools with
    | some l => .ok (.bl (l.all id)) h
    | none => .stuck) Q E
  rw [k1, Option.bind_some, k2]
  exact ⟨q⟩
theorem v_listL {a : Nat} {l : List Va} (k1 : lsAt h a = some l) (q : Q (.ref h.length) (h ++ [.lst l])) : Ok (bltV .list [.ref a] h) Q E := by
  show Ok (match lsAt h a with
    | some l => mkO (.lst l) h
    | none => .stuck) Q E
  rw [k1]
  exact ⟨q⟩
theorem v_listS {s : List Nat} (q : Q (.ref h.length) (h ++ [.lst (s.map fun c => .str [c])])) : Ok (bltV .list [.str s] h) Q E := ⟨q⟩
theorem v_listT {l : List Va} (q : Q (.ref h.length) (h ++ [.lst l])) : Ok (bltV .list [.tup l] h) Q E := ⟨q⟩
theorem v_newL {l : List Va} (k : l.length ≤ line) (q : Q (.ref h.length) (h ++ [.lst l])) : Ok (newL l h) Q E := by
  unfold newL
  rw [if_pos k]
  exact ⟨q⟩
theorem v_newT {l : List Va} (k : l.length ≤ line) (q : Q (.tup l) h) : Ok (newT l h) Q E := by
  unfold newT
  rw [if_pos k]
  exact ⟨q⟩
theorem v_sliK {l : List Va} {lo hi : Option Int} (q : Q (.ref h.length) (h ++ [.lst (sliL l lo hi)])) : Ok (sliV (.kl l) lo hi h) Q E := ⟨q⟩
theorem v_sliS {l : List Nat} {lo hi : Option Int} (q : Q (.str (sliL l lo hi)) h) : Ok (sliV (.str l) lo hi h) Q E := ⟨q⟩
theorem v_sliT {l : List Va} {lo hi : Option Int} (q : Q (.tup (sliL l lo hi)) h) : Ok (sliV (.tup l) lo hi h) Q E := ⟨q⟩
theorem v_join {s : List Nat} {a : Nat} {l : List Va} {ts : List (List Nat)} (k1 : lsAt h a = some l) (k2 : texts l = some ts) (k3 : (joinS s ts).length ≤ line) (q : Q (.str (joinS s ts)) h) : Ok (metV bars .join (.str s) [.ref a] h) Q E := by
  show Ok (match (lsAt h a).bind texts with
    | some ts => newS (joinS s ts) h
    | none => .stuck) Q E
  rw [k1, Option.bind_some, k2]
  show Ok (if (joinS s ts).length ≤ line then _ else _) Q E
  rw [if_pos k3]
  exact ⟨q⟩
theorem c_t {b : Bool} {A B : Prop} (hb : b = true) (a : A) : (b = true → A) ∧ (b = false → B) := ⟨fun _ => a, fun z => by rw [hb] at z; cases z⟩
theorem c_f {b : Bool} {A B : Prop} (hb : b = false) (a : B) : (b = true → A) ∧ (b = false → B) := ⟨fun z => absurd (hb.symm.trans z) (by decide), fun _ => a⟩
theorem ty_ref {a : Nat} {l : List Va} (k : lsAt h a = some l) : tyOf h (.ref a) = some .list := by
  have e := lsAt_get k
  show (match h[a]? with
    | some (.lst _) => some Ty.list
    | some (.dic _) => some .dict
    | _ => none) = _
  rw [e]
def noCls (ts : List Tq) : Bool := ts.all fun q => match q with
  | .cls _ => false
  | _ => true
theorem any_ref {a : Nat} {l : List Va} {sub : Nat → Nat → Bool} (k : lsAt h a = some l) : ∀ {ts : List Tq}, noCls ts = true → isAny h sub (.ref a) ts = some (ts.any (· == .list))
  | [], _ => rfl
  | q :: ts, hq => by
    unfold noCls at hq
    rw [List.all_cons, Bool.and_eq_true] at hq
    have e : isQ h sub (.ref a) q = some (q == .list) := by
      unfold isQ
      rw [ty_ref k]
      cases q <;> first | rfl | cases hq.1
    unfold isAny
    rw [e, any_ref k hq.2]
    rfl
theorem isi_ref {a : Nat} {l : List Va} {sub : Nat → Nat → Bool} {ts : List Tq} {P : Bool → Prop} (k : lsAt h a = some l) (hq : noCls ts = true) (q : P (ts.any (· == .list))) : ∃ b, isAny h sub (.ref a) ts = some b ∧ P b := ⟨_, any_ref k hq, q⟩
theorem x_int {i : Int} {P : Int → Prop} (q : P i) : ∃ j : Int, Va.int i = .int j ∧ P j := ⟨i, rfl, q⟩
theorem isi_v {v : Va} {b : Bool} {sub : Nat → Nat → Bool} {ts : List Tq} {P : Bool → Prop} (k : isAny h sub v ts = some b) (q : P b) : ∃ b, isAny h sub v ts = some b ∧ P b := ⟨b, k, q⟩
/-! rules: targets, statements -/
def OkT (r : Option (Env' × Hep)) (Q : Env' → Hep → Prop) : Prop := match r with
  | some (e, h) => Q e h
  | none => False
theorem t_name {i : Nat} {v : Va} {Q : Env' → Hep → Prop} (q : Q (e.set i (some v)) h) : OkT (evT C bars (.name i) v e h) Q := q
theorem t_sub {o i : Ex} {v : Va} {Q : Env' → Hep → Prop} (q : Ok (ev C bars e o h) (fun x h => Ok (ev C bars e i h) (fun y h => ∃ h', setV bars x y v h = some h' ∧ Q e h') fun _ _ => False) fun _ _ => False) : OkT (evT C bars (.sub o i) v e h) Q := by
  obtain ⟨x, h1, e1, q⟩ := q.eq
  obtain ⟨y, h2, e2, h3, e3, q⟩ := q.eq
  unfold evT
  rw [e1]
  dsimp only
  rw [e2]
  dsimp only
  rw [e3]
  exact q
theorem t_tup {ts : Tgs} {l : List Va} {Q : Env' → Hep → Prop} (q : OkT (evTs C bars ts l e h) Q) : OkT (evT C bars (.tup ts) (.tup l) e h) Q := q
theorem t_nil {Q : Env' → Hep → Prop} (q : Q e h) : OkT (evTs C bars .nil [] e h) Q := q
theorem t_cons {t : Tg} {r : Tgs} {v : Va} {l : List Va} {Q : Env' → Hep → Prop} (q : OkT (evT C bars t v e h) fun e h => OkT (evTs C bars r l e h) Q) : OkT (evTs C bars (.cons t r) (v :: l) e h) Q := by
  unfold evTs
  cases m : evT C bars t v e h with
  | none => rw [m] at q; exact q.elim
  | some p => rw [m] at q; exact q
theorem s_asg {t : Tg} {a : Ex} (q : Ok (ev C bars e a h) (fun v h => OkT (evT C bars t v e h) nx) xc) : OkO (ex C bars (.set t a) e h) ⟨nx, rt, bk, ct, xc⟩ := by
  unfold ex
  refine .to (q.imp (fun v h q => ?_) fun _ _ q => q)
  cases m : evT C bars t v e h with
  | none => rw [m] at q; exact q.elim
  | some p => rw [m] at q; exact ⟨q⟩
theorem s_prs {i j : Nat} {a b : Ex} (q : Ok (ev C bars e a h) (fun x h => Ok (ev C bars e b h) (fun y h => nx ((e.set i (some x)).set j (some y)) h) xc) xc) : OkO (ex C bars (.par i j a b) e h) ⟨nx, rt, bk, ct, xc⟩ := by
  unfold ex
  exact .to (q.imp (fun v h q => .to (q.imp (fun _ _ q => ⟨q⟩) fun _ _ q => q)) fun _ _ q => q)
theorem s_rtn {a : Ex} (q : Ok (ev C bars e a h) rt xc) : OkO (ex C bars (.ret a) e h) ⟨nx, rt, bk, ct, xc⟩ := by
  unfold ex
  exact .to (q.imp (fun _ _ q => ⟨q⟩) fun _ _ q => q)
theorem s_iff {c : Ex} {t f : Sms} (q : Ok (ev C bars e c h) (Tr fun b h => (b = true → OkO (exs C bars t e h) ⟨nx, rt, bk, ct, xc⟩) ∧ (b = false → OkO (exs C bars f e h) ⟨nx, rt, bk, ct, xc⟩)) xc) : OkO (ex C bars (.ifs c t f) e h) ⟨nx, rt, bk, ct, xc⟩ := by
  unfold ex
  refine .to (q.imp (fun x h q => ?_) fun _ _ q => q)
  cases x with
  | bl t => cases t with
    | true => exact q.1 rfl
    | false => exact q.2 rfl
  | _ => exact q.elim
theorem s_exq {a : Ex} (q : Ok (ev C bars e a h) (fun _ h => nx e h) xc) : OkO (ex C bars (.ex a) e h) ⟨nx, rt, bk, ct, xc⟩ := by
  unfold ex
  exact .to (q.imp (fun _ _ q => ⟨q⟩) fun _ _ q => q)
theorem s_pss (q : nx e h) : OkO (ex C bars .pas e h) ⟨nx, rt, bk, ct, xc⟩ := ⟨q⟩
theorem s_brq (q : bk e h) : OkO (ex C bars .brk e h) ⟨nx, rt, bk, ct, xc⟩ := ⟨q⟩
theorem s_cnq (q : ct e h) : OkO (ex C bars .cnt e h) ⟨nx, rt, bk, ct, xc⟩ := ⟨q⟩
theorem s_nil (q : nx e h) : OkO (exs C bars .nil e h) ⟨nx, rt, bk, ct, xc⟩ := ⟨q⟩
theorem s_cons {s : Sm} {r : Sms} (q : OkO (ex C bars s e h) ⟨fun e h => OkO (exs C bars r e h) ⟨nx, rt, bk, ct, xc⟩, rt, bk, ct, xc⟩) : OkO (exs C bars (.cons s r) e h) ⟨nx, rt, bk, ct, xc⟩ := by
  unfold exs
  cases m : ex C bars s e h with
  | nx e' h' => rw [m] at q; exact q.run
  | _ => rw [m] at q; exact ⟨q.run⟩
theorem v_set {a : Nat} {i : Int} {k : Nat} {l : List Va} {v : Va} {Q : Hep → Prop} (k1 : lsAt h a = some l) (k2 : ixOf l.length i = some k) (k3 : wallOk bars a (.lst (l.set k v)) = true) (q : Q (h.set a (.lst (l.set k v)))) : ∃ h', setV bars (.ref a) (.int i) v h = some h' ∧ Q h' := by
  refine ⟨_, ?_, q⟩
  have e1 := lsAt_get k1
  show (match h[a]? with
    | some (.lst l) => (match ixOf l.length i with
      | some k => putO bars a (.lst (l.set k v)) h
      | none => none)
    | _ => none) = _
  rw [e1]
  dsimp only
  rw [k2]
  dsimp only
  unfold putO
  rw [if_pos k3]
theorem v_set2 {o : Ob} {a : Nat} {i : Int} {k : Nat} {l : List Va} {v : Va} {Q : Hep → Prop} (k1 : lsAt (h.set a o) a = some l) (k2 : ixOf l.length i = some k) (k3 : wallOk bars a (.lst (l.set k v)) = true) (q : Q (h.set a (.lst (l.set k v)))) : ∃ h', setV bars (.ref a) (.int i) v (h.set a o) = some h' ∧ Q h' := by
  refine v_set k1 k2 k3 ?_
  rw [List.set_set]
  exact q
theorem ls_set {a : Nat} {l : List Va} (k : a < h.length) : lsAt (h.set a (.lst l)) a = some l := lsAt_of (by rw [List.getElem?_set_self k])
theorem ls_ne {a b : Nat} {m : List Va} {o : Ob} (k : a ≠ b) (q : lsAt h b = some m) : lsAt (h.set a o) b = some m := by
  have e := lsAt_get q
  exact lsAt_of (by rw [List.getElem?_set_ne k, e])
theorem ls_old {a : Nat} {m : List Va} {o : Ob} (q : lsAt h a = some m) : lsAt (h ++ [o]) a = some m := by
  have e := lsAt_get q
  exact lsAt_of (by rw [List.getElem?_append_left (List.getElem?_eq_some_iff.mp e).1, e])
theorem ls_new {l : List Va} : lsAt (h ++ [.lst l]) h.length = some l := lsAt_of (by rw [List.getElem?_append_right (Nat.le_refl _), Nat.sub_self]; rfl)
/-! calls -/
theorem c_def {tb : Nat → Option Def} {sub : Nat → Nat → Bool} {con : Nat → Va} {f d : Nat} {l : List Va} {D : Def} (k1 : tb f = some D) (k2 : l.length = D.np) (k3 : D.tidy = true)
    (q : Ok (tidyR h.length (endO (exs ⟨callF tb sub con d, sub, con⟩ (h.length :: bars) D.body (D.start l) h))) Q E) : Ok (callF tb sub con (d + 1) bars f l h) Q E := by
  unfold callF
  rw [k1]
  dsimp only
  rw [if_pos k2, if_pos k3]
  exact q
/-- a def that answers with a flat value -/
theorem c_flat {o : Out} (q : OkO o ⟨fun _ h' => Q .non (h'.take h.length), fun v h' => v.bel h.length = true ∧ Q v (h'.take h.length), fun _ _ => False, fun _ _ => False, fun x h' => E x h' ∧ False⟩) : Ok (tidyR h.length (endO o)) Q E := by
  cases o with
  | nx e h' => exact ⟨q.run⟩
  | rt v h' =>
    show Ok (tidyR h.length (.ok v h')) Q E
    unfold tidyR
    dsimp only
    rw [if_pos q.run.1]
    exact ⟨q.run.2⟩
  | xc x e h' => exact q.run.2.elim
  | bk e h' => exact q.run.elim
  | ct e h' => exact q.run.elim
  | stuck => exact q.run.elim
/-- a def that answers with a new object of flat things, or one of old ones -/
theorem c_new {o : Out} (q : OkO o ⟨fun _ h' => False, fun v h' => ∃ a o, v = .ref a ∧ h.length ≤ a ∧ h'[a]? = some o ∧ o.bel h.length = true ∧ Q (.ref h.length) (h'.take h.length ++ [o]), fun _ _ => False, fun _ _ => False, fun x h' => False⟩) : Ok (tidyR h.length (endO o)) Q E := by
  cases o with
  | nx e h' => exact q.run.elim
  | rt v h' =>
    obtain ⟨⟨a, o, rfl, k1, k2, k3, q⟩⟩ := q
    show Ok (tidyR h.length (.ok (.ref a) h')) Q E
    unfold tidyR
    dsimp only
    rw [if_neg (by show ¬ (decide (a < h.length) = true); rw [decide_eq_true_eq]; omega)]
    rw [k2]
    dsimp only
    rw [if_pos k3]
    exact ⟨q⟩
  | xc x e h' => exact q.run.elim
  | bk e h' => exact q.run.elim
  | ct e h' => exact q.run.elim
  | stuck => exact q.run.elim
/-- .. with a new object that holds new ones -/
theorem c_deep {o : Out} (q : OkO o ⟨fun _ h' => False, fun v h' => ∃ a o, v = .ref a ∧ h.length ≤ a ∧ h'[a]? = some o ∧ o.bel h.length = false ∧ Q v h', fun _ _ => False, fun _ _ => False, fun x h' => False⟩) : Ok (tidyR h.length (endO o)) Q E := by
  cases o with
  | nx e h' => exact q.run.elim
  | rt v h' =>
    obtain ⟨⟨a, o, rfl, k1, k2, k3, q⟩⟩ := q
    show Ok (tidyR h.length (.ok (.ref a) h')) Q E
    unfold tidyR
    dsimp only
    rw [if_neg (by show ¬ (decide (a < h.length) = true); rw [decide_eq_true_eq]; omega)]
    rw [k2]
    dsimp only
    rw [if_neg (by rw [k3]; decide)]
    exact ⟨q⟩
  | xc x e h' => exact q.run.elim
  | bk e h' => exact q.run.elim
  | ct e h' => exact q.run.elim
  | stuck => exact q.run.elim
/-! loops -/
theorem l_vals {f : Va → Env' → Hep → Out} (I : Nat → Env' → Hep → Prop) : ∀ (vs : List Va) (j : Nat) (e : Env') (h : Hep), I j e h → (∀ (i : Nat) (v : Va) (e : Env') (h : Hep), vs[i]? = some v → I (j + i) e h → OkO (f v e h) ⟨I (j + i + 1), rt, nx, I (j + i + 1), xc⟩) → (∀ e h, I (j + vs.length) e h → nx e h) → OkO (forV f vs e h) ⟨nx, rt, bk, ct, xc⟩
  | [], j, e, h, q, _, k => ⟨k e h q⟩
  | v :: vs, j, e, h, q, s, k => by
    have s0 := s 0 v e h rfl q
    have rc : ∀ e' h', I (j + 0 + 1) e' h' → OkO (forV f vs e' h') ⟨nx, rt, bk, ct, xc⟩ := fun e' h' q' => l_vals I vs (j + 0 + 1) e' h' q' (fun i v e h ei qi => by
      have := s (i + 1) v e h ei (by rw [show j + (i + 1) = j + 0 + 1 + i by omega]; exact qi)
      rw [show j + (i + 1) + 1 = j + 0 + 1 + i + 1 by omega] at this
      exact this) fun e h qn => k e h (by rw [List.length_cons, show j + (vs.length + 1) = j + 0 + 1 + vs.length by omega]; exact qn)
    unfold forV
    cases m : f v e h with
    | nx e' h' => rw [m] at s0; exact rc e' h' s0.run
    | ct e' h' => rw [m] at s0; exact rc e' h' s0.run
    | bk e' h' => rw [m] at s0; exact ⟨s0.run⟩
    | rt v' h' => rw [m] at s0; exact ⟨s0.run⟩
    | xc x e' h' => rw [m] at s0; exact ⟨s0.run⟩
    | stuck => rw [m] at s0; exact s0.run.elim
/-- a loop over values (a range, a tuple, a text) -/
theorem s_forV {t : Tg} {s : It} {b : Sms} {vs : List Va} (I : Nat → Env' → Hep → Prop) (es : Ok (evI C bars e s h) (fun s h => s = .vals vs ∧ I 0 e h) xc)
    (st : ∀ (i : Nat) (v : Va) (e : Env') (h : Hep), vs[i]? = some v → I i e h → OkT (evT C bars t v e h) fun e h => OkO (exs C bars b e h) ⟨I (i + 1), rt, nx, I (i + 1), xc⟩) (k : ∀ e h, I vs.length e h → nx e h) : OkO (ex C bars (.for t s b) e h) ⟨nx, rt, bk, ct, xc⟩ := by
  unfold ex
  refine .to (es.imp (fun x h1 q => ?_) fun _ _ q => q)
  obtain ⟨rfl, q⟩ := q
  show OkO (forV _ vs e h1) ⟨nx, rt, bk, ct, xc⟩
  refine l_vals I vs 0 e h1 q (fun i v e h ei qi => ?_) (fun e h qn => k e h (by rw [Nat.zero_add] at qn; exact qn))
  rw [Nat.zero_add] at qi ⊢
  have z := st i v e h ei qi
  cases m : evT C bars t v e h with
  | none => rw [m] at z; exact z.elim
  | some p => rw [m] at z; exact z
inductive R2 (P : Va → Va → Prop) : List Va → List Va → Prop
  | nil : R2 P [] []
  | cons {a b : Va} {l m : List Va} : P a b → R2 P l m → R2 P (a :: l) (b :: m)
theorem R2.length {P : Va → Va → Prop} {l m : List Va} (h : R2 P l m) : m.length = l.length := by
  induction h with
  | nil => rfl
  | cons _ _ ih => rw [List.length_cons, List.length_cons, ih]
theorem R2.all {P : Va → Va → Prop} {R : Va → Prop} {l m : List Va} (h : R2 P l m) (k : ∀ a b, P a b → R b) : ∀ b ∈ m, R b := by
  induction h with
  | nil => exact fun b hb => by cases hb
  | cons a _ ih =>
    intro b hb
    rcases List.mem_cons.mp hb with rfl | hb
    · exact k _ _ a
    · exact ih b hb
theorem R2.map {f : Va → Va} {P : Va → Va → Prop} {l m : List Va} (h : R2 P l m) (k : ∀ a b, P a b → b = f a) : m = l.map f := by
  induction h with
  | nil => rfl
  | cons a _ ih => rw [List.map_cons, ih, k _ _ a]
theorem m_vals {f : Va → List Va → Hep → Res (List Va)} (J : Hep → Prop) {P : Va → Va → Prop} {Q : List Va → Hep → Prop} : ∀ (vs acc : List Va) (h : Hep), acc.length + vs.length ≤ line → J h → (∀ (v : Va) (acc : List Va) (h : Hep), v ∈ vs → acc.length < line → J h → ∃ y h', f v acc h = .ok (acc ++ [y]) h' ∧ P v y ∧ J h') → (∀ ys h, R2 P vs ys → J h → Q (acc ++ ys) h) → Ok (mapV f vs acc h) Q E
  | [], acc, h, _, q, _, k => by
    have := k [] h .nil q
    rw [List.append_nil] at this
    exact ⟨this⟩
  | v :: vs, acc, h, hl, q, s, k => by
    rw [List.length_cons] at hl
    obtain ⟨y, h', e1, p1, q1⟩ := s v acc h (List.mem_cons_self ..) (by omega) q
    unfold mapV
    rw [e1]
    exact m_vals J vs (acc ++ [y]) h' (by rw [List.length_append, List.length_singleton]; omega) q1 (fun v a h hv => s v a h (List.mem_cons_of_mem _ hv)) fun ys h r q => by
      rw [List.append_assoc]
      exact k (y :: ys) h (.cons p1 r) q
theorem m_live {f : Va → List Va → Hep → Res (List Va)} (J : Hep → Prop) {P : Va → Va → Prop} {Q : List Va → Hep → Prop} {a : Nat} {l : List Va} (hJ : ∀ h, J h → lsAt h a = some l) : ∀ (n i : Nat) (acc : List Va) (h : Hep), i + n = l.length → acc.length + n ≤ line → J h → (∀ (v : Va) (acc : List Va) (h : Hep), v ∈ l → acc.length < line → J h → ∃ y h', f v acc h = .ok (acc ++ [y]) h' ∧ P v y ∧ J h') → (∀ ys h, R2 P (l.drop i) ys → J h → Q (acc ++ ys) h) → Ok (mapL f a n i acc h) Q E
  | 0, i, acc, h, hn, _, q, _, k => by
    have := k [] h (by rw [List.drop_eq_nil_of_le (by omega)]; exact .nil) q
    rw [List.append_nil] at this
    unfold mapL
    rw [hJ h q]
    dsimp only
    rw [if_pos (by omega)]
    exact ⟨this⟩
  | n + 1, i, acc, h, hn, hl, q, s, k => by
    have hi : i < l.length := by omega
    obtain ⟨y, h', e1, p1, q1⟩ := s l[i] acc h (List.getElem_mem hi) (by omega) q
    unfold mapL
    rw [hJ h q]
    dsimp only
    rw [List.getElem?_eq_getElem hi]
    dsimp only
    rw [e1]
    exact m_live J hJ n (i + 1) (acc ++ [y]) h' (by omega) (by rw [List.length_append, List.length_singleton]; omega) q1 s fun ys h r q => by
      rw [List.append_assoc]
      refine k (y :: ys) h ?_ q
      rw [List.drop_eq_getElem_cons hi]
      exact .cons p1 r
theorem comp_body {i : Nat} {own : List Nat} {el : Ex} {J : Hep → Prop} {P : Va → Va → Prop} {v : Va} {acc : List Va} {h : Hep} (ha : acc.length < line) (s : Ok (ev C bars ((wipe' e own).set i (some v)) el h) (fun y h' => P v y ∧ J h') fun _ _ => False) :
    ∃ y h', (match evT C bars (.name i) v (wipe' e own) h with
      | some (e', h) => (ev C bars e' (.lit (.bl true)) h).bd fun x h => (match x with
        | .bl true => (ev C bars e' el h).bd fun y h => if acc.length < line then .ok (acc ++ [y]) h else .stuck
        | .bl false => .ok acc h
        | _ => .stuck)
      | none => (.stuck : Res (List Va))) = .ok (acc ++ [y]) h' ∧ P v y ∧ J h' := by
  obtain ⟨y, h', e1, q1, q2⟩ := s.eq
  refine ⟨y, h', ?_, q1, q2⟩
  show ((ev C bars ((wipe' e own).set i (some v)) el h).bd fun y h => if acc.length < line then .ok (acc ++ [y]) h else .stuck) = _
  rw [e1]
  show (if acc.length < line then _ else _) = _
  rw [if_pos ha]
/-- a comprehension without if, over values -/
theorem r_compV {i : Nat} {own : List Nat} {s : It} {el : Ex} {vs : List Va} (J : Hep → Prop) (P : Va → Va → Prop) (es : Ok (evI C bars e s h) (fun s h => s = .vals vs ∧ J h) E) (hl : vs.length ≤ line)
    (st : ∀ v ∈ vs, ∀ h, J h → Ok (ev C bars ((wipe' e own).set i (some v)) el h) (fun y h' => P v y ∧ J h') fun _ _ => False) (k : ∀ ys h, R2 P vs ys → J h → Q (.ref h.length) (h ++ [.lst ys])) : Ok (ev C bars e (.comp el (.name i) s (.lit (.bl true)) own) h) Q E := by
  unfold ev
  refine .bd (es.imp (fun x h1 q => ?_) fun _ _ q => q)
  obtain ⟨rfl, q⟩ := q
  refine .bd ?_
  show Ok (mapV _ vs [] h1) _ _
  exact m_vals J vs [] h1 (by rw [List.length_nil]; omega) q (fun v acc h hv ha q => comp_body ha (st v hv h q)) fun ys h r q => ⟨k ys h r q⟩
/-- .. over a list -/
theorem r_compL {i : Nat} {own : List Nat} {s : It} {el : Ex} {a : Nat} {l : List Va} (J : Hep → Prop) (P : Va → Va → Prop) (hJ : ∀ h, J h → lsAt h a = some l) (es : Ok (evI C bars e s h) (fun s h => s = .live a l.length ∧ J h) E) (hl : l.length ≤ line)
    (st : ∀ v ∈ l, ∀ h, J h → Ok (ev C bars ((wipe' e own).set i (some v)) el h) (fun y h' => P v y ∧ J h') fun _ _ => False) (k : ∀ ys h, R2 P l ys → J h → Q (.ref h.length) (h ++ [.lst ys])) : Ok (ev C bars e (.comp el (.name i) s (.lit (.bl true)) own) h) Q E := by
  unfold ev
  refine .bd (es.imp (fun x h1 q => ?_) fun _ _ q => q)
  obtain ⟨rfl, q⟩ := q
  refine .bd ?_
  show Ok (mapL _ a l.length 0 [] h1) _ _
  exact m_live J hJ l.length 0 [] h1 (by omega) (by rw [List.length_nil]; omega) q (fun v acc h hv ha q => comp_body ha (st v hv h q)) fun ys h r q => ⟨k ys h r q⟩
theorem q_seq {a : Ex} {Q : Src → Hep → Prop} (q : Ok (ev C bars e a h) (fun x h => (∃ a l, x = .ref a ∧ lsAt h a = some l ∧ Q (.live a l.length) h) ∨ (∃ l, x = .tup l ∧ Q (.vals l) h) ∨ ∃ s, x = .str s ∧ Q (.vals (s.map fun c => .str [c])) h) E) : Ok (evI C bars e (.seq a) h) Q E := by
  unfold evI
  refine .bd (q.imp (fun x h q => ?_) fun _ _ q => q)
  rcases q with ⟨a, l, rfl, k, q⟩ | ⟨l, rfl, q⟩ | ⟨s, rfl, q⟩
  · show Ok (match lsAt h a with
      | some l => .ok (.live a l.length) h
      | none => .stuck) Q E
    rw [k]
    exact ⟨q⟩
  · exact ⟨q⟩
  · exact ⟨q⟩
theorem q_ran1 {a : Ex} {Q : Src → Hep → Prop} (q : Ok (ev C bars e a h) (fun x h => ∃ j : Int, x = .int j ∧ okI j = true ∧ Q (.vals (rangeL 0 j.toNat)) h) E) : Ok (evI C bars e (.ran1 a) h) Q E := by
  unfold evI
  refine .bd (q.imp (fun x h q => ?_) fun _ _ q => q)
  obtain ⟨j, rfl, k, q⟩ := q
  show Ok (if okI j then _ else _) Q E
  rw [if_pos k]
  exact ⟨q⟩
end
end NL
end

section
namespace NL
open PySem

theorem tr_bl {Q : Bool → Hep → Prop} {b : Bool} {h : Hep} (q : Q b h) : Tr Q (.bl b) h := q
theorem eq_int {h : Hep} {a b : Int} : eqS h (.int a) (.int b) = some (decide (a = b)) := by
  unfold eqS toD
  simp [PyData.eqv]
  rfl
theorem eq_bl {h : Hep} {a b : Bool} : eqS h (.bl a) (.bl b) = some (a == b) := by
  unfold eqS toD
  cases a <;> cases b <;> simp [PyData.eqv]
theorem eq_str {h : Hep} {a b : List Nat} : eqS h (.str a) (.str b) = some (a == b) := by
  unfold eqS toD
  simp [PyData.eqv]
  exact S_beq a b
local macro_rules | `(tactic| fail) => `(tactic| first
  | (with_reducible apply s_cons) | (with_reducible apply s_nil) | (with_reducible apply s_asg) | (with_reducible apply s_prs) | (with_reducible apply s_rtn) | (with_reducible apply s_iff) | (with_reducible apply s_exq) | (with_reducible apply s_pss) | (with_reducible apply s_brq) | (with_reducible apply s_cnq)
  | (with_reducible apply t_name) | (with_reducible apply t_sub) | (with_reducible apply t_tup) | (with_reducible apply t_nil) | (with_reducible apply t_cons)
  | (with_reducible apply r_lit) | ((with_reducible apply r_var); exact rfl) | (with_reducible apply r_bin) | (with_reducible apply r_neg) | (with_reducible apply r_not) | (with_reducible apply r_and) | (with_reducible apply r_or) | (with_reducible apply r_ifx) | (with_reducible apply r_cmp) | (with_reducible apply r_chn) | (with_reducible apply r_tup) | (with_reducible apply r_lst) | (with_reducible apply r_sub) | (with_reducible apply r_sli) | (with_reducible apply r_pno) | (with_reducible apply r_pex) | (with_reducible apply r_call) | (with_reducible apply r_blt) | (with_reducible apply r_nil) | (with_reducible apply r_cons)
  | ((with_reducible apply r_callR); exact rfl; exact rfl; exact rfl; exact rfl)
  | (with_reducible apply v_add) | (with_reducible apply v_sub) | (with_reducible apply v_lt) | (with_reducible apply v_le) | (with_reducible apply v_gt) | (with_reducible apply v_ge) | (with_reducible apply v_lenS) | (with_reducible apply v_lenT) | (with_reducible apply v_abs) | (with_reducible apply v_int) | (with_reducible apply v_listS) | (with_reducible apply v_listT) | (with_reducible apply v_sliK) | (with_reducible apply v_sliS) | (with_reducible apply v_sliT) | (with_reducible apply v_isN) | (with_reducible apply v_isI) | (with_reducible apply v_isB) | (with_reducible apply v_isS) | (with_reducible apply v_isR) | (with_reducible apply v_isT) | (with_reducible apply v_inN) | (with_reducible apply v_inI) | (with_reducible apply v_inB) | (with_reducible apply v_inS) | (with_reducible apply v_inR) | (with_reducible apply v_inT) | ((with_reducible apply v_mulR); decide) | ((with_reducible apply v_mulL'); decide) | ((with_reducible apply v_mod); decide) | ((with_reducible apply v_pow); decide)
  | ((with_reducible apply v_eq); exact eq_int) | ((with_reducible apply v_ne); exact eq_int) | ((with_reducible apply v_eq); exact eq_bl) | ((with_reducible apply v_ne); exact eq_bl) | ((with_reducible apply v_eq); exact eq_str) | ((with_reducible apply v_ne); exact eq_str)
  | ((with_reducible apply v_newL); (simp only [List.length_cons, List.length_nil, line] <;> omega)) | ((with_reducible apply v_newT); (simp only [List.length_cons, List.length_nil, line] <;> omega))
  | ((with_reducible apply v_subL0); (first | (with_reducible assumption) | (with_reducible exact ls_new) | (with_reducible exact ls_set (by assumption)) | (with_reducible exact ls_old (by with_reducible assumption)) | (with_reducible exact ls_ne (by assumption) (by with_reducible assumption))))
  | ((with_reducible apply v_subL1); (first | (with_reducible assumption) | (with_reducible exact ls_new) | (with_reducible exact ls_set (by assumption)) | (with_reducible exact ls_old (by with_reducible assumption)) | (with_reducible exact ls_ne (by assumption) (by with_reducible assumption))))
  | ((with_reducible apply v_subL2); (first | (with_reducible assumption) | (with_reducible exact ls_new) | (with_reducible exact ls_set (by assumption)) | (with_reducible exact ls_old (by with_reducible assumption)) | (with_reducible exact ls_ne (by assumption) (by with_reducible assumption))))
  | ((with_reducible apply v_subL3); (first | (with_reducible assumption) | (with_reducible exact ls_new) | (with_reducible exact ls_set (by assumption)) | (with_reducible exact ls_old (by with_reducible assumption)) | (with_reducible exact ls_ne (by assumption) (by with_reducible assumption))))
  | ((with_reducible apply v_lenL); (first | (with_reducible assumption) | (with_reducible exact ls_new) | (with_reducible exact ls_set (by assumption)) | (with_reducible exact ls_old (by with_reducible assumption)) | (with_reducible exact ls_ne (by assumption) (by with_reducible assumption))))
  | ((with_reducible apply v_listL); (first | (with_reducible assumption) | (with_reducible exact ls_new) | (with_reducible exact ls_set (by assumption)) | (with_reducible exact ls_old (by with_reducible assumption)) | (with_reducible exact ls_ne (by assumption) (by with_reducible assumption))))
  | (with_reducible apply r_isi) | ((with_reducible apply c_t); decide) | ((with_reducible apply c_f); decide)
  | ((with_reducible apply isi_ref); (first | (with_reducible assumption) | (with_reducible exact ls_new) | (with_reducible exact ls_old (by with_reducible assumption))); exact rfl)
  | (with_reducible apply tr_bl) | (with_reducible apply x_int) | ((with_reducible apply isi_v); exact rfl))

/-! ### the drawing bag -/
/-- the bag at b: the cells, the next one's place, the rest of a great cell, the mixed number -/
structure BagIs (h : Hep) (b c : Nat) (ns : List Int) (i g m : Int) : Prop where
  at_ : lsAt h b = some [.ref c, .int i, .int g, .int m]
  cells : lsAt h c = some (ns.map .int)
  lt : c < b
  i0 : 0 ≤ i
  g0 : 0 ≤ g
  m0 : 0 ≤ m
  m1 : m < 2147483648
def Bag (h : Hep) (b : Nat) : Prop := ∃ c ns i g m, BagIs h b c ns i g m
/-- nothing but the bag is another -/
structure Upd (b : Nat) (h h' : Hep) : Prop where
  len : h'.length = h.length
  ne : ∀ i, i ≠ b → h'[i]? = h[i]?
  bag : Bag h' b
theorem lsAt_lt {h : Hep} {a : Nat} {l : List Va} (k : lsAt h a = some l) : a < h.length := (List.getElem?_eq_some_iff.mp (lsAt_get k)).1
theorem BagIs.set {h : Hep} {b c : Nat} {ns : List Int} {i g m i' g' m' : Int} (B : BagIs h b c ns i g m) (h1 : 0 ≤ i') (h2 : 0 ≤ g') (h3 : 0 ≤ m') (h4 : m' < 2147483648) : BagIs (h.set b (.lst [.ref c, .int i', .int g', .int m'])) b c ns i' g' m' :=
  ⟨ls_set (lsAt_lt B.at_), ls_ne (Nat.ne_of_gt B.lt) B.cells, B.lt, h1, h2, h3, h4⟩
theorem BagIs.upd {h : Hep} {b c : Nat} {ns : List Int} {i g m i' g' m' : Int} (B : BagIs h b c ns i g m) (h1 : 0 ≤ i') (h2 : 0 ≤ g') (h3 : 0 ≤ m') (h4 : m' < 2147483648) : Upd b h (h.set b (.lst [.ref c, .int i', .int g', .int m'])) :=
  ⟨List.length_set, fun j hj => List.getElem?_set_ne (Ne.symm hj), c, ns, i', g', m', B.set h1 h2 h3 h4⟩
theorem wall_bag {bars : List Nat} {b c : Nat} {i g m : Int} (hc : c < b) : wallOk bars b (.lst [.ref c, .int i, .int g, .int m]) = true := by
  unfold wallOk
  rw [List.all_eq_true]
  intro x _
  rw [Bool.or_eq_true, decide_eq_true_eq]
  by_cases z : x ≤ b
  · exact .inl z
  · refine .inr ?_
    simp [Ob.bel, Va.bel]
    omega
def drawTail : Sms := (.cons (.ifs (.cmp .gt (.sub (.var 0) (.lit (.int 2))) (.lit (.int 0))) (.cons (.set (.name 3) (.bin .mod (.blt .int (.cons (.sub (.var 0) (.lit (.int 2))) .nil)) (.var 1))) (.cons (.set (.sub (.var 0) (.lit (.int 2))) (.bin .fdiv (.sub (.var 0) (.lit (.int 2))) (.var 1))) (.cons (.ret (.var 3)) .nil))) .nil) (.cons (.set (.sub (.var 0) (.lit (.int 3))) (.bin .mod (.blt .int (.cons (.bin .add (.bin .add (.bin .mul (.bin .mul (.sub (.var 0) (.lit (.int 3))) (.sub (.var 0) (.lit (.int 3)))) (.lit (.int 3))) (.bin .mul (.sub (.var 0) (.lit (.int 3))) (.lit (.int 30011)))) (.lit (.int 1500007))) .nil)) (.lit (.int 2147483549)))) (.cons (.ret (.bin .mod (.blt .int (.cons (.bin .fdiv (.sub (.var 0) (.lit (.int 3))) (.lit (.int 32))) .nil)) (.var 1))) .nil)))
def bodyDraw : Sms := (.cons (.ifs (.and (.cmp .eq (.sub (.var 0) (.lit (.int 2))) (.lit (.int 0))) (.cmp .lt (.sub (.var 0) (.lit (.int 1))) (.blt .len (.cons (.sub (.var 0) (.lit (.int 0))) .nil)))) (.cons (.set (.name 2) (.sub (.sub (.var 0) (.lit (.int 0))) (.sub (.var 0) (.lit (.int 1))))) (.cons (.set (.sub (.var 0) (.lit (.int 1))) (.bin .add (.sub (.var 0) (.lit (.int 1))) (.lit (.int 1)))) (.cons (.ifs (.cmp .ge (.blt .abs (.cons (.var 2) .nil)) (.bin .pow (.lit (.int 10)) (.lit (.int 18)))) (.cons (.set (.sub (.var 0) (.lit (.int 2))) (.blt .abs (.cons (.var 2) .nil))) .nil) (.cons (.set (.sub (.var 0) (.lit (.int 3))) (.bin .mod (.blt .int (.cons (.bin .add (.bin .add (.bin .mul (.sub (.var 0) (.lit (.int 3))) (.lit (.int 39373))) (.bin .mul (.bin .mod (.blt .int (.cons (.var 2) .nil)) (.lit (.int 1000033))) (.lit (.int 811)))) (.lit (.int 41))) .nil)) (.lit (.int 2147483563)))) .nil)) .nil))) .nil) drawTail)
def bodyBag : Sms := (.cons (.set (.name 1) (.blt .list (.cons (.sli (.var 0) .no (.ex (.lit (.int 63)))) .nil))) (.cons (.ret (.lst (.cons (.var 1) (.cons (.lit (.int 0)) (.cons (.lit (.int 0)) (.cons (.bin .add (.lit (.int 4919)) (.bin .mul (.lit (.int 7)) (.blt .len (.cons (.var 1) .nil)))) .nil)))))) .nil))
def bodyPick (f : Nat) : Sms := (.cons (.ret (.sub (.var 1) (.call f 2 2 0 [.arg 0, .arg 1] (.cons (.var 0) (.cons (.blt .len (.cons (.var 1) .nil)) .nil)) .nil))) .nil)
theorem fmod_lo {a b : Int} (h : 0 < b) : 0 ≤ a.fmod b := Int.fmod_nonneg_of_pos a h
theorem fmod_hi {a b : Int} (h : 0 < b) : a.fmod b < b := Int.fmod_lt_of_pos a h
theorem take_set {h : Hep} {b n : Nat} {o : Ob} (e : n = h.length) : (h.set b o).take n = h.set b o := List.take_of_length_le (by rw [List.length_set]; omega)
theorem ix_nat {n : Nat} {i : Int} (h0 : 0 ≤ i) (h1 : i < n) : ixOf n i = some i.toNat := by
  unfold ixOf L2.ixN
  rw [if_pos h0, if_pos h1]
section
variable {bars : List Nat} {h : Hep} {b c : Nat} {i g m x : Int} {Q : Hep → Prop} (hc : c < b) (e : lsAt h b = some [.ref c, .int i, .int g, .int m])
include hc e
theorem b_set1 (q : Q (h.set b (.lst [.ref c, .int x, .int g, .int m]))) : ∃ h', setV bars (.ref b) (.int 1) (.int x) h = some h' ∧ Q h' := v_set (k := 1) e rfl (wall_bag (i := x) (g := g) (m := m) hc) q
theorem b_set2 (q : Q (h.set b (.lst [.ref c, .int i, .int x, .int m]))) : ∃ h', setV bars (.ref b) (.int 2) (.int x) h = some h' ∧ Q h' := v_set (k := 2) e rfl (wall_bag (i := i) (g := x) (m := m) hc) q
theorem b_set3 (q : Q (h.set b (.lst [.ref c, .int i, .int g, .int x]))) : ∃ h', setV bars (.ref b) (.int 3) (.int x) h = some h' ∧ Q h' := v_set (k := 3) e rfl (wall_bag (i := i) (g := g) (m := x) hc) q
end
section
variable {tb : Nat → Option Def} {sub : Nat → Nat → Bool} {con : Nat → Va} {E : Xc → Hep → Prop}
theorem tail_ok {C : Cfg} {bars : List Nat} {nx bk ct : Env' → Hep → Prop} {rt : Va → Hep → Prop} {xc : Xc → Hep → Prop} {h : Hep} {b c : Nat} {ns : List Int} {i g m n : Int} {x : Option Va} (B : BagIs h b c ns i g m) (n1 : 1 ≤ n) (n2 : n < 1073741824)
    (q : ∀ (r i' g' m' : Int), 0 ≤ r → r < n → 0 ≤ i' → 0 ≤ g' → 0 ≤ m' → m' < 2147483648 → rt (.int r) (h.set b (.lst [.ref c, .int i', .int g', .int m']))) : OkO (exs C bars drawTail [some (.ref b), some (.int n), x, none] h) ⟨nx, rt, bk, ct, xc⟩ := by
  have e1 := B.at_
  have e2 := B.cells
  have g0 := B.g0
  have m0 := B.m0
  have m1 := B.m1
  have hb := lsAt_lt e1
  unfold drawTail
  repeat fail
  refine ⟨fun hg => ?_, fun hg => ?_⟩
  · have hg := of_decide_eq_true hg
    repeat fail
    refine v_mod (by omega) ?_
    repeat fail
    refine v_fdiv ⟨by omega, by omega⟩ ?_
    repeat fail
    refine b_set2 B.lt e1 ?_
    repeat fail
    exact q _ _ _ _ (fmod_lo (by omega)) (fmod_hi (by omega)) B.i0 (Int.fdiv_nonneg g0 (by omega)) m0 m1
  · repeat fail
    refine v_mulR ?_ ?_
    · unfold okI; rw [Bool.and_eq_true, decide_eq_true_eq, decide_eq_true_eq]; omega
    repeat fail
    refine b_set3 B.lt e1 ?_
    repeat fail
    refine v_fdiv ⟨by decide, by decide⟩ ?_
    repeat fail
    refine v_mod (by omega) ?_
    exact q _ _ _ _ (fmod_lo (by omega)) (fmod_hi (by omega)) B.i0 g0 (fmod_lo (by omega)) (Int.lt_trans (fmod_hi (by omega)) (by omega))
theorem draw_ok {fi d : Nat} {bars : List Nat} {h : Hep} {b : Nat} {n : Int} {Q : Va → Hep → Prop} (ht : tb fi = some ⟨2, 4, true, bodyDraw⟩) (B : Bag h b) (n1 : 1 ≤ n) (n2 : n < 1073741824)
    (q : ∀ (r : Int) (h' : Hep), 0 ≤ r → r < n → Upd b h h' → Q (.int r) h') : Ok (callF tb sub con (d + 1) bars fi [.ref b, .int n] h) Q E := by
  obtain ⟨c, ns, i, g, m, B⟩ := B
  refine c_def ht rfl rfl (c_flat ?_)
  have e1 := B.at_
  have e2 := B.cells
  have i0 := B.i0
  have g0 := B.g0
  have m0 := B.m0
  have m1 := B.m1
  show OkO (exs _ _ bodyDraw [some (.ref b), some (.int n), none, none] h) _
  unfold bodyDraw
  have fin : ∀ {r i' g' m' : Int}, 0 ≤ r → r < n → 0 ≤ i' → 0 ≤ g' → 0 ≤ m' → m' < 2147483648 → (Va.int r).bel h.length = true ∧ Q (.int r) ((h.set b (.lst [.ref c, .int i', .int g', .int m'])).take h.length) := fun h1 h2 h3 h4 h5 h6 => by
    refine ⟨rfl, ?_⟩
    rw [take_set rfl]
    exact q _ _ h1 h2 (B.upd h3 h4 h5 h6)
  have rest : ∀ {x : Option Va}, OkO (exs ⟨callF tb sub con d, sub, con⟩ (h.length :: bars) drawTail [some (.ref b), some (.int n), x, none] h) ⟨fun _ h' => Q .non (h'.take h.length), fun v h' => v.bel h.length = true ∧ Q v (h'.take h.length), fun _ _ => False, fun _ _ => False, fun x h' => E x h' ∧ False⟩ := fun {x} =>
    tail_ok B n1 n2 fun r i' g' m' h1 h2 h3 h4 h5 h6 => fin h1 h2 h3 h4 h5 h6
  have rest2 : ∀ {x : Option Va} {i' g' m' : Int}, 0 ≤ i' → 0 ≤ g' → 0 ≤ m' → m' < 2147483648 → OkO (exs ⟨callF tb sub con d, sub, con⟩ (h.length :: bars) drawTail [some (.ref b), some (.int n), x, none] (h.set b (.lst [.ref c, .int i', .int g', .int m']))) ⟨fun _ h' => Q .non (h'.take h.length), fun v h' => v.bel h.length = true ∧ Q v (h'.take h.length), fun _ _ => False, fun _ _ => False, fun x h' => E x h' ∧ False⟩ := fun {x i' g' m'} k1 k2 k3 k4 =>
    tail_ok (B.set k1 k2 k3 k4) n1 n2 fun r i' g' m' h1 h2 h3 h4 h5 h6 => by
      rw [List.set_set]
      exact fin h1 h2 h3 h4 h5 h6
  repeat fail
  refine ⟨fun hg => ?_, fun hg => ?_⟩
  · repeat fail
    refine ⟨fun hi => ?_, fun hi => ?_⟩
    · have hi := of_decide_eq_true hi
      repeat fail
      rw [List.length_map] at hi
      have hlt : i.toNat < ns.length := by omega
      refine v_subL (l := ns.map .int) (k := i.toNat) (v := .int ns[i.toNat]) e2 (ix_nat i0 (by rw [List.length_map]; exact hi)) (by rw [List.getElem?_map, List.getElem?_eq_getElem hlt]; rfl) ?_
      generalize ns[i.toNat] = z
      repeat fail
      refine b_set1 B.lt e1 ?_
      have B1 := B.set (i' := i + 1) (g' := g) (m' := m) (by omega) g0 m0 m1
      have e3 := B1.at_
      repeat fail
      refine ⟨fun hz => ?_, fun hz => ?_⟩
      · repeat fail
        refine b_set2 B.lt e3 ?_
        rw [List.set_set]
        repeat fail
        exact rest2 (by omega) (by split <;> omega) m0 m1
      · repeat fail
        refine b_set3 B.lt e3 ?_
        rw [List.set_set]
        repeat fail
        exact rest2 (by omega) g0 (fmod_lo (by omega)) (Int.lt_trans (fmod_hi (by omega)) (by omega))
    · repeat fail
      exact rest
  · repeat fail
    exact rest
end
end NL
end

section
namespace NL
open PySem
local macro_rules | `(tactic| fail) => `(tactic| first
  | (with_reducible apply s_cons) | (with_reducible apply s_nil) | (with_reducible apply s_asg) | (with_reducible apply s_prs) | (with_reducible apply s_rtn) | (with_reducible apply s_iff) | (with_reducible apply s_exq) | (with_reducible apply s_pss) | (with_reducible apply s_brq) | (with_reducible apply s_cnq)
  | (with_reducible apply t_name) | (with_reducible apply t_sub) | (with_reducible apply t_tup) | (with_reducible apply t_nil) | (with_reducible apply t_cons)
  | (with_reducible apply r_lit) | ((with_reducible apply r_var); exact rfl) | (with_reducible apply r_bin) | (with_reducible apply r_neg) | (with_reducible apply r_not) | (with_reducible apply r_and) | (with_reducible apply r_or) | (with_reducible apply r_ifx) | (with_reducible apply r_cmp) | (with_reducible apply r_chn) | (with_reducible apply r_tup) | (with_reducible apply r_lst) | (with_reducible apply r_sub) | (with_reducible apply r_sli) | (with_reducible apply r_pno) | (with_reducible apply r_pex) | (with_reducible apply r_call) | (with_reducible apply r_blt) | (with_reducible apply r_nil) | (with_reducible apply r_cons)
  | ((with_reducible apply r_callR); exact rfl; exact rfl; exact rfl; exact rfl)
  | (with_reducible apply v_add) | (with_reducible apply v_sub) | (with_reducible apply v_lt) | (with_reducible apply v_le) | (with_reducible apply v_gt) | (with_reducible apply v_ge) | (with_reducible apply v_lenS) | (with_reducible apply v_lenT) | (with_reducible apply v_abs) | (with_reducible apply v_int) | (with_reducible apply v_listS) | (with_reducible apply v_listT) | (with_reducible apply v_sliK) | (with_reducible apply v_sliS) | (with_reducible apply v_sliT) | (with_reducible apply v_isN) | (with_reducible apply v_isI) | (with_reducible apply v_isB) | (with_reducible apply v_isS) | (with_reducible apply v_isR) | (with_reducible apply v_isT) | (with_reducible apply v_inN) | (with_reducible apply v_inI) | (with_reducible apply v_inB) | (with_reducible apply v_inS) | (with_reducible apply v_inR) | (with_reducible apply v_inT) | ((with_reducible apply v_mulR); decide) | ((with_reducible apply v_mulL'); decide) | ((with_reducible apply v_mod); decide) | ((with_reducible apply v_pow); decide)
  | ((with_reducible apply v_eq); exact eq_int) | ((with_reducible apply v_ne); exact eq_int) | ((with_reducible apply v_eq); exact eq_bl) | ((with_reducible apply v_ne); exact eq_bl) | ((with_reducible apply v_eq); exact eq_str) | ((with_reducible apply v_ne); exact eq_str)
  | ((with_reducible apply v_newL); (simp only [List.length_cons, List.length_nil, line] <;> omega)) | ((with_reducible apply v_newT); (simp only [List.length_cons, List.length_nil, line] <;> omega))
  | ((with_reducible apply v_subL0); (first | (with_reducible assumption) | (with_reducible exact ls_new) | (with_reducible exact ls_set (by assumption)) | (with_reducible exact ls_old (by with_reducible assumption)) | (with_reducible exact ls_ne (by assumption) (by with_reducible assumption))))
  | ((with_reducible apply v_subL1); (first | (with_reducible assumption) | (with_reducible exact ls_new) | (with_reducible exact ls_set (by assumption)) | (with_reducible exact ls_old (by with_reducible assumption)) | (with_reducible exact ls_ne (by assumption) (by with_reducible assumption))))
  | ((with_reducible apply v_subL2); (first | (with_reducible assumption) | (with_reducible exact ls_new) | (with_reducible exact ls_set (by assumption)) | (with_reducible exact ls_old (by with_reducible assumption)) | (with_reducible exact ls_ne (by assumption) (by with_reducible assumption))))
  | ((with_reducible apply v_subL3); (first | (with_reducible assumption) | (with_reducible exact ls_new) | (with_reducible exact ls_set (by assumption)) | (with_reducible exact ls_old (by with_reducible assumption)) | (with_reducible exact ls_ne (by assumption) (by with_reducible assumption))))
  | ((with_reducible apply v_lenL); (first | (with_reducible assumption) | (with_reducible exact ls_new) | (with_reducible exact ls_set (by assumption)) | (with_reducible exact ls_old (by with_reducible assumption)) | (with_reducible exact ls_ne (by assumption) (by with_reducible assumption))))
  | ((with_reducible apply v_listL); (first | (with_reducible assumption) | (with_reducible exact ls_new) | (with_reducible exact ls_set (by assumption)) | (with_reducible exact ls_old (by with_reducible assumption)) | (with_reducible exact ls_ne (by assumption) (by with_reducible assumption))))
  | (with_reducible apply r_isi) | ((with_reducible apply c_t); decide) | ((with_reducible apply c_f); decide)
  | ((with_reducible apply isi_ref); (first | (with_reducible assumption) | (with_reducible exact ls_new) | (with_reducible exact ls_old (by with_reducible assumption))); exact rfl)
  | (with_reducible apply tr_bl) | (with_reducible apply x_int) | ((with_reducible apply isi_v); exact rfl))

/-! ### the bag's making, a pick, sameness -/
def bodySame (f : Nat) : Sms := (.cons (.ifs (.isi (.var 1) [.list, .tuple]) (.cons (.ifs (.or (.cmp .ne (.isi (.var 0) [.list]) (.isi (.var 1) [.list])) (.cmp .ne (.isi (.var 0) [.tuple]) (.isi (.var 1) [.tuple]))) (.cons (.ret (.lit (.bl false))) .nil) .nil) (.cons (.ret (.and (.cmp .eq (.blt .len (.cons (.var 0) .nil)) (.blt .len (.cons (.var 1) .nil))) (.blt .all (.cons (.comp (.call f 2 2 0 [.arg 0, .arg 1] (.cons (.sub (.var 0) (.var 2)) (.cons (.sub (.var 1) (.var 2)) .nil)) .nil) (.name 2) (.ran1 (.blt .len (.cons (.var 1) .nil))) (.lit (.bl true)) [2]) .nil)))) .nil)) .nil) (.cons (.ifs (.or (.cmp .is (.var 1) (.lit .non)) (.cmp .is (.var 0) (.lit .non))) (.cons (.ret (.and (.cmp .is (.var 1) (.lit .non)) (.cmp .is (.var 0) (.lit .non)))) .nil) .nil) (.cons (.ifs (.or (.cmp .ne (.isi (.var 1) [.bool]) (.isi (.var 0) [.bool])) (.cmp .ne (.isi (.var 1) [.int]) (.isi (.var 0) [.int]))) (.cons (.ret (.lit (.bl false))) .nil) .nil) (.cons (.ret (.and (.cmp .eq (.isi (.var 1) [.str]) (.isi (.var 0) [.str])) (.cmp .eq (.var 0) (.var 1)))) .nil))))
theorem take_app {h m : Hep} : (h ++ m).take h.length = h := List.take_left
theorem range_mem {v : Va} {n : Nat} (h : v ∈ rangeL 0 n) : ∃ k : Nat, k < n ∧ v = .int k := by
  unfold rangeL at h
  obtain ⟨k, hk, rfl⟩ := List.mem_map.mp h
  exact ⟨k, List.mem_range.mp hk, by rw [Int.zero_add]⟩
theorem bools_true : ∀ {l : List Va}, (∀ v ∈ l, v = .bl true) → ∃ t, bools l = some t ∧ t.all id = true
  | [], _ => ⟨[], rfl, rfl⟩
  | v :: l, h => by
    obtain ⟨t, e1, e2⟩ := bools_true (l := l) fun v hv => h v (List.mem_cons_of_mem _ hv)
    rw [h v (List.mem_cons_self ..)]
    refine ⟨true :: t, ?_, ?_⟩
    · unfold bools
      rw [e1]
      rfl
    · rw [List.all_cons, e2]
      rfl
theorem len_range {i : Int} {n : Nat} : (rangeL i n).length = n := by
  unfold rangeL
  rw [List.length_map, List.length_range]
theorem okI_len {n : Nat} (h : n ≤ line) : okI n = true := by
  have h : n ≤ 100000 := h
  unfold okI
  rw [Bool.and_eq_true, decide_eq_true_eq, decide_eq_true_eq]
  omega
theorem ix_len {n k : Nat} (h : k < n) : ixOf n k = some k := by
  rw [ix_nat (Int.natCast_nonneg k) (Int.ofNat_lt.mpr h)]
  rfl
/-- the same data -/
def same : Nat → Hep → Va → Va → Prop
  | 0, _, _, _ => False
  | k + 1, h, a, b => (flat a = true ∧ a = b) ∨ (∃ i j l m, a = .ref i ∧ b = .ref j ∧ lsAt h i = some l ∧ lsAt h j = some m ∧ l.length ≤ line ∧ R2 (same k h) l m) ∨ ∃ l m, a = .tup l ∧ b = .tup m ∧ l.length ≤ line ∧ R2 (same k h) l m
theorem R2.get {P : Va → Va → Prop} {l m : List Va} (h : R2 P l m) : ∀ i, i < l.length → ∃ a b, l[i]? = some a ∧ m[i]? = some b ∧ P a b := by
  induction h with
  | nil => exact fun i hi => absurd hi (Nat.not_lt_zero _)
  | cons p _ ih =>
    intro i hi
    cases i with
    | zero => exact ⟨_, _, rfl, rfl, p⟩
    | succ i => exact ih i (by rw [List.length_cons] at hi; omega)
section
variable {tb : Nat → Option Def} {sub : Nat → Nat → Bool} {con : Nat → Va} {E : Xc → Hep → Prop}
def sameTail (f : Nat) : Ex := .blt .all (.cons (.comp (.call f 2 2 0 [.arg 0, .arg 1] (.cons (.sub (.var 0) (.var 2)) (.cons (.sub (.var 1) (.var 2)) .nil)) .nil) (.name 2) (.ran1 (.blt .len (.cons (.var 1) .nil))) (.lit (.bl true)) [2]) .nil)
theorem same_tup {C : Cfg} {bars : List Nat} {f : Nat} {h : Hep} {l m : List Va} {P : Va → Va → Prop} {Q : Va → Hep → Prop} {E : Xc → Hep → Prop} (hl : l.length ≤ line) (r : R2 P l m) (ih : ∀ a b, P a b → Ok (C.call bars f [a, b] h) (fun y h' => y = .bl true ∧ h' = h) fun _ _ => False) (q : ∀ h', Q (.bl true) (h ++ h')) :
    Ok (ev C bars [some (.tup l), some (.tup m), none] (sameTail f) h) Q E := by
  have el : m.length = l.length := r.length
  unfold sameTail
  repeat fail
  refine r_compV (vs := rangeL 0 m.length) (fun h' => h' = h) (fun _ y => y = .bl true) ?_ (by rw [len_range]; omega) ?_ ?_
  · apply q_ran1
    repeat fail
    exact ⟨okI_len (by omega), rfl, rfl⟩
  · intro v hv h' hh
    subst hh
    obtain ⟨kk, hk, rfl⟩ := range_mem hv
    obtain ⟨a, b, x1, x2, x3⟩ := r.get kk (by omega)
    repeat fail
    refine v_subT (ix_len (by omega)) x1 ?_
    repeat fail
    refine v_subT (ix_len hk) x2 ?_
    repeat fail
    exact ih a b x3
  · intro ys h' hr hh
    subst hh
    obtain ⟨t, b1, b2⟩ := bools_true (hr.all (R := fun y => y = .bl true) fun _ _ z => z)
    repeat fail
    refine v_all ls_new b1 ?_
    rw [b2]
    exact q _
theorem same_lst {C : Cfg} {bars : List Nat} {f i j : Nat} {h : Hep} {l m : List Va} {P : Va → Va → Prop} {Q : Va → Hep → Prop} {E : Xc → Hep → Prop} (k1 : lsAt h i = some l) (k2 : lsAt h j = some m) (hl : l.length ≤ line) (r : R2 P l m) (ih : ∀ a b, P a b → Ok (C.call bars f [a, b] h) (fun y h' => y = .bl true ∧ h' = h) fun _ _ => False) (q : ∀ h', Q (.bl true) (h ++ h')) :
    Ok (ev C bars [some (.ref i), some (.ref j), none] (sameTail f) h) Q E := by
  have el : m.length = l.length := r.length
  unfold sameTail
  repeat fail
  refine r_compV (vs := rangeL 0 m.length) (fun h' => h' = h) (fun _ y => y = .bl true) ?_ (by rw [len_range]; omega) ?_ ?_
  · apply q_ran1
    repeat fail
    exact ⟨okI_len (by omega), rfl, rfl⟩
  · intro v hv h' hh
    subst hh
    obtain ⟨kk, hk, rfl⟩ := range_mem hv
    obtain ⟨a, b, x1, x2, x3⟩ := r.get kk (by omega)
    repeat fail
    refine v_subL k1 (ix_len (by omega)) x1 ?_
    repeat fail
    refine v_subL k2 (ix_len hk) x2 ?_
    repeat fail
    exact ih a b x3
  · intro ys h' hr hh
    subst hh
    obtain ⟨t, b1, b2⟩ := bools_true (hr.all (R := fun y => y = .bl true) fun _ _ z => z)
    repeat fail
    refine v_all ls_new b1 ?_
    rw [b2]
    exact q _
theorem same_ok {f : Nat} (ht : tb f = some ⟨2, 3, true, bodySame f⟩) : ∀ (k : Nat) (d : Nat) (bars : List Nat) (h : Hep) (a b : Va) (Q : Va → Hep → Prop) (E : Xc → Hep → Prop), k ≤ d → same k h a b → Q (.bl true) h → Ok (callF tb sub con d bars f [a, b] h) Q E := by
  intro k
  induction k with
  | zero => exact fun _ _ _ _ _ _ _ _ h _ => h.elim
  | succ k ih =>
    intro d bars h a b Q E hd hs q
    obtain ⟨d, rfl⟩ : ∃ d', d = d' + 1 := ⟨d - 1, by omega⟩
    have hd : k ≤ d := by omega
    refine c_def ht rfl rfl (c_flat ?_)
    show OkO (exs _ _ (bodySame f) [some a, some b, none] h) _
    unfold bodySame
    rcases hs with ⟨hf, rfl⟩ | ⟨i, j, l, m, rfl, rfl, k1, k2, hl, r⟩ | ⟨l, m, rfl, rfl, hl, r⟩
    · cases a with
      | non =>
        repeat fail
        rw [List.take_length]
        exact ⟨rfl, q⟩
      | bl t =>
        repeat fail
        rw [List.take_length, beq_self_eq_true]
        exact ⟨rfl, q⟩
      | int i =>
        repeat fail
        rw [List.take_length, decide_eq_true rfl]
        exact ⟨rfl, q⟩
      | str s =>
        repeat fail
        rw [List.take_length, beq_self_eq_true]
        exact ⟨rfl, q⟩
      | _ => cases hf
    · have el : m.length = l.length := r.length
      have e2 : decide ((l.length : Int) = (m.length : Int)) = true := decide_eq_true (by rw [el])
      repeat fail
      refine c_t e2 ?_
      exact same_lst k1 k2 hl r (fun a b p => ih d _ h a b _ _ hd p ⟨rfl, rfl⟩) fun h' => by
        rw [take_app]
        exact ⟨rfl, q⟩
    · have el : m.length = l.length := r.length
      have e2 : decide ((l.length : Int) = (m.length : Int)) = true := decide_eq_true (by rw [el])
      repeat fail
      refine c_t e2 ?_
      exact same_tup hl r (fun a b p => ih d _ h a b _ _ hd p ⟨rfl, rfl⟩) fun h' => by
        rw [take_app]
        exact ⟨rfl, q⟩
end
end NL
end

section
namespace NL
open PySem
local macro_rules | `(tactic| fail) => `(tactic| first
  | (with_reducible apply s_cons) | (with_reducible apply s_nil) | (with_reducible apply s_asg) | (with_reducible apply s_prs) | (with_reducible apply s_rtn) | (with_reducible apply s_iff) | (with_reducible apply s_exq) | (with_reducible apply s_pss) | (with_reducible apply s_brq) | (with_reducible apply s_cnq)
  | (with_reducible apply t_name) | (with_reducible apply t_sub) | (with_reducible apply t_tup) | (with_reducible apply t_nil) | (with_reducible apply t_cons)
  | (with_reducible apply r_lit) | ((with_reducible apply r_var); exact rfl) | (with_reducible apply r_bin) | (with_reducible apply r_neg) | (with_reducible apply r_not) | (with_reducible apply r_and) | (with_reducible apply r_or) | (with_reducible apply r_ifx) | (with_reducible apply r_cmp) | (with_reducible apply r_chn) | (with_reducible apply r_tup) | (with_reducible apply r_lst) | (with_reducible apply r_sub) | (with_reducible apply r_sli) | (with_reducible apply r_pno) | (with_reducible apply r_pex) | (with_reducible apply r_call) | (with_reducible apply r_blt) | (with_reducible apply r_nil) | (with_reducible apply r_cons)
  | ((with_reducible apply r_callR); exact rfl; exact rfl; exact rfl; exact rfl)
  | (with_reducible apply v_add) | (with_reducible apply v_sub) | (with_reducible apply v_lt) | (with_reducible apply v_le) | (with_reducible apply v_gt) | (with_reducible apply v_ge) | (with_reducible apply v_lenS) | (with_reducible apply v_lenT) | (with_reducible apply v_abs) | (with_reducible apply v_int) | (with_reducible apply v_listS) | (with_reducible apply v_listT) | (with_reducible apply v_sliK) | (with_reducible apply v_sliS) | (with_reducible apply v_sliT) | (with_reducible apply v_isN) | (with_reducible apply v_isI) | (with_reducible apply v_isB) | (with_reducible apply v_isS) | (with_reducible apply v_isR) | (with_reducible apply v_isT) | (with_reducible apply v_inN) | (with_reducible apply v_inI) | (with_reducible apply v_inB) | (with_reducible apply v_inS) | (with_reducible apply v_inR) | (with_reducible apply v_inT) | ((with_reducible apply v_mulR); decide) | ((with_reducible apply v_mulL'); decide) | ((with_reducible apply v_mod); decide) | ((with_reducible apply v_pow); decide)
  | ((with_reducible apply v_eq); exact eq_int) | ((with_reducible apply v_ne); exact eq_int) | ((with_reducible apply v_eq); exact eq_bl) | ((with_reducible apply v_ne); exact eq_bl) | ((with_reducible apply v_eq); exact eq_str) | ((with_reducible apply v_ne); exact eq_str)
  | ((with_reducible apply v_newL); (simp only [List.length_cons, List.length_nil, line] <;> omega)) | ((with_reducible apply v_newT); (simp only [List.length_cons, List.length_nil, line] <;> omega))
  | ((with_reducible apply v_subL0); (first | (with_reducible assumption) | (with_reducible exact ls_new) | (with_reducible exact ls_set (by assumption)) | (with_reducible exact ls_old (by with_reducible assumption)) | (with_reducible exact ls_ne (by assumption) (by with_reducible assumption))))
  | ((with_reducible apply v_subL1); (first | (with_reducible assumption) | (with_reducible exact ls_new) | (with_reducible exact ls_set (by assumption)) | (with_reducible exact ls_old (by with_reducible assumption)) | (with_reducible exact ls_ne (by assumption) (by with_reducible assumption))))
  | ((with_reducible apply v_subL2); (first | (with_reducible assumption) | (with_reducible exact ls_new) | (with_reducible exact ls_set (by assumption)) | (with_reducible exact ls_old (by with_reducible assumption)) | (with_reducible exact ls_ne (by assumption) (by with_reducible assumption))))
  | ((with_reducible apply v_subL3); (first | (with_reducible assumption) | (with_reducible exact ls_new) | (with_reducible exact ls_set (by assumption)) | (with_reducible exact ls_old (by with_reducible assumption)) | (with_reducible exact ls_ne (by assumption) (by with_reducible assumption))))
  | ((with_reducible apply v_lenL); (first | (with_reducible assumption) | (with_reducible exact ls_new) | (with_reducible exact ls_set (by assumption)) | (with_reducible exact ls_old (by with_reducible assumption)) | (with_reducible exact ls_ne (by assumption) (by with_reducible assumption))))
  | ((with_reducible apply v_listL); (first | (with_reducible assumption) | (with_reducible exact ls_new) | (with_reducible exact ls_set (by assumption)) | (with_reducible exact ls_old (by with_reducible assumption)) | (with_reducible exact ls_ne (by assumption) (by with_reducible assumption))))
  | (with_reducible apply r_isi) | ((with_reducible apply c_t); decide) | ((with_reducible apply c_f); decide)
  | ((with_reducible apply isi_ref); (first | (with_reducible assumption) | (with_reducible exact ls_new) | (with_reducible exact ls_old (by with_reducible assumption))); exact rfl)
  | (with_reducible apply tr_bl) | (with_reducible apply x_int) | ((with_reducible apply isi_v); exact rfl))

theorem sli_map {ns : List Int} {lo hi : Option Int} : ∃ ms : List Int, sliL (ns.map Va.int) lo hi = ms.map Va.int ∧ ms.length ≤ ns.length := by
  unfold sliL
  rw [← List.map_drop, ← List.map_take]
  refine ⟨_, rfl, ?_⟩
  rw [List.length_take, List.length_drop]
  omega
theorem Upd.ls {b : Nat} {h h' : Hep} (U : Upd b h h') {a : Nat} {l : List Va} (hab : a ≠ b) (k : lsAt h a = some l) : lsAt h' a = some l := lsAt_of (by rw [U.ne a hab]; exact lsAt_get k)
theorem Upd.refl {b : Nat} {h : Hep} (B : Bag h b) : Upd b h h := ⟨rfl, fun _ _ => rfl, B⟩
theorem Upd.trans {b : Nat} {h h' h'' : Hep} (U : Upd b h h') (V : Upd b h' h'') : Upd b h h'' := ⟨V.len.trans U.len, fun i hi => (V.ne i hi).trans (U.ne i hi), V.bag⟩
theorem Bag.lt {b : Nat} {h : Hep} (B : Bag h b) : b < h.length := by
  obtain ⟨c, ns, i, g, m, B⟩ := B
  exact lsAt_lt B.at_
theorem Bag.app {b : Nat} {h m : Hep} (B : Bag h b) : Bag (h ++ m) b := by
  obtain ⟨c, ns, i, g, mm, B⟩ := B
  refine ⟨c, ns, i, g, mm, ?_, ?_, B.lt, B.i0, B.g0, B.m0, B.m1⟩
  · exact lsAt_of (by rw [List.getElem?_append_left (lsAt_lt B.at_)]; exact lsAt_get B.at_)
  · exact lsAt_of (by rw [List.getElem?_append_left (lsAt_lt B.cells)]; exact lsAt_get B.cells)
/-- .. or new things at the end -/
structure Up (b : Nat) (h h' : Hep) : Prop where
  len : h.length ≤ h'.length
  ne : ∀ i, i < h.length → i ≠ b → h'[i]? = h[i]?
  bag : Bag h' b
theorem Upd.up {b : Nat} {h h' : Hep} (U : Upd b h h') : Up b h h' := ⟨by rw [U.len]; exact Nat.le_refl _, fun i _ hi => U.ne i hi, U.bag⟩
theorem Up.refl {b : Nat} {h : Hep} (B : Bag h b) : Up b h h := ⟨Nat.le_refl _, fun _ _ _ => rfl, B⟩
theorem Up.trans {b : Nat} {h h' h'' : Hep} (U : Up b h h') (V : Up b h' h'') : Up b h h'' := ⟨Nat.le_trans U.len V.len, fun i hl hi => (V.ne i (Nat.lt_of_lt_of_le hl U.len) hi).trans (U.ne i hl hi), V.bag⟩
theorem Up.app {b : Nat} {h h' : Hep} {m : Hep} (U : Up b h h') : Up b h (h' ++ m) := ⟨by rw [List.length_append]; exact Nat.le_trans U.len (Nat.le_add_right _ _), fun i hl hi => by rw [List.getElem?_append_left (Nat.lt_of_lt_of_le hl U.len)]; exact U.ne i hl hi, U.bag.app⟩
theorem Up.ls {b : Nat} {h h' : Hep} (U : Up b h h') {a : Nat} {l : List Va} (hab : a ≠ b) (k : lsAt h a = some l) : lsAt h' a = some l := lsAt_of (by rw [U.ne a (lsAt_lt k) hab]; exact lsAt_get k)
/-- what is left of a call: the bag's own update -/
theorem Up.take {b : Nat} {h h' : Hep} (B : Bag h b) (U : Up b h h') : Upd b h (h'.take h.length) := by
  have hb := B.lt
  have hl : (h'.take h.length).length = h.length := by rw [List.length_take]; exact Nat.min_eq_left U.len
  obtain ⟨c, ns, i, g, m, B'⟩ := U.bag
  refine ⟨hl, fun j hj => ?_, c, ns, i, g, m, ?_, ?_, B'.lt, B'.i0, B'.g0, B'.m0, B'.m1⟩
  · by_cases z : j < h.length
    · rw [List.getElem?_take_of_lt z]
      exact U.ne j z hj
    · rw [List.getElem?_eq_none (by rw [hl]; omega), List.getElem?_eq_none (by omega)]
  · exact lsAt_of (by rw [List.getElem?_take_of_lt hb]; exact lsAt_get B'.at_)
  · exact lsAt_of (by rw [List.getElem?_take_of_lt (Nat.lt_trans B'.lt hb)]; exact lsAt_get B'.cells)
section
variable {tb : Nat → Option Def} {sub : Nat → Nat → Bool} {con : Nat → Va} {E : Xc → Hep → Prop}
theorem bag_ok {fi d : Nat} {bars : List Nat} {h : Hep} {ns : List Int} {Q : Va → Hep → Prop} (ht : tb fi = some ⟨1, 2, true, bodyBag⟩) (hn : ns.length ≤ 63)
    (q : ∀ h' : Hep, h'.length = h.length + 3 → Bag h' (h.length + 2) → (∀ i, i < h.length → h'[i]? = h[i]?) → Q (.ref (h.length + 2)) h') : Ok (callF tb sub con (d + 1) bars fi [.kl (ns.map .int)] h) Q E := by
  refine c_def ht rfl rfl (c_deep ?_)
  show OkO (exs _ _ bodyBag [some (.kl (ns.map .int)), none] h) _
  obtain ⟨ms, e1, e2⟩ := sli_map (ns := ns) (lo := none) (hi := some 63)
  unfold bodyBag
  repeat fail
  rw [e1]
  repeat fail
  refine ⟨_, _, rfl, ?_, by rw [List.getElem?_append_right (Nat.le_refl _), Nat.sub_self]; rfl, ?_, ?_⟩
  · simp
  · simp [Ob.bel, Va.bel]
  · have l2 : (h ++ [Ob.lst (List.map Va.int ms)] ++ [Ob.lst (List.map Va.int ms)]).length = h.length + 2 := by simp
    rw [l2]
    refine q _ (by simp) ⟨h.length + 1, ms, 0, 0, 4919 + 7 * ((List.map Va.int ms).length : Int), ?_, ?_, by omega, by decide, by decide, ?_, ?_⟩ fun i hi => ?_
    · have := ls_new (h := h ++ [Ob.lst (List.map Va.int ms)] ++ [Ob.lst (List.map Va.int ms)]) (l := [Va.ref (h ++ [Ob.lst (List.map Va.int ms)]).length, Va.int 0, Va.int 0, Va.int (4919 + 7 * ((List.map Va.int ms).length : Int))])
      rw [l2] at this
      simpa using this
    · refine ls_old ?_
      have := ls_new (h := h ++ [Ob.lst (List.map Va.int ms)]) (l := List.map Va.int ms)
      simpa using this
    · omega
    · rw [List.length_map]
      omega
    · rw [List.append_assoc, List.append_assoc, List.getElem?_append_left hi]
theorem pickS_ok {f fi d : Nat} {bars : List Nat} {h : Hep} {b : Nat} {s : List Nat} {Q : Va → Hep → Prop} (ht : tb fi = some ⟨2, 4, true, bodyDraw⟩) (hp : tb f = some ⟨2, 2, true, bodyPick fi⟩) (B : Bag h b) (s1 : 1 ≤ s.length) (s2 : s.length < 1073741824)
    (q : ∀ (c : Nat) (h' : Hep), c ∈ s → Upd b h h' → Q (.str [c]) h') : Ok (callF tb sub con (d + 2) bars f [.ref b, .str s] h) Q E := by
  refine c_def hp rfl rfl (c_flat ?_)
  show OkO (exs _ _ (bodyPick fi) [some (.ref b), some (.str s)] h) _
  unfold bodyPick
  repeat fail
  refine draw_ok ht B (by omega) (by omega) fun r h' r0 r1 U => ?_
  have hr : r.toNat < s.length := by omega
  refine v_subS (k := r.toNat) (v := s[r.toNat]) (ix_nat r0 r1) (List.getElem?_eq_getElem hr) ⟨rfl, ?_⟩
  exact q _ _ (List.getElem_mem hr) (Up.take B U.up)
theorem pickL_ok {f fi d : Nat} {bars : List Nat} {h : Hep} {a b : Nat} {l : List Va} {Q : Va → Hep → Prop} (ht : tb fi = some ⟨2, 4, true, bodyDraw⟩) (hp : tb f = some ⟨2, 2, true, bodyPick fi⟩) (B : Bag h b) (hab : a ≠ b) (ka : lsAt h a = some l) (s1 : 1 ≤ l.length) (s2 : l.length < 1073741824) (hb : ∀ v ∈ l, v.bel h.length = true)
    (q : ∀ (v : Va) (h' : Hep), v ∈ l → Upd b h h' → Q v h') : Ok (callF tb sub con (d + 2) bars f [.ref b, .ref a] h) Q E := by
  refine c_def hp rfl rfl (c_flat ?_)
  show OkO (exs _ _ (bodyPick fi) [some (.ref b), some (.ref a)] h) _
  unfold bodyPick
  repeat fail
  refine draw_ok ht B (by omega) (by omega) fun r h' r0 r1 U => ?_
  have hr : r.toNat < l.length := by omega
  refine v_subL (k := r.toNat) (v := l[r.toNat]) (U.ls hab ka) (ix_nat r0 r1) (List.getElem?_eq_getElem hr) ⟨hb _ (List.getElem_mem hr), ?_⟩
  exact q _ _ (List.getElem_mem hr) (Up.take B U.up)
theorem pickT_ok {f fi d : Nat} {bars : List Nat} {h : Hep} {b : Nat} {l : List Va} {Q : Va → Hep → Prop} (ht : tb fi = some ⟨2, 4, true, bodyDraw⟩) (hp : tb f = some ⟨2, 2, true, bodyPick fi⟩) (B : Bag h b) (s1 : 1 ≤ l.length) (s2 : l.length < 1073741824) (hb : ∀ v ∈ l, v.bel h.length = true)
    (q : ∀ (v : Va) (h' : Hep), v ∈ l → Upd b h h' → Q v h') : Ok (callF tb sub con (d + 2) bars f [.ref b, .tup l] h) Q E := by
  refine c_def hp rfl rfl (c_flat ?_)
  show OkO (exs _ _ (bodyPick fi) [some (.ref b), some (.tup l)] h) _
  unfold bodyPick
  repeat fail
  refine draw_ok ht B (by omega) (by omega) fun r h' r0 r1 U => ?_
  have hr : r.toNat < l.length := by omega
  refine v_subT (k := r.toNat) (v := l[r.toNat]) (ix_nat r0 r1) (List.getElem?_eq_getElem hr) ⟨hb _ (List.getElem_mem hr), ?_⟩
  exact q _ _ (List.getElem_mem hr) (Up.take B U.up)
end
end NL
end

section
namespace NL
open PySem
theorem bools_mapG {α : Type} {f : α → Bool} : ∀ {l : List α}, bools (l.map fun c => .bl (f c)) = some (l.map f)
  | [] => rfl
  | c :: l => by
    show (bools (l.map fun c => .bl (f c))).map (f c :: ·) = _
    rw [bools_mapG]
    rfl
theorem Ok.cut {r : Res Va} {x : Va} {h : Hep} {Q : Va → Hep → Prop} {E : Xc → Hep → Prop} (k : Ok r (fun v h' => v = x ∧ h' = h) fun _ _ => False) (q : Q x h) : Ok r Q E := k.imp (fun v h' z => by rw [z.1, z.2]; exact q) fun _ _ z => z.elim
section
variable {C : Cfg} {bars : List Nat} {e : Env'} {h : Hep} {Q : Va → Hep → Prop} {E : Xc → Hep → Prop} {nx bk ct : Env' → Hep → Prop} {rt : Va → Hep → Prop} {xc : Xc → Hep → Prop}
theorem v_neg {a : Int} (q : Q (.int (-a)) h) : Ok (negV (.int a) h) Q E := ⟨q⟩
theorem v_any {a : Nat} {l : List Va} {t : List Bool} (k1 : lsAt h a = some l) (k2 : bools l = some t) (q : Q (.bl (t.any id)) h) : Ok (bltV .any [.ref a] h) Q E := by
  show Ok (match (lsAt h a).bind bools with
    | some l => .ok (.bl (l.any id)) h
    | none => .stuck) Q E
  rw [k1, Option.bind_some, k2]
  exact ⟨q⟩
theorem q_ran2 {a b : Ex} {Q : Src → Hep → Prop} (q : Ok (ev C bars e a h) (fun x h => Ok (ev C bars e b h) (fun y h => ∃ i j : Int, x = .int i ∧ y = .int j ∧ (okI i && okI j) = true ∧ Q (.vals (rangeL i (j - i).toNat)) h) E) E) : Ok (evI C bars e (.ran2 a b) h) Q E := by
  unfold evI
  refine .bd (q.imp (fun x h q => .bd (q.imp (fun y h q => ?_) fun _ _ q => q)) fun _ _ q => q)
  obtain ⟨i, j, rfl, rfl, k, q⟩ := q
  show Ok (if okI i && okI j then _ else _) Q E
  rw [if_pos k]
  exact ⟨q⟩
theorem l_live {f : Va → Env' → Hep → Out} (I : Nat → Env' → Hep → Prop) {a : Nat} {l : List Va} (hI : ∀ i e h, I i e h → lsAt h a = some l) : ∀ (n i : Nat) (e : Env') (h : Hep), i + n = l.length → I i e h → (∀ (i : Nat) (v : Va) (e : Env') (h : Hep), l[i]? = some v → I i e h → OkO (f v e h) ⟨I (i + 1), rt, nx, I (i + 1), xc⟩) → (∀ e h, I l.length e h → nx e h) → OkO (forL f a n i e h) ⟨nx, rt, bk, ct, xc⟩
  | 0, i, e, h, hn, q, _, k => by
    unfold forL
    rw [hI i e h q]
    dsimp only
    rw [if_pos (by omega)]
    refine ⟨k e h ?_⟩
    have : l.length = i := by omega
    rw [this]
    exact q
  | n + 1, i, e, h, hn, q, s, k => by
    have hi : i < l.length := by omega
    have s0 := s i l[i] e h (List.getElem?_eq_getElem hi) q
    have rc : ∀ e' h', I (i + 1) e' h' → OkO (forL f a n (i + 1) e' h') ⟨nx, rt, bk, ct, xc⟩ := fun e' h' q' => l_live I hI n (i + 1) e' h' (by omega) q' s k
    unfold forL
    rw [hI i e h q]
    dsimp only
    rw [List.getElem?_eq_getElem hi]
    dsimp only
    cases m : f l[i] e h with
    | nx e' h' => rw [m] at s0; exact rc e' h' s0.run
    | ct e' h' => rw [m] at s0; exact rc e' h' s0.run
    | bk e' h' => rw [m] at s0; exact ⟨s0.run⟩
    | rt v' h' => rw [m] at s0; exact ⟨s0.run⟩
    | xc x e' h' => rw [m] at s0; exact ⟨s0.run⟩
    | stuck => rw [m] at s0; exact s0.run.elim
/-- a loop over a list that stands -/
theorem s_forL {t : Tg} {s : It} {b : Sms} (I : Nat → Env' → Hep → Prop) (es : Ok (evI C bars e s h) (fun s h => ∃ a l, s = .live a l.length ∧ (∀ i e h, I i e h → lsAt h a = some l) ∧ I 0 e h ∧ (∀ e h, I l.length e h → nx e h) ∧ ∀ (i : Nat) (v : Va) (e : Env') (h : Hep), l[i]? = some v → I i e h → OkT (evT C bars t v e h) fun e h => OkO (exs C bars b e h) ⟨I (i + 1), rt, nx, I (i + 1), xc⟩) xc) : OkO (ex C bars (.for t s b) e h) ⟨nx, rt, bk, ct, xc⟩ := by
  unfold ex
  refine .to (es.imp (fun x h1 q => ?_) fun _ _ q => q)
  obtain ⟨a, l, rfl, hI, q, k, st⟩ := q
  show OkO (forL _ a l.length 0 e h1) ⟨nx, rt, bk, ct, xc⟩
  refine l_live I hI l.length 0 e h1 (by omega) q (fun i v e h ei qi => ?_) k
  have z := st i v e h ei qi
  cases m : evT C bars t v e h with
  | none => rw [m] at z; exact z.elim
  | some p => rw [m] at z; exact z
theorem v_subT0 {v : Va} {l : List Va} (q : Q v h) : Ok (subV (.tup (v :: l)) (.int 0) h) Q E := v_subT (k := 0) (by unfold ixOf L2.ixN; rw [if_pos (by decide), if_pos (by rw [List.length_cons]; omega)]; rfl) rfl q
theorem v_subT1 {v v0 : Va} {l : List Va} (q : Q v h) : Ok (subV (.tup (v0 :: v :: l)) (.int 1) h) Q E := v_subT (k := 1) (by unfold ixOf L2.ixN; rw [if_pos (by decide), if_pos (by rw [List.length_cons, List.length_cons]; omega)]; rfl) rfl q
theorem v_subT2 {v v0 v1 : Va} {l : List Va} (q : Q v h) : Ok (subV (.tup (v0 :: v1 :: v :: l)) (.int 2) h) Q E := v_subT (k := 2) (by unfold ixOf L2.ixN; rw [if_pos (by decide), if_pos (by rw [List.length_cons, List.length_cons, List.length_cons]; omega)]; rfl) rfl q
theorem v_subT3 {v v0 v1 v2 : Va} {l : List Va} (q : Q v h) : Ok (subV (.tup (v0 :: v1 :: v2 :: v :: l)) (.int 3) h) Q E := v_subT (k := 3) (by unfold ixOf L2.ixN; rw [if_pos (by decide), if_pos (by rw [List.length_cons, List.length_cons, List.length_cons, List.length_cons]; omega)]; rfl) rfl q
theorem v_sl2 {a b c w : Va} (q : Q (.tup [c, w]) h) : Ok (sliV (.tup [a, b, c, w]) (some 2) none h) Q E := ⟨q⟩
theorem eq_tup2 {a b c d : Int} : eqS h (.tup [.int a, .int b]) (.tup [.int c, .int d]) = some (decide (a = c) && decide (b = d)) := by
  unfold eqS
  simp [toD, allSome, PyData.eqv, PyData.eqvAll]
  rfl
theorem in_two {a c d : Int} : inO h (.int a) (.tup [.int c, .int d]) = some (decide (c = a) || decide (d = a)) := by
  show some (inF (.int a) [.int c, .int d]) = _
  simp [inF, eqF]
  rfl
end
theorem same_bools {h : Hep} {i j : Nat} {bs : List Bool} (hl : bs.length ≤ line) (k1 : lsAt h i = some (bs.map .bl)) (k2 : lsAt h j = some (bs.map .bl)) : same 2 h (.ref i) (.ref j) := by
  refine .inr (.inl ⟨i, j, _, _, rfl, rfl, k1, k2, by rw [List.length_map]; exact hl, ?_⟩)
  clear k1 k2 hl
  induction bs with
  | nil => exact .nil
  | cons b bs ih => exact .cons (.inl ⟨rfl, rfl⟩) ih
end NL
end

section
namespace NL
open PySem PySem.Spec PyProof.Rows L2
/-! ### the text by places -/
def top (i : Nat) : Stmt := PySem.Challenge.pw_namedlater_k41_standings_told.main.body.getD i (.Pass ⟨0, 0, 0, 0⟩)
/-- is_number -/
def B0 : Sms := (.cons (.ret (.and (.isi (.var 0) [.int]) (.not (.isi (.var 0) [.bool])))) .nil)
def N0 : List Str := ["value"]
def I0 : FnI := ⟨"is_number", "is_number", 1, ["value"], [(1, [], [.arg 0])]⟩
def D0 : Def := ⟨1, 1, true, B0⟩
abbrev S0 : Stmt := top 1
def J0 : Item := ⟨I0, ⟨defArgs S0, defBody S0, defScope S0, N0⟩, D0, [], []⟩
/-- is_standing -/
def B1 : Sms := (.cons (.ifs (.or (.not (.isi (.var 0) [.tuple])) (.or (.cmp .ne (.blt .len (.cons (.var 0) .nil)) (.lit (.int 4))) (.not (.blt .all (.cons (.comp (.call 0 1 1 0 [.arg 0] (.cons (.var 2) .nil) .nil) (.name 2) (.seq (.var 0)) (.lit (.bl true)) [2]) .nil))))) (.cons (.ret (.lit (.bl false))) .nil) .nil) (.cons (.set (.tup (.cons (.name 2) (.cons (.name 3) (.cons (.name 4) (.cons (.name 5) .nil))))) (.var 0)) (.cons (.ifs (.or (.not (.chn .le .le (.lit (.int 0)) (.var 2) (.lit (.int 2)))) (.or (.not (.chn .le .le (.lit (.int 0)) (.var 3) (.lit (.int 2)))) (.or (.cmp .nin (.var 4) (.tup (.cons (.lit (.int 0)) (.cons (.lit (.int 1)) .nil)))) (.cmp .nin (.var 5) (.tup (.cons (.lit (.int 0)) (.cons (.lit (.int 1)) .nil))))))) (.cons (.ret (.lit (.bl false))) .nil) .nil) (.cons (.ifs (.or (.and (.cmp .ne (.var 2) (.lit (.int 2))) (.cmp .ne (.tup (.cons (.var 4) (.cons (.var 5) .nil))) (.tup (.cons (.lit (.int 0)) (.cons (.lit (.int 0)) .nil))))) (.and (.var 1) (.cmp .ne (.var 2) (.var 3)))) (.cons (.ret (.lit (.bl false))) .nil) .nil) (.cons (.ret (.or (.cmp .gt (.var 3) (.lit (.int 0))) (.cmp .eq (.var 4) (.lit (.int 0))))) .nil)))))
def N1 : List Str := ["value", "itself", "one", "other", "at", "wish"]
def I1 : FnI := ⟨"is_standing", "is_standing", 2, ["value", "itself"], [(1, [], [.arg 0, .dfl (.bl false)]), (1, ["itself"], [.arg 0, .arg 1]), (0, ["value", "itself"], [.arg 0, .arg 1])]⟩
def D1 : Def := ⟨2, 6, true, B1⟩
abbrev S1 : Stmt := top 3
def J1 : Item := ⟨I1, ⟨defArgs S1, defBody S1, defScope S1, N1⟩, D1, [], [("itself", .bl false)]⟩
/-- _law_bag -/
def B2 : Sms := (.cons (.set (.name 1) (.blt .list (.cons (.sli (.var 0) .no (.ex (.lit (.int 63)))) .nil))) (.cons (.ret (.lst (.cons (.var 1) (.cons (.lit (.int 0)) (.cons (.lit (.int 0)) (.cons (.bin .add (.lit (.int 4919)) (.bin .mul (.lit (.int 7)) (.blt .len (.cons (.var 1) .nil)))) .nil)))))) .nil))
def N2 : List Str := ["_law_script", "_law_cells"]
def I2 : FnI := ⟨"_law_bag", "_law_bag", 1, ["_law_script"], [(1, [], [.arg 0])]⟩
def D2 : Def := ⟨1, 2, true, B2⟩
abbrev S2 : Stmt := top 5
def J2 : Item := ⟨I2, ⟨defArgs S2, defBody S2, defScope S2, N2⟩, D2, [], []⟩
/-- _law_draw -/
def B3 : Sms := (.cons (.ifs (.and (.cmp .eq (.sub (.var 0) (.lit (.int 2))) (.lit (.int 0))) (.cmp .lt (.sub (.var 0) (.lit (.int 1))) (.blt .len (.cons (.sub (.var 0) (.lit (.int 0))) .nil)))) (.cons (.set (.name 2) (.sub (.sub (.var 0) (.lit (.int 0))) (.sub (.var 0) (.lit (.int 1))))) (.cons (.set (.sub (.var 0) (.lit (.int 1))) (.bin .add (.sub (.var 0) (.lit (.int 1))) (.lit (.int 1)))) (.cons (.ifs (.cmp .ge (.blt .abs (.cons (.var 2) .nil)) (.bin .pow (.lit (.int 10)) (.lit (.int 18)))) (.cons (.set (.sub (.var 0) (.lit (.int 2))) (.blt .abs (.cons (.var 2) .nil))) .nil) (.cons (.set (.sub (.var 0) (.lit (.int 3))) (.bin .mod (.blt .int (.cons (.bin .add (.bin .add (.bin .mul (.sub (.var 0) (.lit (.int 3))) (.lit (.int 39373))) (.bin .mul (.bin .mod (.blt .int (.cons (.var 2) .nil)) (.lit (.int 1000033))) (.lit (.int 811)))) (.lit (.int 41))) .nil)) (.lit (.int 2147483563)))) .nil)) .nil))) .nil) (.cons (.ifs (.cmp .gt (.sub (.var 0) (.lit (.int 2))) (.lit (.int 0))) (.cons (.set (.name 3) (.bin .mod (.blt .int (.cons (.sub (.var 0) (.lit (.int 2))) .nil)) (.var 1))) (.cons (.set (.sub (.var 0) (.lit (.int 2))) (.bin .fdiv (.sub (.var 0) (.lit (.int 2))) (.var 1))) (.cons (.ret (.var 3)) .nil))) .nil) (.cons (.set (.sub (.var 0) (.lit (.int 3))) (.bin .mod (.blt .int (.cons (.bin .add (.bin .add (.bin .mul (.bin .mul (.sub (.var 0) (.lit (.int 3))) (.sub (.var 0) (.lit (.int 3)))) (.lit (.int 3))) (.bin .mul (.sub (.var 0) (.lit (.int 3))) (.lit (.int 30011)))) (.lit (.int 1500007))) .nil)) (.lit (.int 2147483549)))) (.cons (.ret (.bin .mod (.blt .int (.cons (.bin .fdiv (.sub (.var 0) (.lit (.int 3))) (.lit (.int 32))) .nil)) (.var 1))) .nil))))
def N3 : List Str := ["_law_bag_here", "_law_many", "_law_cell", "_law_got"]
def I3 : FnI := ⟨"_law_draw", "_law_draw", 2, ["_law_bag_here", "_law_many"], [(2, [], [.arg 0, .arg 1])]⟩
def D3 : Def := ⟨2, 4, true, B3⟩
abbrev S3 : Stmt := top 6
def J3 : Item := ⟨I3, ⟨defArgs S3, defBody S3, defScope S3, N3⟩, D3, [], []⟩
/-- _law_same -/
def B4 : Sms := (.cons (.ifs (.isi (.var 1) [.list, .tuple]) (.cons (.ifs (.or (.cmp .ne (.isi (.var 0) [.list]) (.isi (.var 1) [.list])) (.cmp .ne (.isi (.var 0) [.tuple]) (.isi (.var 1) [.tuple]))) (.cons (.ret (.lit (.bl false))) .nil) .nil) (.cons (.ret (.and (.cmp .eq (.blt .len (.cons (.var 0) .nil)) (.blt .len (.cons (.var 1) .nil))) (.blt .all (.cons (.comp (.call 4 2 2 0 [.arg 0, .arg 1] (.cons (.sub (.var 0) (.var 2)) (.cons (.sub (.var 1) (.var 2)) .nil)) .nil) (.name 2) (.ran1 (.blt .len (.cons (.var 1) .nil))) (.lit (.bl true)) [2]) .nil)))) .nil)) .nil) (.cons (.ifs (.or (.cmp .is (.var 1) (.lit .non)) (.cmp .is (.var 0) (.lit .non))) (.cons (.ret (.and (.cmp .is (.var 1) (.lit .non)) (.cmp .is (.var 0) (.lit .non)))) .nil) .nil) (.cons (.ifs (.or (.cmp .ne (.isi (.var 1) [.bool]) (.isi (.var 0) [.bool])) (.cmp .ne (.isi (.var 1) [.int]) (.isi (.var 0) [.int]))) (.cons (.ret (.lit (.bl false))) .nil) .nil) (.cons (.ret (.and (.cmp .eq (.isi (.var 1) [.str]) (.isi (.var 0) [.str])) (.cmp .eq (.var 0) (.var 1)))) .nil))))
def N4 : List Str := ["_law_found", "_law_due", "_law_k"]
def I4 : FnI := ⟨"_law_same", "_law_same", 2, ["_law_found", "_law_due"], [(2, [], [.arg 0, .arg 1])]⟩
def D4 : Def := ⟨2, 3, true, B4⟩
abbrev S4 : Stmt := top 7
def J4 : Item := ⟨I4, ⟨defArgs S4, defBody S4, defScope S4, N4⟩, D4, [], []⟩
/-- law -/
def B5 : Sms := (.cons (.set (.name 1) (.call 2 1 1 0 [.arg 0] (.cons (.var 0) .nil) .nil)) (.cons (.for (.name 2) (.ran1 (.lit (.int 4))) (.cons (.for (.name 3) (.ran2 (.neg (.lit (.int 1))) (.lit (.int 4))) (.cons (.for (.name 5) (.ran2 (.neg (.lit (.int 1))) (.lit (.int 4))) (.cons (.par 7 8 (.bin .sub (.call 3 2 2 0 [.arg 0, .arg 1] (.cons (.var 1) (.cons (.lit (.int 4)) .nil)) .nil) (.lit (.int 1))) (.bin .sub (.call 3 2 2 0 [.arg 0, .arg 1] (.cons (.var 1) (.cons (.lit (.int 4)) .nil)) .nil) (.lit (.int 1)))) (.cons (.for (.name 6) (.seq (.lst (.cons (.tup (.cons (.var 3) (.cons (.var 5) (.cons (.lit (.int 0)) (.cons (.lit (.int 0)) .nil))))) (.cons (.tup (.cons (.var 3) (.cons (.var 5) (.cons (.lit (.int 1)) (.cons (.lit (.int 0)) .nil))))) (.cons (.tup (.cons (.var 3) (.cons (.var 5) (.cons (.lit (.int 0)) (.cons (.lit (.int 1)) .nil))))) (.cons (.tup (.cons (.var 3) (.cons (.var 5) (.cons (.lit (.int 1)) (.cons (.lit (.int 1)) .nil))))) (.cons (.tup (.cons (.var 3) (.cons (.var 5) (.cons (.var 7) (.cons (.var 8) .nil))))) .nil))))))) (.cons (.set (.name 9) (.and (.chn .le .le (.lit (.int 0)) (.var 3) (.lit (.int 2))) (.and (.chn .le .le (.lit (.int 0)) (.var 5) (.lit (.int 2))) (.and (.cmp .isin (.sub (.var 6) (.lit (.int 2))) (.tup (.cons (.lit (.int 0)) (.cons (.lit (.int 1)) .nil)))) (.cmp .isin (.sub (.var 6) (.lit (.int 3))) (.tup (.cons (.lit (.int 0)) (.cons (.lit (.int 1)) .nil)))))))) (.cons (.set (.name 9) (.and (.var 9) (.and (.or (.cmp .eq (.var 3) (.lit (.int 2))) (.cmp .eq (.sli (.var 6) (.ex (.lit (.int 2))) .no) (.tup (.cons (.lit (.int 0)) (.cons (.lit (.int 0)) .nil))))) (.or (.cmp .gt (.var 5) (.lit (.int 0))) (.cmp .eq (.sub (.var 6) (.lit (.int 2))) (.lit (.int 0))))))) (.cons (.set (.name 10) (.lst (.cons (.call 1 2 1 0 [.arg 0, .dfl (.bl false)] (.cons (.var 6) .nil) .nil) (.cons (.call 1 2 1 1 [.arg 0, .arg 1] (.cons (.var 6) .nil) (.cons (.lit (.bl true)) .nil)) (.cons (.call 1 2 0 2 [.arg 0, .arg 1] .nil (.cons (.var 6) (.cons (.lit (.bl false)) .nil))) .nil))))) (.cons (.ifs (.not (.call 4 2 2 0 [.arg 0, .arg 1] (.cons (.var 10) (.cons (.lst (.cons (.var 9) (.cons (.and (.var 9) (.cmp .eq (.var 3) (.var 5))) (.cons (.var 9) .nil)))) .nil)) .nil)) (.cons (.ret (.lit (.bl false))) .nil) .nil) .nil))))) .nil))) .nil)) (.cons (.set (.name 4) (.lst (.cons (.lit .non) (.cons (.lit (.int 0)) (.cons (.tup .nil) (.cons (.tup (.cons (.lit (.int 0)) (.cons (.lit (.int 0)) (.cons (.lit (.int 0)) .nil)))) (.cons (.tup (.cons (.lit (.int 0)) (.cons (.lit (.int 0)) (.cons (.lit (.int 0)) (.cons (.lit (.int 0)) (.cons (.lit (.int 0)) .nil)))))) (.cons (.lst (.cons (.lit (.int 0)) (.cons (.lit (.int 0)) (.cons (.lit (.int 0)) (.cons (.lit (.int 0)) .nil))))) (.cons (.lit (.str [48, 48, 48, 48])) (.cons (.tup (.cons (.lit (.bl true)) (.cons (.lit (.int 0)) (.cons (.lit (.int 0)) (.cons (.lit (.int 0)) .nil))))) (.cons (.tup (.cons (.lit (.int 2)) (.cons (.lit (.int 2)) (.cons (.lit (.bl false)) (.cons (.lit (.int 0)) .nil))))) (.cons (.tup (.cons (.lit (.int 2)) (.cons (.lit (.int 2)) (.cons (.lit (.int 0)) (.cons (.lit .non) .nil))))) (.cons (.tup (.cons (.lit (.str [50])) (.cons (.lit (.int 2)) (.cons (.lit (.int 0)) (.cons (.lit (.int 0)) .nil))))) .nil))))))))))))) (.cons (.ifs (.blt .any (.cons (.comp (.or (.call 1 2 1 0 [.arg 0, .dfl (.bl false)] (.cons (.var 11) .nil) .nil) (.call 1 2 1 1 [.arg 0, .arg 1] (.cons (.var 11) .nil) (.cons (.lit (.bl true)) .nil))) (.name 11) (.seq (.var 4)) (.lit (.bl true)) [11]) .nil)) (.cons (.ret (.lit (.bl false))) .nil) .nil) .nil)))) (.cons (.ret (.call 1 2 1 1 [.arg 0, .arg 1] (.cons (.tup (.cons (.lit (.int 0)) (.cons (.lit (.int 0)) (.cons (.lit (.int 0)) (.cons (.lit (.int 0)) .nil))))) .nil) (.cons (.lit (.bl true)) .nil))) .nil)))
def N5 : List Str := ["_law_script", "_law_bag_here", "_law_turn", "_law_one", "_law_odds", "_law_other", "_law_my_value", "_law_at", "_law_wish", "_law_good", "_law_told", "_law_odd"]
def I5 : FnI := ⟨"law", "law", 1, ["_law_script"], []⟩
def D5 : Def := ⟨1, 12, true, B5⟩
abbrev S5 : Stmt := top 8
def J5 : Item := ⟨I5, ⟨defArgs S5, defBody S5, defScope S5, N5⟩, D5, [], []⟩
def T : Tab := ⟨[I0, I1, I2, I3, I4, I5],
  [],
  ["abs", "all", "any", "bool", "int", "isinstance", "len", "list", "range", "str", "tuple"]⟩
def items : List Item := [J0, J1, J2, J3, J4, J5]
theorem form0 (K : PySem.W.Frag) (f : Addr) (fd : FuncData) (F : L2.FunD K J0.I.name J0.I.qual J0.s.params J0.s.body J0.s.scope (J0.dd.dvs K) (J0.dd.kws K) f fd) : ∀ p ∈ J0.I.forms, FormOk K fd J0.I.ps p.1 p.2.1 p.2.2 :=
  List.forall_mem_cons.mpr ⟨form_of F rfl (fun _ _ _ _ _ _ us ws h1 h2 => match us, ws, h1, h2 with | [_], [], _, _ => rfl), fun _ h => nomatch h⟩
theorem form1 (K : PySem.W.Frag) (f : Addr) (fd : FuncData) (F : L2.FunD K J1.I.name J1.I.qual J1.s.params J1.s.body J1.s.scope (J1.dd.dvs K) (J1.dd.kws K) f fd) : ∀ p ∈ J1.I.forms, FormOk K fd J1.I.ps p.1 p.2.1 p.2.2 :=
  List.forall_mem_cons.mpr ⟨form_k F [("itself", (L2.V.bl false))] (List.cons_ne_nil _ _) (List.forall_mem_cons.mpr ⟨.head _, fun _ h => nomatch h⟩) rfl rfl (fun _ _ _ _ _ _ us ws mv h1 h2 h3 => match us, ws, mv, h1, h2, h3 with | [_], [], [_], _, _, _ => ⟨_, _, _, _, _, _, rfl, rfl, rfl⟩), List.forall_mem_cons.mpr ⟨form_of F rfl (fun _ _ _ _ _ _ us ws h1 h2 => match us, ws, h1, h2 with | [_], [_], _, _ => rfl), List.forall_mem_cons.mpr ⟨form_of F rfl (fun _ _ _ _ _ _ us ws h1 h2 => match us, ws, h1, h2 with | [], [_, _], _, _ => rfl), fun _ h => nomatch h⟩⟩⟩
theorem form2 (K : PySem.W.Frag) (f : Addr) (fd : FuncData) (F : L2.FunD K J2.I.name J2.I.qual J2.s.params J2.s.body J2.s.scope (J2.dd.dvs K) (J2.dd.kws K) f fd) : ∀ p ∈ J2.I.forms, FormOk K fd J2.I.ps p.1 p.2.1 p.2.2 :=
  List.forall_mem_cons.mpr ⟨form_of F rfl (fun _ _ _ _ _ _ us ws h1 h2 => match us, ws, h1, h2 with | [_], [], _, _ => rfl), fun _ h => nomatch h⟩
theorem form3 (K : PySem.W.Frag) (f : Addr) (fd : FuncData) (F : L2.FunD K J3.I.name J3.I.qual J3.s.params J3.s.body J3.s.scope (J3.dd.dvs K) (J3.dd.kws K) f fd) : ∀ p ∈ J3.I.forms, FormOk K fd J3.I.ps p.1 p.2.1 p.2.2 :=
  List.forall_mem_cons.mpr ⟨form_of F rfl (fun _ _ _ _ _ _ us ws h1 h2 => match us, ws, h1, h2 with | [_, _], [], _, _ => rfl), fun _ h => nomatch h⟩
theorem form4 (K : PySem.W.Frag) (f : Addr) (fd : FuncData) (F : L2.FunD K J4.I.name J4.I.qual J4.s.params J4.s.body J4.s.scope (J4.dd.dvs K) (J4.dd.kws K) f fd) : ∀ p ∈ J4.I.forms, FormOk K fd J4.I.ps p.1 p.2.1 p.2.2 :=
  List.forall_mem_cons.mpr ⟨form_of F rfl (fun _ _ _ _ _ _ us ws h1 h2 => match us, ws, h1, h2 with | [_, _], [], _, _ => rfl), fun _ h => nomatch h⟩
theorem form5 (K : PySem.W.Frag) (f : Addr) (fd : FuncData) (F : L2.FunD K J5.I.name J5.I.qual J5.s.params J5.s.body J5.s.scope (J5.dd.dvs K) (J5.dd.kws K) f fd) : ∀ p ∈ J5.I.forms, FormOk K fd J5.I.ps p.1 p.2.1 p.2.2 :=
  fun _ h => nomatch h
theorem forms : ∀ t ∈ items, ∀ (K : PySem.W.Frag) (f : Addr) (fd : FuncData), L2.FunD K t.I.name t.I.qual t.s.params t.s.body t.s.scope (t.dd.dvs K) (t.dd.kws K) f fd → ∀ p ∈ t.I.forms, FormOk K fd t.I.ps p.1 p.2.1 p.2.2 :=
  List.forall_mem_cons.mpr ⟨form0, List.forall_mem_cons.mpr ⟨form1, List.forall_mem_cons.mpr ⟨form2, List.forall_mem_cons.mpr ⟨form3, List.forall_mem_cons.mpr ⟨form4, List.forall_mem_cons.mpr ⟨form5, fun _ h => nomatch h⟩⟩⟩⟩⟩⟩
theorem checked : items.all (Item.ok T) = true := by kernel_rfl
abbrev RowL : PySem.W.OpenRow := PySem.W.OpenLaw.row PySem.Challenge.rw_namedlater_k41_standings_told
abbrev hk : PySem.W.Hook := He.hookD 4 (tabFa T) (items.map Item.dd)
def ob (s : PySem.W.SharedT) : He.AlD := He.obsDG 4 (tabFa T) (items.map Item.dd) (HandSHeadRun.getT s)
theorem ob_eq (s : PySem.W.SharedT) : ob s = hk.obs s.abs := He.obsDG_eq (HandSHeadRun.getT_eq s)
theorem run (w : World) : HandSHeadRun.RunEq RowL (PySem.W.view RowL.prog [8]) hk ob 30000 ["is_number", "is_standing", "_law_bag", "_law_draw", "_law_same"] w := by
  intro os
  kernel_rfl
-- places: is_number=1 is_standing=3 _law_bag=5 _law_draw=6 _law_same=7 law=8

end NL
end
section
namespace NL
open PySem
local macro_rules | `(tactic| fail) => `(tactic| first
  | (with_reducible apply s_cons) | (with_reducible apply s_nil) | (with_reducible apply s_asg) | (with_reducible apply s_prs) | (with_reducible apply s_rtn) | (with_reducible apply s_iff) | (with_reducible apply s_exq) | (with_reducible apply s_pss) | (with_reducible apply s_brq) | (with_reducible apply s_cnq)
  | (with_reducible apply t_name) | (with_reducible apply t_sub) | (with_reducible apply t_tup) | (with_reducible apply t_nil) | (with_reducible apply t_cons)
  | (with_reducible apply r_lit) | ((with_reducible apply r_var); exact rfl) | (with_reducible apply r_bin) | (with_reducible apply r_neg) | (with_reducible apply r_not) | (with_reducible apply r_and) | (with_reducible apply r_or) | (with_reducible apply r_ifx) | (with_reducible apply r_cmp) | (with_reducible apply r_chn) | (with_reducible apply r_tup) | (with_reducible apply r_lst) | (with_reducible apply r_sub) | (with_reducible apply r_sli) | (with_reducible apply r_pno) | (with_reducible apply r_pex) | (with_reducible apply r_call) | (with_reducible apply r_blt) | (with_reducible apply r_nil) | (with_reducible apply r_cons)
  | ((with_reducible apply r_callR); exact rfl; exact rfl; exact rfl; exact rfl)
  | (with_reducible apply v_add) | (with_reducible apply v_sub) | (with_reducible apply v_lt) | (with_reducible apply v_le) | (with_reducible apply v_gt) | (with_reducible apply v_ge) | (with_reducible apply v_lenS) | (with_reducible apply v_lenT) | (with_reducible apply v_abs) | (with_reducible apply v_int) | (with_reducible apply v_listS) | (with_reducible apply v_listT) | (with_reducible apply v_sliK) | (with_reducible apply v_sliS) | (with_reducible apply v_sl2) | (with_reducible apply v_sliT) | (with_reducible apply v_isN) | (with_reducible apply v_isI) | (with_reducible apply v_isB) | (with_reducible apply v_isS) | (with_reducible apply v_isR) | (with_reducible apply v_isT) | (with_reducible apply v_inN) | (with_reducible apply v_inI) | (with_reducible apply v_inB) | (with_reducible apply v_inS) | (with_reducible apply v_inR) | (with_reducible apply v_inT) | ((with_reducible apply v_mulR); decide) | ((with_reducible apply v_mulL'); decide) | ((with_reducible apply v_mod); decide) | ((with_reducible apply v_pow); decide)
  | ((with_reducible apply v_eq); exact eq_int) | ((with_reducible apply v_ne); exact eq_int) | ((with_reducible apply v_eq); exact eq_bl) | ((with_reducible apply v_ne); exact eq_bl) | ((with_reducible apply v_eq); exact eq_str) | ((with_reducible apply v_ne); exact eq_str)
  | ((with_reducible apply v_newL); (simp only [List.length_cons, List.length_nil, line] <;> omega)) | ((with_reducible apply v_newT); (simp only [List.length_cons, List.length_nil, line] <;> omega))
  | ((with_reducible apply v_subL0); (first | (with_reducible assumption) | (with_reducible exact ls_new) | (with_reducible exact ls_set (by assumption)) | (with_reducible exact ls_old (by with_reducible assumption)) | (with_reducible exact ls_ne (by assumption) (by with_reducible assumption))))
  | ((with_reducible apply v_subL1); (first | (with_reducible assumption) | (with_reducible exact ls_new) | (with_reducible exact ls_set (by assumption)) | (with_reducible exact ls_old (by with_reducible assumption)) | (with_reducible exact ls_ne (by assumption) (by with_reducible assumption))))
  | ((with_reducible apply v_subL2); (first | (with_reducible assumption) | (with_reducible exact ls_new) | (with_reducible exact ls_set (by assumption)) | (with_reducible exact ls_old (by with_reducible assumption)) | (with_reducible exact ls_ne (by assumption) (by with_reducible assumption))))
  | ((with_reducible apply v_subL3); (first | (with_reducible assumption) | (with_reducible exact ls_new) | (with_reducible exact ls_set (by assumption)) | (with_reducible exact ls_old (by with_reducible assumption)) | (with_reducible exact ls_ne (by assumption) (by with_reducible assumption))))
  | ((with_reducible apply v_lenL); (first | (with_reducible assumption) | (with_reducible exact ls_new) | (with_reducible exact ls_set (by assumption)) | (with_reducible exact ls_old (by with_reducible assumption)) | (with_reducible exact ls_ne (by assumption) (by with_reducible assumption))))
  | ((with_reducible apply v_listL); (first | (with_reducible assumption) | (with_reducible exact ls_new) | (with_reducible exact ls_set (by assumption)) | (with_reducible exact ls_old (by with_reducible assumption)) | (with_reducible exact ls_ne (by assumption) (by with_reducible assumption))))
  | (with_reducible apply r_isi) | ((with_reducible apply c_t); decide) | ((with_reducible apply c_f); decide)
  | ((with_reducible apply isi_ref); (first | (with_reducible assumption) | (with_reducible exact ls_new) | (with_reducible exact ls_old (by with_reducible assumption))); exact rfl)
  | (with_reducible apply v_neg) | (with_reducible apply v_subT0) | (with_reducible apply v_subT1) | (with_reducible apply v_subT2) | (with_reducible apply v_subT3)
  | ((with_reducible apply v_eq); with_reducible exact eq_tup2) | ((with_reducible apply v_ne); with_reducible exact eq_tup2) | ((with_reducible apply v_in); with_reducible exact in_two) | ((with_reducible apply v_nin); with_reducible exact in_two)
  | (with_reducible apply tr_bl) | (with_reducible apply x_int) | ((with_reducible apply isi_v); exact rfl))
/-! ### this law -/
def st (a b c w : Int) (s : Bool) : Bool := decide (0 ≤ a ∧ a ≤ 2 ∧ 0 ≤ b ∧ b ≤ 2 ∧ (c = 0 ∨ c = 1) ∧ (w = 0 ∨ w = 1) ∧ (a = 2 ∨ c = 0 ∧ w = 0) ∧ (s = true → a = b) ∧ (0 < b ∨ c = 0))
def isnum : Va → Bool
  | .int _ => true
  | _ => false
def tb := tbOf items
def cn := conAt T
def sb : Nat → Nat → Bool := fun _ _ => false
theorem tb0 : tb 0 = some ⟨1, 1, true, B0⟩ := rfl
theorem tb1 : tb 1 = some ⟨2, 6, true, B1⟩ := rfl
theorem tb2 : tb 2 = some ⟨1, 2, true, bodyBag⟩ := rfl
theorem tb3 : tb 3 = some ⟨2, 4, true, bodyDraw⟩ := rfl
theorem tb4 : tb 4 = some ⟨2, 3, true, bodySame 4⟩ := rfl
theorem tb5 : tb 5 = some ⟨1, 12, true, B5⟩ := rfl
section
variable {d : Nat} {bars : List Nat} {h : Hep} {E : Xc → Hep → Prop} {Q : Va → Hep → Prop}
theorem num_ok {v : Va} (hv : flat v = true) (q : Q (.bl (isnum v)) h) : Ok (callF tb sb cn (d + 1) bars 0 [v] h) Q E := by
  refine c_def tb0 rfl rfl (c_flat ?_)
  show OkO (exs _ _ B0 [some v] h) _
  unfold B0
  cases v with
  | non => repeat fail
           rw [List.take_length]; exact ⟨rfl, q⟩
  | bl b => repeat fail
            rw [List.take_length]; exact ⟨rfl, q⟩
  | int i => repeat fail
             rw [List.take_length]; exact ⟨rfl, q⟩
  | str s => repeat fail
             rw [List.take_length]; exact ⟨rfl, q⟩
  | _ => cases hv
theorem nums {l : List Va} {Q : Va → Hep → Prop} {E : Xc → Hep → Prop} {bars' : List Nat} {s : Va} (hf : ∀ v ∈ l, flat v = true) (hl : l.length ≤ line) (q : ∀ o, Q (.bl (l.all isnum)) (h ++ [o])) :
    Ok (ev ⟨callF tb sb cn (d + 1), sb, cn⟩ bars' [some (.tup l), some s, none, none, none, none] (.comp (.call 0 1 1 0 [.arg 0] (.cons (.var 2) .nil) .nil) (.name 2) (.seq (.var 0)) (.lit (.bl true)) [2]) h) (fun x h => Ok (evs ⟨callF tb sb cn (d + 1), sb, cn⟩ bars' [some (.tup l), some s, none, none, none, none] .nil h) (fun l h => Ok (bltV .all (x :: l) h) Q E) E) E := by
  refine r_compV (vs := l) (fun h' => h' = h) (fun v y => y = .bl (isnum v)) ?_ hl ?_ ?_
  · apply q_seq
    repeat fail
    exact .inr (.inl ⟨l, rfl, rfl, rfl⟩)
  · intro v hv h' hh
    subst hh
    repeat fail
    dsimp only
    exact num_ok (hf v hv) ⟨rfl, rfl⟩
  · intro ys h' hr hh
    subst hh
    rw [hr.map (f := fun v => .bl (isnum v)) fun _ _ z => z]
    repeat fail
    refine v_all ls_new bools_mapG ?_
    rw [List.all_map]
    exact q _
theorem stand_no {v s : Va} (hv : isAny h sb v [.tuple] = some false) (q : Q (.bl false) h) : Ok (callF tb sb cn (d + 2) bars 1 [v, s] h) Q E := by
  refine c_def tb1 rfl rfl (c_flat ?_)
  show OkO (exs _ _ B1 [some v, some s, none, none, none, none] h) _
  unfold B1
  repeat fail
  refine isi_v hv ?_
  repeat fail
  rw [List.take_length]
  exact ⟨rfl, q⟩
theorem stand_len {l : List Va} {s : Va} (hl : l.length ≠ 4) (q : Q (.bl false) h) : Ok (callF tb sb cn (d + 2) bars 1 [.tup l, s] h) Q E := by
  refine c_def tb1 rfl rfl (c_flat ?_)
  show OkO (exs _ _ B1 [some (.tup l), some s, none, none, none, none] h) _
  unfold B1
  repeat fail
  rw [decide_eq_false (show ¬ (l.length : Int) = 4 by omega)]
  repeat fail
  rw [List.take_length]
  exact ⟨rfl, q⟩
theorem stand_bad {a b c w : Va} {s : Va} (hf : ∀ v ∈ [a, b, c, w], flat v = true) (hn : [a, b, c, w].all isnum = false) (q : Q (.bl false) h) : Ok (callF tb sb cn (d + 2) bars 1 [.tup [a, b, c, w], s] h) Q E := by
  refine c_def tb1 rfl rfl (c_flat ?_)
  show OkO (exs _ _ B1 [some (.tup [a, b, c, w]), some s, none, none, none, none] h) _
  unfold B1
  repeat fail
  rw [decide_eq_true (show (([a, b, c, w].length : Nat) : Int) = 4 from rfl)]
  repeat fail
  refine nums hf (by show 4 ≤ 100000; decide) fun o => ?_
  rw [hn]
  repeat fail
  rw [take_app]
  exact ⟨rfl, q⟩
theorem stand_ok {a b c w : Int} {s : Bool} (q : Q (.bl (st a b c w s)) h) : Ok (callF tb sb cn (d + 2) bars 1 [.tup [.int a, .int b, .int c, .int w], .bl s] h) Q E := by
  refine c_def tb1 rfl rfl (c_flat ?_)
  show OkO (exs _ _ B1 [some (.tup [.int a, .int b, .int c, .int w]), some (.bl s), none, none, none, none] h) _
  have fin : ∀ {x : Bool}, x = st a b c w s → ∀ {m : Hep}, (Va.bl x).bel h.length = true ∧ Q (.bl x) ((h ++ m).take h.length) := fun e m => by
    rw [take_app, e]
    exact ⟨rfl, q⟩
  unfold B1
  repeat fail
  rw [decide_eq_true (show (([Va.int a, Va.int b, Va.int c, Va.int w].length : Nat) : Int) = 4 from rfl)]
  repeat fail
  refine nums (l := [.int a, .int b, .int c, .int w]) (fun v hv => by simp at hv; rcases hv with rfl | rfl | rfl | rfl <;> rfl) (by show 4 ≤ 100000; decide) fun o => ?_
  rw [show ([Va.int a, Va.int b, Va.int c, Va.int w].all isnum) = true from rfl]
  repeat fail
  iterate 12
    all_goals (try refine ⟨fun z => ?_, fun z => ?_⟩)
    all_goals (repeat fail)
  all_goals refine fin ?_
  all_goals unfold st
  all_goals clear fin q
  all_goals (cases s <;> simp only [decide_eq_true_eq, Bool.not_eq_true', decide_eq_false_iff_not, Bool.not_eq_false', Bool.or_eq_true, Bool.or_eq_false_iff, Bool.and_eq_true, Bool.and_eq_false_iff, reduceCtorEq, false_implies, true_implies, forall_const, true_and] at * <;> first | exact (decide_eq_false (by omega)).symm | exact (decide_eq_true (by omega)).symm | exact decide_eq_decide.mpr (by omega))
end
def odds (a : Nat) : List Va := [.non, .int 0, .tup [], .tup [.int 0, .int 0, .int 0], .tup [.int 0, .int 0, .int 0, .int 0, .int 0], .ref a, .str [48, 48, 48, 48], .tup [.bl true, .int 0, .int 0, .int 0], .tup [.int 2, .int 2, .bl false, .int 0], .tup [.int 2, .int 2, .int 0, .non], .tup [.str [50], .int 2, .int 0, .int 0]]
def Inv (sc : Va) (e : Env') (h : Hep) : Prop := (∃ t a b c f g i j k, e = [some sc, some (.ref 2), t, a, b, c, f, g, i, j, k, none]) ∧ Bag h 2
def Inv1 (sc : Va) (a : Int) (e : Env') (h : Hep) : Prop := (∃ t o b f g i j k, e = [some sc, some (.ref 2), t, some (.int a), o, b, f, g, i, j, k, none]) ∧ Bag h 2
def Inv2 (sc : Va) (a b : Int) (n : Nat) (l : List Va) (e : Env') (h : Hep) : Prop := (∃ t o f c d j k, e = [some sc, some (.ref 2), t, some (.int a), o, some (.int b), f, c, d, j, k, none]) ∧ Bag h 2 ∧ lsAt h n = some l
theorem st_true {a b c w : Int} : st a b c w true = (st a b c w false && decide (a = b)) := by
  unfold st
  rw [← Bool.decide_and]
  refine decide_eq_decide.mpr ?_
  simp only [reduceCtorEq, false_implies, true_implies, true_and, forall_const]
  omega
def tups (a b r s : Int) : List Va := [.tup [.int a, .int b, .int 0, .int 0], .tup [.int a, .int b, .int 1, .int 0], .tup [.int a, .int b, .int 0, .int 1], .tup [.int a, .int b, .int 1, .int 1], .tup [.int a, .int b, .int r, .int s]]
theorem range_int {v : Va} {i : Int} {n k : Nat} (h : (rangeL i n)[k]? = some v) : ∃ j : Int, v = .int j := by
  unfold rangeL at h
  rw [List.getElem?_map] at h
  cases q : (List.range n)[k]? with
  | none => rw [q] at h; cases h
  | some m => rw [q] at h; cases h; exact ⟨_, rfl⟩
def DEEP : Nat := 16
theorem spec : ∀ ns : List Int, ns.length ≤ 63 → ∃ h, callF (tbOf items) (fun _ _ => false) (conAt T) (DEEP + 1) [] 5 [.kl (ns.map .int)] [] = .ok (.bl true) h := by
  intro ns hns
  suffices hh : ∀ d, Ok (callF tb sb cn (d + 6) [] 5 [.kl (ns.map .int)] []) (fun v _ => v = .bl true) fun _ _ => False by
    obtain ⟨v, h, e, rfl⟩ := (hh 11).eq
    exact ⟨h, e⟩
  intro d
  refine c_def (d := d + 5) tb5 rfl rfl (c_flat ?_)
  show OkO (exs _ _ B5 [some (.kl (ns.map .int)), none, none, none, none, none, none, none, none, none, none, none] []) _
  unfold B5
  repeat fail
  dsimp only
  refine bag_ok (d := d + 4) tb2 hns fun h1 l1 B1 _ => ?_
  have B1 : Bag h1 2 := B1
  have l1 : h1.length = 3 := l1
  repeat fail
  refine s_forV (vs := rangeL 0 4) (fun _ => Inv (.kl (ns.map .int))) ?_ ?_ ?_
  · apply q_ran1
    repeat fail
    exact ⟨by decide, rfl, ⟨_, _, _, _, _, _, _, _, _, rfl⟩, B1⟩
  · intro i v e h' hv hI
    obtain ⟨⟨t, a, b, c, f, g, i', j, k, rfl⟩, B⟩ := hI
    repeat fail
    refine s_forV (vs := rangeL (-1) 5) (fun _ => Inv (.kl (ns.map .int))) ?_ ?_ ?_
    · apply q_ran2
      repeat fail
      exact ⟨_, _, rfl, rfl, by decide, rfl, ⟨_, _, _, _, _, _, _, _, _, rfl⟩, B⟩
    · intro i2 v2 e2 h2 hv2 hI2
      obtain ⟨⟨t, a, b, c, f, g, i', j, k, rfl⟩, B⟩ := hI2
      obtain ⟨one, rfl⟩ := range_int hv2
      repeat fail
      refine s_forV (vs := rangeL (-1) 5) (fun _ => Inv1 (.kl (ns.map .int)) one) ?_ ?_ ?_
      · apply q_ran2
        repeat fail
        exact ⟨_, _, rfl, rfl, by decide, rfl, ⟨_, _, _, _, _, _, _, _, rfl⟩, B⟩
      · intro i3 v3 e3 h3 hv3 hI3
        clear t a b c f g i' j k B
        obtain ⟨⟨t, o, b, f, g, i', j, k, rfl⟩, B⟩ := hI3
        obtain ⟨other, rfl⟩ := range_int hv3
        repeat fail
        dsimp only
        refine draw_ok (d := d + 4) tb3 B (by decide) (by decide) fun r h4 r0 r1 U4 => ?_
        repeat fail
        try dsimp only
        refine draw_ok (d := d + 4) tb3 U4.bag (by decide) (by decide) fun r' h5 r0' r1' U5 => ?_
        repeat fail
        have B5 := U5.bag
        refine s_forL (fun _ => Inv2 (.kl (ns.map .int)) one other h5.length (tups one other (r - 1) (r' - 1))) ?_
        apply q_seq
        repeat fail
        refine .inl ⟨_, _, rfl, ls_new, h5.length, _, rfl, fun i e h z => z.2.2, ⟨⟨_, _, _, _, _, _, _, rfl⟩, B5.app, ls_new⟩, fun e h z => ?_, fun i4 v4 e4 h4 hv4 hI4 => ?_⟩
        · obtain ⟨⟨t, o, f, c, dd, j, k, rfl⟩, B, _⟩ := z
          exact ⟨⟨_, _, _, _, _, _, _, _, rfl⟩, B⟩
        · obtain ⟨x, y, rfl⟩ : ∃ x y : Int, v4 = .tup [.int one, .int other, .int x, .int y] := by
            have := List.mem_of_getElem? hv4
            simp only [tups, List.mem_cons, List.not_mem_nil, or_false] at this
            rcases this with rfl | rfl | rfl | rfl | rfl <;> exact ⟨_, _, rfl⟩
          obtain ⟨⟨t, o, f, c, dd, j, k, rfl⟩, B, kl⟩ := hI4
          fail
          refine s_cons (s_asg (Ok.cut (h := h4) (x := .bl (decide (0 ≤ one ∧ one ≤ 2 ∧ 0 ≤ other ∧ other ≤ 2 ∧ (x = 0 ∨ x = 1) ∧ (y = 0 ∨ y = 1)))) ?_ ?_))
          · repeat fail
            iterate 8
              all_goals (try refine ⟨fun z => ?_, fun z => ?_⟩)
              all_goals (repeat fail)
            all_goals refine ⟨congrArg Va.bl ?_, rfl⟩
            all_goals (try unfold st)
            all_goals (simp only [decide_eq_true_eq, Bool.not_eq_true', decide_eq_false_iff_not, Bool.not_eq_false', Bool.or_eq_true, Bool.or_eq_false_iff, Bool.and_eq_true, Bool.and_eq_false_iff, ← Bool.decide_or, ← Bool.decide_and, reduceCtorEq, false_implies, true_implies, true_and] at * <;> first | exact (decide_eq_false (by omega)).symm | exact (decide_eq_true (by omega)).symm | exact decide_eq_decide.mpr (by omega) | trace_state)
          · fail
            refine s_cons (s_asg (Ok.cut (h := h4) (x := .bl (st one other x y false)) ?_ ?_))
            · repeat fail
              iterate 8
                all_goals (try refine ⟨fun z => ?_, fun z => ?_⟩)
                all_goals (repeat fail)
              all_goals refine ⟨congrArg Va.bl ?_, rfl⟩
              all_goals (try unfold st)
              all_goals (simp only [decide_eq_true_eq, Bool.not_eq_true', decide_eq_false_iff_not, Bool.not_eq_false', Bool.or_eq_true, Bool.or_eq_false_iff, Bool.and_eq_true, Bool.and_eq_false_iff, ← Bool.decide_or, ← Bool.decide_and, reduceCtorEq, false_implies, true_implies, true_and] at * <;> first | exact (decide_eq_false (by omega)).symm | exact (decide_eq_true (by omega)).symm | exact decide_eq_decide.mpr (by omega) | trace_state)
            · repeat fail
              try dsimp only
              refine stand_ok (d := d + 3) ?_
              repeat fail
              try dsimp only
              refine stand_ok (d := d + 3) ?_
              repeat fail
              try dsimp only
              refine stand_ok (d := d + 3) ?_
              rw [st_true]
              generalize st one other x y false = gg
              repeat fail
              refine ⟨fun z => ?_, fun z => ?_⟩
              · subst z
                repeat fail
                try dsimp only
                refine same_ok tb4 2 (d + 5) _ _ _ _ _ _ (by omega) (same_bools (bs := [true, decide (one = other), true]) (by show 3 ≤ 100000; decide) (ls_old ls_new) ls_new) ?_
                repeat fail
                exact ⟨⟨_, _, _, _, _, _, _, rfl⟩, B.app.app, ls_old (ls_old kl)⟩
              · subst z
                repeat fail
                try dsimp only
                refine same_ok tb4 2 (d + 5) _ _ _ _ _ _ (by omega) (same_bools (bs := [false, false, false]) (by show 3 ≤ 100000; decide) (ls_old ls_new) ls_new) ?_
                repeat fail
                exact ⟨⟨_, _, _, _, _, _, _, rfl⟩, B.app.app, ls_old (ls_old kl)⟩
      · intro e3 h3 hI3
        obtain ⟨⟨t, o, b, f, g, i', j, k, rfl⟩, B⟩ := hI3
        exact ⟨⟨_, _, _, _, _, _, _, _, _, rfl⟩, B⟩
    · intro e2 h2 hI2
      clear t a b c f g i' j k B
      obtain ⟨⟨t, a, b, c, f, g, i', j, k, rfl⟩, B⟩ := hI2
      repeat fail
      have ko : lsAt (h2 ++ [Ob.lst [Va.int 0, Va.int 0, Va.int 0, Va.int 0]] ++ [Ob.lst (odds h2.length)]) (h2 ++ [Ob.lst [Va.int 0, Va.int 0, Va.int 0, Va.int 0]]).length = some (odds h2.length) := ls_new
      have ka : lsAt (h2 ++ [Ob.lst [Va.int 0, Va.int 0, Va.int 0, Va.int 0]] ++ [Ob.lst (odds h2.length)]) h2.length = some [Va.int 0, Va.int 0, Va.int 0, Va.int 0] := ls_old ls_new
      have B2 : Bag (h2 ++ [Ob.lst [Va.int 0, Va.int 0, Va.int 0, Va.int 0]] ++ [Ob.lst (odds h2.length)]) 2 := B.app.app
      change Ok (ev _ _ _ _ (h2 ++ [Ob.lst [Va.int 0, Va.int 0, Va.int 0, Va.int 0]] ++ [Ob.lst (odds h2.length)])) _ _
      generalize (h2 ++ [Ob.lst [Va.int 0, Va.int 0, Va.int 0, Va.int 0]]).length = n1 at ko ⊢
      generalize h2 ++ [Ob.lst [Va.int 0, Va.int 0, Va.int 0, Va.int 0]] ++ [Ob.lst (odds h2.length)] = H2 at ko ka B2 ⊢
      refine r_compL (a := n1) (l := odds h2.length) (fun h => h = H2) (fun _ y => y = .bl false) (fun h e => by rw [e]; exact ko) ?_ (by show 11 ≤ 100000; decide) ?_ ?_
      · apply q_seq
        repeat fail
        exact .inl ⟨n1, odds h2.length, rfl, ko, rfl, rfl⟩
      · intro v hv h hh
        subst hh
        simp only [odds, List.mem_cons, List.not_mem_nil, or_false] at hv
        rcases hv with rfl | rfl | rfl | rfl | rfl | rfl | rfl | rfl | rfl | rfl | rfl
        all_goals repeat fail
        all_goals try dsimp only
        all_goals first
          | refine stand_no (d := d + 3) rfl ?_
          | refine stand_no (d := d + 3) (any_ref ka rfl) ?_
          | refine stand_len (d := d + 3) (by decide) ?_
          | refine stand_bad (d := d + 3) (fun v hv => by simp at hv; rcases hv with rfl | rfl | rfl | rfl <;> rfl) rfl ?_
        all_goals repeat fail
        all_goals try dsimp only
        all_goals first
          | exact stand_no (d := d + 3) rfl ⟨rfl, rfl⟩
          | exact stand_no (d := d + 3) (any_ref ka rfl) ⟨rfl, rfl⟩
          | exact stand_len (d := d + 3) (by decide) ⟨rfl, rfl⟩
          | exact stand_bad (d := d + 3) (fun v hv => by simp at hv; rcases hv with rfl | rfl | rfl | rfl <;> rfl) rfl ⟨rfl, rfl⟩
      intro ys h hr hh
      subst hh
      have ey : ys = (List.replicate 11 false).map Va.bl := hr.map (f := fun _ => .bl false) fun _ _ z => z
      rw [ey]
      clear ey hr
      repeat fail
      refine v_any ls_new bools_mapG ?_
      repeat fail
      exact ⟨⟨_, _, _, _, _, _, _, _, _, rfl⟩, B2.app⟩
  · intro e h' hI
    obtain ⟨⟨t, a, b, c, f, g, i', j, k, rfl⟩, B⟩ := hI
    repeat fail
    dsimp only
    refine stand_ok (d := d + 3) ⟨rfl, rfl⟩

end NL
end
open PySem PySem.W PySem.Calls PyProof.Rows
theorem PySem.Challenge.cw_namedlater_k41_standings_told_holds : PySem.Challenge.rw_namedlater_k41_standings_told.Holds := by
  w_on; o_law
  refine HandSHeadRun.head_any (r := OpenLaw.row PySem.Challenge.rw_namedlater_k41_standings_told) (q := view (OpenLaw.row PySem.Challenge.rw_namedlater_k41_standings_told).prog [8]) (H := NL.hk) (ob := NL.ob) (M := 30000) (loose := ["is_number", "is_standing", "_law_bag", "_law_draw", "_law_same"]) (d := HandSHeadRun.topDef (OpenLaw.row PySem.Challenge.rw_namedlater_k41_standings_told).prog 8) (kwd := []) NL.ob_eq
    (by kernel_rfl) (fun s => by kernel_rfl) NL.run (by kernel_rfl) (by kernel_rfl) (by kernel_rfl) (by rfl) (by first | assumption | decide +kernel) (by decide +kernel) ⟨rfl, rfl, rfl, rfl, rfl, by decide +kernel⟩ ?hw ?hc
  case hw => w_witness2
  case hc =>
    exact NL.law_end (l := PySem.Challenge.rw_namedlater_k41_standings_told) (n := 63) (k := NL.DEEP) (j := 5) (x := "_law_script") (t := NL.J5) (T := NL.T) (items := NL.items) (sub := fun _ _ => false) (ca := fun _ _ => 0) (fdn := fun _ => "") rfl (by decide) (by kernel_rfl) ⟨rfl, by decide, by decide⟩ rfl NL.checked (by kernel_rfl) (fun _ _ z => z) NL.forms rfl (by kernel_rfl) rfl rfl rfl rfl (fun _ _ _ _ _ _ us hl => match us, hl with | [_], _ => rfl) NL.spec
