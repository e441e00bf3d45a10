import PyProof.Rows.All
import Wide.All
import OpenK.AllK
import Wide.FinOn
import HandS.ForMost
import HandS.Flow
import HandS.Style
import HandS.Wide
import HandS.WideMore
import HandS.IsInst
import HandS.Evl
import HandS.Walk
import HandS.Defaults
import HandS.Head0
import HandS.Head1
import HandS.Head2
import HandS.HeadEnd
import HandS.HeadHook1
import HandS.HeadHook2
import HandS.HeadHook3
import KE.KExcSuper
import KE.KExcPX
import HandS.Exc
import HandS.ExcSuper
import HandS.ExcInit
import HandS.ExcField
import HandS.TryMany
import HandS.TryOnly
import HandS.RaiseFrom
import HandS.FStr
import HandS.TupAny
import KE.KUnpackStar
import HandS.Star
import HandS.More
import HandS.Small
import HandS.RaiseMore
import HandS.WordsExc
import HandS.DeepEq
import HandS.DictComp
import HandS.Codes
import HandS.MakeKwOnly
import HandS.Property
import HandS.OwnEq
import HandS.ListEq
import HandS.DictEq
import KE.KEqNest
import KE.KCallOwn
import KE.GoesMore
import KE.GoesEnum
import HandS.TupLe
import HandS.StrSplit
import HandS.RaiseFrom
import PySem.Challenge.RW_shiftparts_k07_stretches_of_all_keys
set_option Elab.async false
set_option linter.all false
set_option maxRecDepth 100000
set_option maxHeartbeats 4000000
/-! == and != of data at any depth: items by identity or by ==, lists and tuples of any length -/
namespace Z
open PySem PySem.Spec PyProof.Rows L2 Evl
def scB : V → V → Bool
  | .non, .non | .non, .int _ | .int _, .non | .non, .bl _ | .bl _, .non | .non, .str _ | .str _, .non => true
  | .int _, .int _ | .bl _, .bl _ | .str _, .str _ | .int _, .str _ | .str _, .int _ | .bl _, .str _ | .str _, .bl _ => true
  | _, _ => false
def isS : V → Bool
  | .non | .bl _ | .int _ | .str _ => true
  | _ => false
/-- items one by one, as far as both go -/
inductive EqZ (E : V → V → Bool → Prop) : List V → List V → List Bool → Prop
  | nil : EqZ E [] [] []
  | nilL {y : V} {ys : List V} : EqZ E [] (y :: ys) []
  | nilR {x : V} {xs : List V} : EqZ E (x :: xs) [] []
  | cons {x y : V} {xs ys : List V} {b : Bool} {e : List Bool} : E x y b → EqZ E xs ys e → EqZ E (x :: xs) (y :: ys) (b :: e)
/-- x == y gives b, items by E -/
inductive EqR (K : PySem.W.Frag) (H : Hp) (E : V → V → Bool → Prop) : V → V → Bool → Prop
  | sc {x y : V} : scB x y = true → EqR K H E x y (decide (x = y))
  | bi (a : Bool) (j : Int) : EqR K H E (.bl a) (.int j) ((if a then 1 else 0) == j)
  | ib (i : Int) (b : Bool) : EqR K H E (.int i) (.bl b) (i == (if b then 1 else 0))
  | ll {a b : Addr} {xs ys : List V} : SqL K H a xs → SqL K H b ys → xs.length ≠ ys.length → EqR K H E (.ref a) (.ref b) false
  | lst {a b : Addr} {xs ys : List V} {e : List Bool} : SqL K H a xs → SqL K H b ys → xs.length = ys.length → EqZ E xs ys e → EqR K H E (.ref a) (.ref b) (e.all id)
  | tup {a b : Addr} {xs ys : List V} {e : List Bool} : SqT K H a xs → SqT K H b ys → EqZ E xs ys e → EqR K H E (.ref a) (.ref b) (e.all id && decide (xs.length = ys.length))
  | lt {a b : Addr} {xs ys : List V} : SqL K H a xs → SqT K H b ys → EqR K H E (.ref a) (.ref b) false
  | tl {a b : Addr} {xs ys : List V} : SqT K H a xs → SqL K H b ys → EqR K H E (.ref a) (.ref b) false
  | ls {a : Addr} {xs : List V} {y : V} : SqL K H a xs → isS y = true → EqR K H E (.ref a) y false
  | sl {a : Addr} {xs : List V} {y : V} : SqL K H a xs → isS y = true → EqR K H E y (.ref a) false
  | ts {a : Addr} {xs : List V} {y : V} : SqT K H a xs → isS y = true → EqR K H E (.ref a) y false
  | st {a : Addr} {xs : List V} {y : V} : SqT K H a xs → isS y = true → EqR K H E y (.ref a) false
/-- two items: the same object, or equal by == -/
def EqI (K : PySem.W.Frag) (H : Hp) : Nat → V → V → Bool → Prop
  | 0 => fun _ _ _ => False
  | n + 1 => fun x y b => (∃ a, x = .ref a ∧ y = .ref a ∧ b = true) ∨ (EqR K H (EqI K H n) x y b ∧ ∀ a, x = .ref a → y ≠ .ref a)
theorem EqI.same {K : PySem.W.Frag} {H : Hp} {n : Nat} (a : Addr) : EqI K H (n + 1) (.ref a) (.ref a) true := .inl ⟨a, rfl, rfl, rfl⟩
theorem EqI.sc {K : PySem.W.Frag} {H : Hp} {n : Nat} {x y : V} (h : scB x y = true) : EqI K H (n + 1) x y (decide (x = y)) := .inr ⟨.sc h, fun a e => by
  subst e
  cases h⟩
theorem EqI.rc {K : PySem.W.Frag} {H : Hp} {n : Nat} {a b : Addr} {k : Bool} (h : EqR K H (EqI K H n) (.ref a) (.ref b) k) (ne : a ≠ b) : EqI K H (n + 1) (.ref a) (.ref b) k := .inr ⟨h, fun c e f => by
  injection e with e
  injection f with f
  exact ne (e.trans f.symm)⟩
section
variable {X : Cx} {pins : List (Addr × Obj)} {σ : L2.St} {H : Hp} {s : Shared}
theorem sc_rc {A : Around} {x y : V} {v u : Value} (h : scB x y = true) (rx : RelV x v) (ry : RelV y u) : SeqAt.RcAt A s v u (decide (x = y)) := by
  have beqd : ∀ (a b : Bool), decide (V.bl a = V.bl b) = (a == b) := fun a b => by cases a <;> cases b <;> rfl
  have beqi : ∀ (a b : Int), decide (V.int a = V.int b) = (a == b) := fun a b => by
    rw [Bool.beq_eq_decide_eq]
    simp
  have beqs : ∀ (a b : Str), decide (V.str a = V.str b) = (a == b) := fun a b => by
    rw [Bool.beq_eq_decide_eq]
    simp
  cases x <;> cases y <;> first | (exact absurd (show false = true from h) Bool.false_ne_true) | skip
  · cases rx; cases ry; exact SeqAt.RcAt.none_none
  · cases rx; cases ry; exact SeqAt.RcAt.none_bool _
  · cases rx; obtain ⟨t, rfl⟩ := ry; exact SeqAt.RcAt.none_int _ _
  · cases rx; obtain ⟨t, rfl⟩ := ry; exact SeqAt.RcAt.none_str _ _
  · cases rx; cases ry; exact SeqAt.RcAt.bool_none _
  · cases rx; cases ry; rw [beqd]; exact SeqAt.RcAt.bool_bool _ _
  · cases rx; obtain ⟨t, rfl⟩ := ry; exact SeqAt.RcAt.bool_str _ _ _
  · cases ry; obtain ⟨t, rfl⟩ := rx; exact SeqAt.RcAt.int_none _ _
  · obtain ⟨t, rfl⟩ := rx; obtain ⟨t', rfl⟩ := ry; rw [beqi]; exact SeqAt.RcAt.int_int _ _ _ _
  · obtain ⟨t, rfl⟩ := rx; obtain ⟨t', rfl⟩ := ry; exact SeqAt.RcAt.int_str _ _ _ _
  · cases ry; obtain ⟨t, rfl⟩ := rx; exact SeqAt.RcAt.str_none _ _
  · cases ry; obtain ⟨t, rfl⟩ := rx; exact SeqAt.RcAt.str_bool _ _ _
  · obtain ⟨t, rfl⟩ := rx; obtain ⟨t', rfl⟩ := ry; exact SeqAt.RcAt.str_int _ _ _ _
  · obtain ⟨t, rfl⟩ := rx; obtain ⟨t', rfl⟩ := ry; rw [beqs]; exact SeqAt.RcAt.str_str _ _ _ _
theorem sc_eq {A : Around} {x y : V} {v u : Value} (h : scB x y = true) (rx : RelV x v) (ry : RelV y u) : SeqAt.EqAt A s v u (decide (x = y)) := by
  have beqd : ∀ (a b : Bool), decide (V.bl a = V.bl b) = (a == b) := fun a b => by cases a <;> cases b <;> rfl
  have beqi : ∀ (a b : Int), decide (V.int a = V.int b) = (a == b) := fun a b => by
    rw [Bool.beq_eq_decide_eq]
    simp
  have beqs : ∀ (a b : Str), decide (V.str a = V.str b) = (a == b) := fun a b => by
    rw [Bool.beq_eq_decide_eq]
    simp
  cases x <;> cases y <;> first | (exact absurd (show false = true from h) Bool.false_ne_true) | skip
  · cases rx; cases ry; exact SeqAt.EqAt.same _
  · cases rx; cases ry; exact SeqAt.EqAt.none_bool _
  · cases rx; obtain ⟨t, rfl⟩ := ry; exact SeqAt.EqAt.none_int _ _
  · cases rx; obtain ⟨t, rfl⟩ := ry; exact SeqAt.EqAt.none_str _ _
  · cases rx; cases ry; exact SeqAt.EqAt.bool_none _
  · cases rx; cases ry; rw [beqd]; exact SeqAt.EqAt.bool_bool _ _
  · cases rx; obtain ⟨t, rfl⟩ := ry; exact SeqAt.EqAt.bool_str _ _ _
  · cases ry; obtain ⟨t, rfl⟩ := rx; exact SeqAt.EqAt.int_none _ _
  · obtain ⟨t, rfl⟩ := rx; obtain ⟨t', rfl⟩ := ry; rw [beqi]; exact SeqAt.EqAt.int_int _ _ _ _
  · obtain ⟨t, rfl⟩ := rx; obtain ⟨t', rfl⟩ := ry; exact SeqAt.EqAt.int_str _ _ _ _
  · cases ry; obtain ⟨t, rfl⟩ := rx; exact SeqAt.EqAt.str_none _ _
  · cases ry; obtain ⟨t, rfl⟩ := rx; exact SeqAt.EqAt.str_bool _ _ _
  · obtain ⟨t, rfl⟩ := rx; obtain ⟨t', rfl⟩ := ry; exact SeqAt.EqAt.str_int _ _ _ _
  · obtain ⟨t, rfl⟩ := rx; obtain ⟨t', rfl⟩ := ry; rw [beqs]; exact SeqAt.EqAt.str_str _ _ _ _
theorem sc_ne {A : Around} {x y : V} {v u : Value} (h : scB x y = true) (rx : RelV x v) (ry : RelV y u) : SeqAt.RcNeAt A s v u (!decide (x = y)) := by
  have beqd : ∀ (a b : Bool), decide (V.bl a = V.bl b) = (a == b) := fun a b => by cases a <;> cases b <;> rfl
  have beqi : ∀ (a b : Int), decide (V.int a = V.int b) = (a == b) := fun a b => by
    rw [Bool.beq_eq_decide_eq]
    simp
  have beqs : ∀ (a b : Str), decide (V.str a = V.str b) = (a == b) := fun a b => by
    rw [Bool.beq_eq_decide_eq]
    simp
  cases x <;> cases y <;> first | (exact absurd (show false = true from h) Bool.false_ne_true) | skip
  · cases rx; cases ry; exact SeqAt.RcNeAt.none_none
  · cases rx; cases ry; exact SeqAt.RcNeAt.none_bool _
  · cases rx; obtain ⟨t, rfl⟩ := ry; exact SeqAt.RcNeAt.none_int _ _
  · cases rx; obtain ⟨t, rfl⟩ := ry; exact SeqAt.RcNeAt.none_str _ _
  · cases rx; cases ry; exact SeqAt.RcNeAt.bool_none _
  · cases rx; cases ry; rw [beqd]; exact SeqAt.RcNeAt.bool_bool _ _
  · cases rx; obtain ⟨t, rfl⟩ := ry; exact SeqAt.RcNeAt.bool_str _ _ _
  · cases ry; obtain ⟨t, rfl⟩ := rx; exact SeqAt.RcNeAt.int_none _ _
  · obtain ⟨t, rfl⟩ := rx; obtain ⟨t', rfl⟩ := ry; rw [beqi]; exact SeqAt.RcNeAt.int_int _ _ _ _
  · obtain ⟨t, rfl⟩ := rx; obtain ⟨t', rfl⟩ := ry; exact SeqAt.RcNeAt.int_str _ _ _ _
  · cases ry; obtain ⟨t, rfl⟩ := rx; exact SeqAt.RcNeAt.str_none _ _
  · cases ry; obtain ⟨t, rfl⟩ := rx; exact SeqAt.RcNeAt.str_bool _ _ _
  · obtain ⟨t, rfl⟩ := rx; obtain ⟨t', rfl⟩ := ry; exact SeqAt.RcNeAt.str_int _ _ _ _
  · obtain ⟨t, rfl⟩ := rx; obtain ⟨t', rfl⟩ := ry; rw [beqs]; exact SeqAt.RcNeAt.str_str _ _ _ _
theorem range_all : ∀ e : List Bool, (List.range e.length).all (fun i => e.getD i false) = e.all id
  | [] => rfl
  | b :: e => by
    rw [List.length_cons, List.range_succ_eq_map, List.all_cons, List.all_map, List.all_cons, ← range_all e]
    rfl
theorem EqZ.len {E : V → V → Bool → Prop} {xs ys : List V} {e : List Bool} (h : EqZ E xs ys e) : e.length = min xs.length ys.length := by
  induction h with
  | nil => rfl
  | nilL => simp
  | nilR => simp
  | cons _ _ ih =>
    simp only [List.length_cons]
    omega
theorem EqZ.run {E : V → V → Bool → Prop} {A : Around} (ih : ∀ {x y : V} {b : Bool} {v u : Value}, E x y b → RelV x v → RelV y u → SeqAt.EqAt A s v u b) {xs ys : List V} {e : List Bool} (h : EqZ E xs ys e) : ∀ {us ws : List Value}, Vals xs us → Vals ys ws →
    ∀ j (h1 : j < us.length) (h2 : j < ws.length), SeqAt.EqAt A s us[j] ws[j] (e.getD j false) := by
  induction h with
  | nil => intro us ws r1 r2 j h1 h2; cases r1; exact absurd h1 (Nat.not_lt_zero j)
  | nilL => intro us ws r1 r2 j h1 h2; cases r1; exact absurd h1 (Nat.not_lt_zero j)
  | nilR => intro us ws r1 r2 j h1 h2; cases r2; exact absurd h2 (Nat.not_lt_zero j)
  | cons h _ k =>
    intro us ws r1 r2 j h1 h2
    cases r1 with
    | cons a1 b1 =>
      cases r2 with
      | cons a2 b2 =>
        cases j with
        | zero => exact ih h a1 a2
        | succ j => exact k b1 b2 j (Nat.lt_of_succ_lt_succ h1) (Nat.lt_of_succ_lt_succ h2)
theorem EqR.run (I : Inv X pins σ H s) {E : V → V → Bool → Prop} {A : Around} (hu : A.units < cLine) (ih : ∀ {x y : V} {b : Bool} {v u : Value}, E x y b → RelV x v → RelV y u → SeqAt.EqAt A.in1 s v u b)
    {x y : V} {b : Bool} {v u : Value} (h : EqR X.K H E x y b) (rx : RelV x v) (ry : RelV y u) : SeqAt.RcAt A s v u b := by
  cases h with
  | sc h => exact sc_rc h rx ry
  | bi a j => cases rx; obtain ⟨t, rfl⟩ := ry; exact SeqAt.RcAt.bool_int _ _ _
  | ib i b => cases ry; obtain ⟨t, rfl⟩ := rx; exact SeqAt.RcAt.int_bool _ _ _
  | ll h1 h2 hn =>
    cases rx; cases ry
    obtain ⟨i1, r1, p1, _⟩ := I.list h1
    obtain ⟨i2, r2, p2, _⟩ := I.list h2
    refine SeqAt.RcAt.lists_lengths p1.isList p2.isList ?_ hu
    have e1 := r1.length
    have e2 := r2.length
    simp only [List.size_toArray, bne_iff_ne]
    omega
  | @lst a b xs ys e h1 h2 hl hz =>
    cases rx; cases ry
    obtain ⟨i1, r1, p1, _⟩ := I.list h1
    obtain ⟨i2, r2, p2, _⟩ := I.list h2
    have e1 := r1.length
    have e2 := r2.length
    have el := hz.len
    have q := SeqAt.RcAt.lists (A := A) (e := fun i => e.getD i false) p1.isList p2.isList (by simp only [List.size_toArray]; omega) hu
      (fun j h1 h2 => hz.run ih r1 r2 j (by simpa using h1) (by simpa using h2))
    rw [show i1.toArray.size = e.length by simp only [List.size_toArray]; omega, range_all] at q
    exact q
  | @tup a b xs ys e h1 h2 hz =>
    cases rx; cases ry
    obtain ⟨i1, r1, p1, _⟩ := I.tuple h1
    obtain ⟨i2, r2, p2, _⟩ := I.tuple h2
    have e1 := r1.length
    have e2 := r2.length
    have el := hz.len
    have q := SeqAt.RcAt.tuples (A := A) (e := fun i => e.getD i false) p1 p2 hu
      (fun j h1 h2 => hz.run ih r1 r2 j (by simpa using h1) (by simpa using h2))
    rw [show min i1.toArray.size i2.toArray.size = e.length by simp only [List.size_toArray]; omega, range_all] at q
    have q2 : (i1.toArray.size == i2.toArray.size) = decide (xs.length = ys.length) := by
      rw [Bool.beq_eq_decide_eq]
      simp only [List.size_toArray]
      rw [e1, e2]
    rw [q2] at q
    exact q
  | lt h1 h2 =>
    cases rx; cases ry
    obtain ⟨i1, r1, p1, _⟩ := I.list h1
    obtain ⟨i2, r2, p2, _⟩ := I.tuple h2
    exact SeqAt.RcAt.list_tuple p1.isList p2 hu
  | tl h1 h2 =>
    cases rx; cases ry
    obtain ⟨i1, r1, p1, _⟩ := I.tuple h1
    obtain ⟨i2, r2, p2, _⟩ := I.list h2
    exact SeqAt.RcAt.tuple_list p1 p2.isList hu
  | ls h1 hs =>
    cases rx
    obtain ⟨i1, r1, p1, _⟩ := I.list h1
    cases y with
    | non => cases ry; exact SeqAt.RcAt.list_none p1.isList hu
    | bl b => cases ry; exact SeqAt.RcAt.list_bool _ p1.isList hu
    | int i => obtain ⟨t, rfl⟩ := ry; exact SeqAt.RcAt.list_int _ _ p1.isList hu
    | str z => obtain ⟨t, rfl⟩ := ry; exact SeqAt.RcAt.list_str _ _ p1.isList hu
    | _ => cases hs
  | sl h1 hs =>
    cases ry
    obtain ⟨i1, r1, p1, _⟩ := I.list h1
    cases x with
    | non => cases rx; exact SeqAt.RcAt.none_list p1.isList hu
    | bl b => cases rx; exact SeqAt.RcAt.bool_list _ p1.isList hu
    | int i => obtain ⟨t, rfl⟩ := rx; exact SeqAt.RcAt.int_list _ _ p1.isList hu
    | str z => obtain ⟨t, rfl⟩ := rx; exact SeqAt.RcAt.str_list _ _ p1.isList hu
    | _ => cases hs
  | ts h1 hs =>
    cases rx
    obtain ⟨i1, r1, p1, _⟩ := I.tuple h1
    cases y with
    | non => cases ry; exact SeqAt.RcAt.tuple_none p1 hu
    | bl b => cases ry; exact SeqAt.RcAt.tuple_bool _ p1 hu
    | int i => obtain ⟨t, rfl⟩ := ry; exact SeqAt.RcAt.tuple_int _ _ p1 hu
    | str z => obtain ⟨t, rfl⟩ := ry; exact SeqAt.RcAt.tuple_str _ _ p1 hu
    | _ => cases hs
  | st h1 hs =>
    cases ry
    obtain ⟨i1, r1, p1, _⟩ := I.tuple h1
    cases x with
    | non => cases rx; exact SeqAt.RcAt.none_tuple p1 hu
    | bl b => cases rx; exact SeqAt.RcAt.bool_tuple _ p1 hu
    | int i => obtain ⟨t, rfl⟩ := rx; exact SeqAt.RcAt.int_tuple _ _ p1 hu
    | str z => obtain ⟨t, rfl⟩ := rx; exact SeqAt.RcAt.str_tuple _ _ p1 hu
    | _ => cases hs
theorem EqR.runNe (I : Inv X pins σ H s) {E : V → V → Bool → Prop} {A : Around} (hu : A.units < cLine) (ih : ∀ {x y : V} {b : Bool} {v u : Value}, E x y b → RelV x v → RelV y u → SeqAt.EqAt A.in1 s v u b)
    {x y : V} {b : Bool} {v u : Value} (h : EqR X.K H E x y b) (rx : RelV x v) (ry : RelV y u) : SeqAt.RcNeAt A s v u (!b) := by
  cases h with
  | sc h => exact sc_ne h rx ry
  | bi a j => cases rx; obtain ⟨t, rfl⟩ := ry; exact SeqAt.RcNeAt.bool_int _ _ _
  | ib i b => cases ry; obtain ⟨t, rfl⟩ := rx; exact SeqAt.RcNeAt.int_bool _ _ _
  | ll h1 h2 hn =>
    cases rx; cases ry
    obtain ⟨i1, r1, p1, _⟩ := I.list h1
    obtain ⟨i2, r2, p2, _⟩ := I.list h2
    refine SeqAt.RcNeAt.lists_lengths p1.isList p2.isList ?_ hu
    have e1 := r1.length
    have e2 := r2.length
    simp only [List.size_toArray, bne_iff_ne]
    omega
  | @lst a b xs ys e h1 h2 hl hz =>
    cases rx; cases ry
    obtain ⟨i1, r1, p1, _⟩ := I.list h1
    obtain ⟨i2, r2, p2, _⟩ := I.list h2
    have e1 := r1.length
    have e2 := r2.length
    have el := hz.len
    have q := SeqAt.RcNeAt.lists (A := A) (e := fun i => e.getD i false) p1.isList p2.isList (by simp only [List.size_toArray]; omega) hu
      (fun j h1 h2 => hz.run ih r1 r2 j (by simpa using h1) (by simpa using h2))
    rw [show i1.toArray.size = e.length by simp only [List.size_toArray]; omega, range_all] at q
    exact q
  | @tup a b xs ys e h1 h2 hz =>
    cases rx; cases ry
    obtain ⟨i1, r1, p1, _⟩ := I.tuple h1
    obtain ⟨i2, r2, p2, _⟩ := I.tuple h2
    have e1 := r1.length
    have e2 := r2.length
    have el := hz.len
    have q := SeqAt.RcNeAt.tuples (A := A) (e := fun i => e.getD i false) p1 p2 hu
      (fun j h1 h2 => hz.run ih r1 r2 j (by simpa using h1) (by simpa using h2))
    rw [show min i1.toArray.size i2.toArray.size = e.length by simp only [List.size_toArray]; omega, range_all] at q
    have q2 : (i1.toArray.size == i2.toArray.size) = decide (xs.length = ys.length) := by
      rw [Bool.beq_eq_decide_eq]
      simp only [List.size_toArray]
      rw [e1, e2]
    rw [q2] at q
    exact q
  | lt h1 h2 =>
    cases rx; cases ry
    obtain ⟨i1, r1, p1, _⟩ := I.list h1
    obtain ⟨i2, r2, p2, _⟩ := I.tuple h2
    exact SeqAt.RcNeAt.list_tuple p1.isList p2 hu
  | tl h1 h2 =>
    cases rx; cases ry
    obtain ⟨i1, r1, p1, _⟩ := I.tuple h1
    obtain ⟨i2, r2, p2, _⟩ := I.list h2
    exact SeqAt.RcNeAt.tuple_list p1 p2.isList hu
  | ls h1 hs =>
    cases rx
    obtain ⟨i1, r1, p1, _⟩ := I.list h1
    cases y with
    | non => cases ry; exact SeqAt.RcNeAt.list_none p1.isList hu
    | bl b => cases ry; exact SeqAt.RcNeAt.list_bool _ p1.isList hu
    | int i => obtain ⟨t, rfl⟩ := ry; exact SeqAt.RcNeAt.list_int _ _ p1.isList hu
    | str z => obtain ⟨t, rfl⟩ := ry; exact SeqAt.RcNeAt.list_str _ _ p1.isList hu
    | _ => cases hs
  | sl h1 hs =>
    cases ry
    obtain ⟨i1, r1, p1, _⟩ := I.list h1
    cases x with
    | non => cases rx; exact SeqAt.RcNeAt.none_list p1.isList hu
    | bl b => cases rx; exact SeqAt.RcNeAt.bool_list _ p1.isList hu
    | int i => obtain ⟨t, rfl⟩ := rx; exact SeqAt.RcNeAt.int_list _ _ p1.isList hu
    | str z => obtain ⟨t, rfl⟩ := rx; exact SeqAt.RcNeAt.str_list _ _ p1.isList hu
    | _ => cases hs
  | ts h1 hs =>
    cases rx
    obtain ⟨i1, r1, p1, _⟩ := I.tuple h1
    cases y with
    | non => cases ry; exact SeqAt.RcNeAt.tuple_none p1 hu
    | bl b => cases ry; exact SeqAt.RcNeAt.tuple_bool _ p1 hu
    | int i => obtain ⟨t, rfl⟩ := ry; exact SeqAt.RcNeAt.tuple_int _ _ p1 hu
    | str z => obtain ⟨t, rfl⟩ := ry; exact SeqAt.RcNeAt.tuple_str _ _ p1 hu
    | _ => cases hs
  | st h1 hs =>
    cases ry
    obtain ⟨i1, r1, p1, _⟩ := I.tuple h1
    cases x with
    | non => cases rx; exact SeqAt.RcNeAt.none_tuple p1 hu
    | bl b => cases rx; exact SeqAt.RcNeAt.bool_tuple _ p1 hu
    | int i => obtain ⟨t, rfl⟩ := rx; exact SeqAt.RcNeAt.int_tuple _ _ p1 hu
    | str z => obtain ⟨t, rfl⟩ := rx; exact SeqAt.RcNeAt.str_tuple _ _ p1 hu
    | _ => cases hs
theorem EqI.run (I : Inv X pins σ H s) : ∀ {n : Nat} {A : Around}, A.units + n < cLine → ∀ {x y : V} {b : Bool} {v u : Value}, EqI X.K H n x y b → RelV x v → RelV y u → SeqAt.EqAt A s v u b
  | 0, _, _, _, _, _, _, _, h, _, _ => h.elim
  | n + 1, A, hu, x, y, b, v, u, h, rx, ry => by
    have hu1 : A.units < cLine := by omega
    rcases h with ⟨a, rfl, rfl, rfl⟩ | ⟨h, hn⟩
    · cases rx; cases ry; exact SeqAt.EqAt.same _
    · have ih : ∀ {x y : V} {b : Bool} {v u : Value}, EqI X.K H n x y b → RelV x v → RelV y u → SeqAt.EqAt A.in1 s v u b := EqI.run I (by show A.units + 1 + n < cLine; omega)
      by_cases hr : ∃ a b, x = V.ref a ∧ y = V.ref b
      · obtain ⟨a, b, rfl, rfl⟩ := hr
        have k := h.run I hu1 ih rx ry
        cases rx; cases ry
        exact SeqAt.EqAt.of_refs (fun e => hn a rfl (by rw [e])) k
      · have hu := hu1
        cases h with
        | sc h => exact sc_eq h rx ry
        | bi a j => cases rx; obtain ⟨t, rfl⟩ := ry; exact SeqAt.EqAt.bool_int _ _ _
        | ib i b => cases ry; obtain ⟨t, rfl⟩ := rx; exact SeqAt.EqAt.int_bool _ _ _
        | ll _ _ _ => exact absurd ⟨_, _, rfl, rfl⟩ hr
        | lst _ _ _ _ => exact absurd ⟨_, _, rfl, rfl⟩ hr
        | tup _ _ _ => exact absurd ⟨_, _, rfl, rfl⟩ hr
        | lt _ _ => exact absurd ⟨_, _, rfl, rfl⟩ hr
        | tl _ _ => exact absurd ⟨_, _, rfl, rfl⟩ hr
        | ls h1 hs =>
          cases rx
          obtain ⟨i1, r1, p1, _⟩ := I.list h1
          cases y with
          | non => cases ry; exact SeqAt.EqAt.list_none p1.isList hu
          | bl b => cases ry; exact SeqAt.EqAt.list_bool _ p1.isList hu
          | int i => obtain ⟨t, rfl⟩ := ry; exact SeqAt.EqAt.list_int _ _ p1.isList hu
          | str z => obtain ⟨t, rfl⟩ := ry; exact SeqAt.EqAt.list_str _ _ p1.isList hu
          | _ => cases hs
        | sl h1 hs =>
          cases ry
          obtain ⟨i1, r1, p1, _⟩ := I.list h1
          cases x with
          | non => cases rx; exact SeqAt.EqAt.none_list p1.isList hu
          | bl b => cases rx; exact SeqAt.EqAt.bool_list _ p1.isList hu
          | int i => obtain ⟨t, rfl⟩ := rx; exact SeqAt.EqAt.int_list _ _ p1.isList hu
          | str z => obtain ⟨t, rfl⟩ := rx; exact SeqAt.EqAt.str_list _ _ p1.isList hu
          | _ => cases hs
        | ts h1 hs =>
          cases rx
          obtain ⟨i1, r1, p1, _⟩ := I.tuple h1
          cases y with
          | non => cases ry; exact SeqAt.EqAt.tuple_none p1 hu
          | bl b => cases ry; exact SeqAt.EqAt.tuple_bool _ p1 hu
          | int i => obtain ⟨t, rfl⟩ := ry; exact SeqAt.EqAt.tuple_int _ _ p1 hu
          | str z => obtain ⟨t, rfl⟩ := ry; exact SeqAt.EqAt.tuple_str _ _ p1 hu
          | _ => cases hs
        | st h1 hs =>
          cases ry
          obtain ⟨i1, r1, p1, _⟩ := I.tuple h1
          cases x with
          | non => cases rx; exact SeqAt.EqAt.none_tuple p1 hu
          | bl b => cases rx; exact SeqAt.EqAt.bool_tuple _ p1 hu
          | int i => obtain ⟨t, rfl⟩ := rx; exact SeqAt.EqAt.int_tuple _ _ p1 hu
          | str z => obtain ⟨t, rfl⟩ := rx; exact SeqAt.EqAt.str_tuple _ _ p1 hu
          | _ => cases hs

/-- x == y, x != y -/
def rEqG (K : PySem.W.Frag) : R2 := fun x y H Q => ∃ b, EqR K H (EqI K H 60) x y b ∧ Q (.bl b) H
def rNeG (K : PySem.W.Frag) : R2 := fun x y H Q => ∃ b, EqR K H (EqI K H 60) x y b ∧ Q (.bl (!b)) H
theorem op_eqG (hu : X.A.units + 64 < cLine) : OpR X (compareOp .Eq) (rEqG X.K) := by
  intro pins s σ H x y v u Q I rx ry h
  obtain ⟨b, e, q⟩ := h
  exact e.run I (A := X.A) (by omega) (EqI.run I (by show X.A.units + 1 + 60 < cLine; omega)) rx ry X.prog X.w _ _ ⟨.bl b, H, I, rfl, q⟩
theorem op_neG (hu : X.A.units + 64 < cLine) : OpR X (compareOp .NotEq) (rNeG X.K) := by
  intro pins s σ H x y v u Q I rx ry h
  obtain ⟨b, e, q⟩ := h
  exact e.runNe I (A := X.A) (by omega) (EqI.run I (by show X.A.units + 1 + 60 < cLine; omega)) rx ry X.prog X.w _ _ ⟨.bl (!b), H, I, rfl, q⟩
end
end Z

/-! L3: wide rules (one rule a construct, whatever the kinds of its operands), and steps for their readings -/
namespace Z
open PySem PySem.Spec PyProof.Rows L2 Evl

/-! ### wide relations -/
def rAddA (K : PySem.W.Frag) : R2 := fun x y H Q => (∃ i j, x = .int i ∧ y = .int j ∧ Q (.int (i + j)) H) ∨ (∃ i j, x = .str i ∧ y = .str j ∧ i.length + j.length ≤ sizeLine ∧ Q (.str (i ++ j)) H) ∨ rCat x y H Q ∨ L2.rCatA K x y H Q
def rSubA : R2 := fun x y H Q => ∃ i j, x = .int i ∧ y = .int j ∧ Q (.int (i - j)) H
def rMulS : R2 := fun x y H Q => ∃ z n, x = .str z ∧ y = .int n ∧ MulOk z n ∧ Q (.str (Txt.mul z n)) H
def rMulA : R2 := fun x y H Q => (∃ i j, x = .int i ∧ y = .int j ∧ CMulW i j ∧ Q (.int (i * j)) H) ∨ rMulS x y H Q ∨ rRep x y H Q
def rDivA : R2 := fun x y H Q => ∃ i j, x = .int i ∧ y = .int j ∧ CDivW i j ∧ Q (.int (i / j)) H
def rModA : R2 := fun x y H Q => ∃ i j, x = .int i ∧ y = .int j ∧ 0 < j ∧ Q (.int (i % j)) H
def rPowA : R2 := fun x y H Q => ∃ i j, x = .int i ∧ y = .int j ∧ CPow i j ∧ Q (.int (i ^ j.toNat)) H
def rEqA (K : PySem.W.Frag) : R2 := fun x y H Q => rEq x y H Q ∨ rEqG K x y H Q ∨ rEqD K x y H Q
def rNeA (K : PySem.W.Frag) : R2 := fun x y H Q => rNe x y H Q ∨ rNeG K x y H Q ∨ rNeD K x y H Q
def rLtA : R2 := fun x y H Q => (∃ i j, x = .int i ∧ y = .int j ∧ Q (.bl (decide (i < j))) H) ∨ (∃ i j, x = .str i ∧ y = .str j ∧ Q (.bl (decide (i.cps.toList < j.cps.toList))) H)
def rLeA : R2 := fun x y H Q => (∃ i j, x = .int i ∧ y = .int j ∧ Q (.bl (decide (i ≤ j))) H) ∨ (∃ i j, x = .str i ∧ y = .str j ∧ Q (.bl (!decide (j.cps.toList < i.cps.toList))) H)
def rGtA : R2 := fun x y H Q => (∃ i j, x = .int i ∧ y = .int j ∧ Q (.bl (decide (j < i))) H) ∨ (∃ i j, x = .str i ∧ y = .str j ∧ Q (.bl (decide (j.cps.toList < i.cps.toList))) H)
def rGeA : R2 := fun x y H Q => (∃ i j, x = .int i ∧ y = .int j ∧ Q (.bl (decide (j ≤ i))) H) ∨ (∃ i j, x = .str i ∧ y = .str j ∧ Q (.bl (!decide (i.cps.toList < j.cps.toList))) H)
def rIsA : R2 := fun x y H Q => (y = .non ∧ Q (.bl (decide (x = .non))) H) ∨ rIsB x y H Q ∨ (∃ a b oa ob, x = .ref a ∧ y = .ref b ∧ H a = some oa ∧ isObj oa = true ∧ H b = some ob ∧ isObj ob = true ∧ Q (.bl (decide (a = b))) H)
def rNotA : R2 := fun x y H Q => (y = .non ∧ Q (.bl (!decide (x = .non))) H) ∨ rNotB x y H Q ∨ (∃ a b oa ob, x = .ref a ∧ y = .ref b ∧ H a = some oa ∧ isObj oa = true ∧ H b = some ob ∧ isObj ob = true ∧ Q (.bl (!decide (a = b))) H)
def rInA (K : PySem.W.Frag) : R2 := fun x y H Q => (∃ (c : Nat) (z : Str), x = .str ⟨#[c]⟩ ∧ y = .str z ∧ Q (.bl (decide (c ∈ z.cps.toList))) H) ∨ rIn K false x y H Q ∨ (∃ i j, x = .str i ∧ y = .str j ∧ Q (.bl (!(Builtin.Str.occurrences j i 0 j.length 1).isEmpty)) H)
def rNinA (K : PySem.W.Frag) : R2 := fun x y H Q => (∃ (c : Nat) (z : Str), x = .str ⟨#[c]⟩ ∧ y = .str z ∧ Q (.bl (!decide (c ∈ z.cps.toList))) H) ∨ rIn K true x y H Q ∨ (∃ i j, x = .str i ∧ y = .str j ∧ Q (.bl (!(!(Builtin.Str.occurrences j i 0 j.length 1).isEmpty))) H)
def rSlA (K : PySem.W.Frag) : V → Option Int → Option Int → Hp → VK → Prop := fun x lo hi H Q => rSlS x lo hi H Q ∨ rSlL K x lo hi H Q ∨ L2.rSlA K x lo hi H Q
def rLenA (K : PySem.W.Frag) : List V → Hp → VK → Prop := fun xs H Q => (∃ x n, xs = [x] ∧ LenV K x H n ∧ Q (.int n) H) ∨ (∃ a kvs, xs = [V.ref a] ∧ H a = some (.dK kvs) ∧ Q (.int kvs.length) H)
def rMaxA (K : PySem.W.Frag) : List V → Hp → VK → Prop := fun xs H Q => (∃ i j, xs = [.int i, .int j] ∧ Q (.int (if j > i then j else i)) H) ∨ rMax K xs H Q
def rMinA (K : PySem.W.Frag) : List V → Hp → VK → Prop := fun xs H Q => (∃ i j, xs = [.int i, .int j] ∧ Q (.int (if j < i then j else i)) H) ∨ rMin K xs H Q
def rJoinA (K : PySem.W.Frag) : V → List V → Hp → VK → Prop := fun x xs H Q => ∃ a p, ∃ ys : List Str, x = .str a ∧ xs = [.ref p] ∧ (SqL K H p (ys.map V.str) ∨ SqT K H p (ys.map V.str)) ∧ (ys.map (·.length)).sum + ys.length * a.length ≤ 16777216 ∧ Q (.str (Txt.join a ys)) H
def rUpper : V → List V → Hp → VK → Prop := fun x xs H Q => ∃ a, x = .str a ∧ xs = [] ∧ a.length ≤ 5592405 ∧ Q (.str (Txt.upper a)) H
def iAny (K : PySem.W.Frag) (te : TE) : TI := fun σ H R => iList K te σ H R ∨ iTup K te σ H R ∨ iStr te σ H R

section
variable {X : Cx}
theorem op_addA : OpR X (binaryOp .Add) (rAddA X.K) := op_add.or (op_add_str.or (op_cat.or op_catA))
theorem op_subA : OpR X (binaryOp .Sub) rSubA := op_sub
theorem op_mulS : OpR X (binaryOp .Mult) rMulS := by
  intro pins s σ H x y v u Q I rx ry h
  obtain ⟨i, j, rfl, rfl, hz, q⟩ := h
  obtain ⟨t, rfl⟩ := rx
  obtain ⟨t', rfl⟩ := ry
  exact SB.mul hz fun t' k => ⟨.str _, H, I.tok _, ⟨_, rfl⟩, q⟩
theorem op_mulA : OpR X (binaryOp .Mult) rMulA := op_mulW.or (op_mulS.or op_rep)
theorem op_divA : OpR X (binaryOp .FloorDiv) rDivA := op_fdivW
theorem op_modA : OpR X (binaryOp .Mod) rModA := op_mod
theorem op_powA : OpR X (binaryOp .Pow) rPowA := op_pow
theorem op_eqA (hu : X.A.units + 64 < cLine) : OpR X (compareOp .Eq) (rEqA X.K) := op_eq.or ((op_eqG hu).or (op_eqD hu))
theorem op_neA (hu : X.A.units + 64 < cLine) : OpR X (compareOp .NotEq) (rNeA X.K) := op_ne.or ((op_neG hu).or (op_neD hu))
theorem op_ltA : OpR X (compareOp .Lt) rLtA := op_lt.or op_lt_str
theorem op_leA : OpR X (compareOp .LtE) rLeA := op_le.or op_le_str
theorem op_gtA : OpR X (compareOp .Gt) rGtA := op_gt.or op_gt_str
theorem op_geA : OpR X (compareOp .GtE) rGeA := op_ge.or op_ge_str
theorem op_isA : OpR X (compareOp .Is) rIsA := op_isN.or (op_isBl.or op_is_ref)
theorem op_notA : OpR X (compareOp .IsNot) rNotA := op_notN.or (op_notBl.or op_isnot_ref)
theorem op_inA : OpR X (compareOp .In) (rInA X.K) := op_in_sign.or (op_in_seq.or op_in_str)
theorem op_ninA : OpR X (compareOp .NotIn) (rNinA X.K) := op_notIn_sign.or (op_notIn_seq.or op_notIn_str)
theorem sl_A : SlR X (rSlA X.K) := sl_str.or (sl_list.or sl_tupA)
theorem call_lenA : CallR X (.builtin "len") (rLenA X.K) := call_len.or call_lenD
theorem call_maxA (hc : X.calm = true) : CallR X (.builtin "max") (rMaxA X.K) := (call_max2 hc).or (cr_max hc)
theorem call_minA (hc : X.calm = true) : CallR X (.builtin "min") (rMinA X.K) := (call_min2 hc).or (cr_min hc)
theorem PI.or {tg iter : Expr} {w1 w2 : TI} (h1 : PI X tg iter w1) (h2 : PI X tg iter w2) : PI X tg iter (fun σ H R => w1 σ H R ∨ w2 σ H R) :=
  ⟨fun pins s σ H R I h => h.elim (h1.run pins s σ H R I) (h2.run pins s σ H R I)⟩
theorem pi_any {tg e : Expr} {te : TE} (he : PE X e te) : PI X tg e (iAny X.K te) := PI.or (pi_list he) (PI.or (pi_tup he) (pi_str he))
theorem pe_gint {x : Str} {i : Int} {pos : Pos} (hg : Gl X x) (hm : ∃ t, X.mg x = some (.int i t)) (hd : (x == ("__debug__" : Str)) = false := by decide) : PE X (.Name x pos) (tC (.int i)) :=
  let ⟨t, h⟩ := hm
  pe_glob hg h ⟨t, rfl⟩ hd
theorem pe_gstr {x : Str} {i : Str} {pos : Pos} (hg : Gl X x) (hm : ∃ t, X.mg x = some (.str i t)) (hd : (x == ("__debug__" : Str)) = false := by decide) : PE X (.Name x pos) (tC (.str i)) :=
  let ⟨t, h⟩ := hm
  pe_glob hg h ⟨t, rfl⟩ hd
end

/-! ### a def behind the top, its promise -/
structure Fok (P : Program) (w : World) (K : PySem.W.Frag) (mg : Str → Option Value) (base : Heap) (CX : CXT) (k : Nat) (x : Str) (ps : List Str) (sp : Sp) : Prop where
  ex : ∃ fd, FnOk P w K mg base CX k (He.ga K x) fd ps sp ∧ Binds K fd ps []
  hm : mg x = some (.ref (He.ga K x))
  kp : PySem.W.keepIn K (.ref (He.ga K x)) = true
theorem pe_callF {X : Cx} {CX : CXT} {k : Nat} {x : Str} {ps : List Str} {sp : Sp} {E : XK} {e : Expr} {es : List Expr} {t : TA} {p pos : Pos} (F : Fok X.prog X.w X.K X.mg X.base CX k x ps sp) (hr : Room k X.A) (hg : Gl X x) (hx : Passes CX X E)
    (ha : PA X (e :: es) t) (hdb : (x == ("__debug__" : Str)) = false := by decide) (he : starEach (e :: es) X.env = (false, eval e X.env) :: starEach es X.env := by rfl) (hpl : (backTo pos (starEach es X.env)).any (·.1) = false := by rfl) :
    PE X (.Call (.Name x p) (e :: es) [] pos) (tCall sp [] E t) :=
  let ⟨_, h1, h2⟩ := F.ex
  pe_call h1 hr hg F.hm F.kp h2 .nil hx ha hdb he hpl

/-! ### heaps -/
/-- all but the object at p is as it was -/
def But (p : Addr) (H H' : Hp) : Prop := ∀ a o, H a = some o → a ≠ p → H' a = some o
theorem Ex.but {p : Addr} {H H' : Hp} (e : Ex H H') : But p H H' := fun a o h _ => e a o h
theorem But.refl {p : Addr} {H : Hp} : But p H H := fun _ _ h _ => h
theorem But.trans {p : Addr} {H H1 H2 : Hp} (a : But p H H1) (b : But p H1 H2) : But p H H2 := fun x o h n => b x o (a x o h n) n
theorem But.ex {p : Addr} {H H1 H2 : Hp} (a : But p H H1) (b : Ex H1 H2) : But p H H2 := fun x o h n => b x o (a x o h n)
theorem But.new {p q : Addr} {H H1 : Hp} {o : HO} (a : But p H H1) (h : H1 q = none) : But p H (upd H1 q o) := a.ex (Ex.new h)
theorem But.set {p : Addr} {H H1 : Hp} {o : HO} (a : But p H H1) : But p H (upd H1 p o) := fun x o h n => by
  rw [upd_ne n]
  exact a x o h n
theorem look_new {H : Hp} {a b : Addr} {o u : HO} (h : H a = some o) (hn : H b = none) : upd H b u a = some o := Ex.new hn _ _ h
theorem look_mut {H : Hp} {a b : Addr} {o u : HO} (h : H a = some o) (hn : a ≠ b) : upd H b u a = some o := by
  rw [upd_ne hn]
  exact h
theorem look_ex {H H' : Hp} {a : Addr} {o : HO} (s : Ex H H') (h : H a = some o) : H' a = some o := s _ _ h
theorem look_but {H H' : Hp} {a p : Addr} {o : HO} (s : But p H H') (h : H a = some o) (n : a ≠ p) : H' a = some o := s _ _ h n
theorem ne_back {H : Hp} {a b : Addr} {o : HO} (h : H a = some o) (h' : H b = none) : b ≠ a := fun e => ne_of_none h h' e.symm

theorem len_ok {n : Nat} (h : n ≤ 16777216) : n ≤ sizeLine := by
  rw [sizeLine_eq]
  exact h
/-! ### steps -/
section
variable {K : PySem.W.Frag} {σ : L2.St} {H : Hp} {Q : VK} {ta tb : TE} {x y v : V}
theorem s_var {i : Nat} (h : σ[i]? = some (some v)) (q : Q v H) : tVar i σ H Q := ⟨v, h, q⟩
theorem s_c (q : Q v H) : tC v σ H Q := q
theorem s_op {r : R2} (h : ta σ H fun x H1 => tb σ H1 fun y H2 => r x y H2 Q) : tOp r ta tb σ H Q := h
theorem s_un {r : V → Hp → VK → Prop} (h : ta σ H fun x H1 => r x H1 Q) : tUn r ta σ H Q := h
theorem s_rU {g : Int → V} {i : Int} (q : Q (g i) H) : rU g (.int i) H Q := ⟨i, rfl, q⟩
theorem s_cb {r : List V → Hp → VK → Prop} {t : TA} (h : t σ H fun vs H1 => r vs H1 Q) : tCB r t σ H Q := h
theorem s_call {sp : Sp} {E : XK} {t : TA} (h : t σ H fun vs H1 => sp vs H1 Q E) : tCall sp [] E t σ H Q := by
  show t σ H fun vs H1 => sp (vs ++ []) H1 Q E
  simp only [List.append_nil]
  exact h
theorem s_if {t : TT} (h : t σ H fun c H1 => if c = true then ta σ H1 Q else tb σ H1 Q) : tIf t ta tb σ H Q := h
theorem s_andV (h : ta σ H fun x H1 => ∃ c, x = .bl c ∧ if c = true then tb σ H1 Q else Q (.bl false) H1) : tAndV ta tb σ H Q := h
theorem s_orV (h : ta σ H fun x H1 => ∃ c, x = .bl c ∧ if c = true then Q (.bl true) H1 else tb σ H1 Q) : tOrV ta tb σ H Q := h
theorem s_notV (h : ta σ H fun x H1 => ∃ c, x = .bl c ∧ Q (.bl (!c)) H1) : tNotV ta σ H Q := h
theorem s_bl {c : Bool} {R : Bool → Prop} (h : R c) : ∃ d, V.bl c = .bl d ∧ R d := ⟨c, rfl, h⟩
theorem s_chain {r r' : R2} {tc : TE} (h : ta σ H fun x H1 => tb σ H1 fun y H2 => r x y H2 fun z H3 => ∃ k, z = .bl k ∧ (if k = true then tc σ H3 fun w' H4 => r' y w' H4 Q else Q (.bl false) H3)) : tChain r r' ta tb tc σ H Q := h
theorem s_lst {t : TA} (h : t σ H fun xs H1 => xs.length ≤ sizeLine ∧ ∀ p, H1 p = none → Q (.ref p) (upd H1 p (.lst xs))) : tLst t σ H Q := h
theorem s_tup {t : TA} (h : t σ H fun xs H1 => xs.length ≤ sizeLine ∧ ∀ p, H1 p = none → Q (.ref p) (upd H1 p (.tup xs))) : tTup t σ H Q := h
theorem s_sl {r : V → Option Int → Option Int → Hp → VK → Prop} {tl th : TO} (h : ta σ H fun x H1 => tl σ H1 fun l H2 => th σ H2 fun u H3 => r x l u H3 Q) : tSl r ta tl th σ H Q := h
theorem s_m0 {r : V → List V → Hp → VK → Prop} {z : Str} (h : r (.str z) [] H Q) : (fun (x : V) H1 => (∃ a, x = .str a) ∧ r x [] H1 Q) (.str z) H := ⟨⟨z, rfl⟩, h⟩
section
variable {R : Bool → Hp → Prop} {t u : TT}
theorem s_test (h : ta σ H fun x H' => ∃ k, x = .bl k ∧ R k H') : tTest ta σ H R := h
theorem s_B (h : ta σ H fun x H' => ∃ k, x = .bl k ∧ R k H') : tB ta σ H R := h
theorem s_and (h : t σ H fun c H1 => if c = true then u σ H1 R else R false H1) : tAnd t u σ H R := h
theorem s_or (h : t σ H fun c H1 => if c = true then R true H1 else u σ H1 R) : tOr t u σ H R := h
theorem s_not (h : t σ H fun c H1 => R (!c) H1) : tNot t σ H R := h
theorem s_yes (h : R true H) : tYes σ H R := h
end
section
variable {R : List V → Hp → Prop} {t : TA}
theorem s_nil (h : R [] H) : tNil σ H R := h
theorem s_cons (h : ta σ H fun x H1 => t σ H1 fun xs H2 => R (x :: xs) H2) : tCons ta t σ H R := h
end
section
variable {R : Option Int → Hp → Prop}
theorem s_nopart (h : R none H) : tNoPart σ H R := h
theorem s_part (h : ta σ H fun x H1 => ∃ i, x = .int i ∧ R (some i) H1) : tPart ta σ H R := h
theorem s_int {i : Int} {R : Int → Prop} (h : R i) : ∃ j, V.int i = .int j ∧ R j := ⟨i, rfl, h⟩
end
theorem s_itet {b : Bool} {A B : Prop} (e : b = true) (h : A) : if b = true then A else B := by
  rw [if_pos e]
  exact h
theorem s_itef {b : Bool} {A B : Prop} (e : b = false) (h : B) : if b = true then A else B := by
  rw [e]
  exact iteF h
/-- what a part gives, whatever follows -/
theorem via {te : TE} (R : V → Hp → Prop) (h : ∀ F : VK, (∀ v H', R v H' → F v H') → te σ H F) (q : ∀ v H', R v H' → Q v H') : te σ H Q := h Q q
theorem ite_via {c : Prop} [Decidable c] {t1 t2 : TE} (R : V → Hp → Prop) (h1 : c → ∀ F : VK, (∀ v H', R v H' → F v H') → t1 σ H F) (h2 : ¬ c → ∀ F : VK, (∀ v H', R v H' → F v H') → t2 σ H F) (q : ∀ v H', R v H' → Q v H') :
    if c then t1 σ H Q else t2 σ H Q := ite2 (fun h => h1 h Q q) (fun h => h2 h Q q)
/-! operators by kinds -/
theorem s_addI {i j : Int} (q : Q (.int (i + j)) H) : rAddA K (.int i) (.int j) H Q := .inl ⟨i, j, rfl, rfl, q⟩
theorem s_addS {i j : Str} (h : i.length + j.length ≤ sizeLine) (q : Q (.str (i ++ j)) H) : rAddA K (.str i) (.str j) H Q := .inr (.inl ⟨i, j, rfl, rfl, h, q⟩)
theorem s_addL {a b : Addr} {xs ys : List V} (ha : H a = some (.lst xs)) (hb : H b = some (.lst ys)) (h : xs.length + ys.length ≤ sizeLine) (q : ∀ p, H p = none → Q (.ref p) (upd H p (.lst (xs ++ ys)))) : rAddA K (.ref a) (.ref b) H Q :=
  .inr (.inr (.inl ⟨a, b, xs, ys, rfl, rfl, ha, hb, h, q⟩))
theorem s_addT {a b : Addr} {xs ys : List V} (ha : H a = some (.tup xs)) (hb : H b = some (.tup ys)) (hx : xs ≠ []) (hy : ys ≠ []) (h : xs.length + ys.length ≤ sizeLine) (q : ∀ p, H p = none → Q (.ref p) (upd H p (.tup (xs ++ ys)))) : rAddA K (.ref a) (.ref b) H Q :=
  .inr (.inr (.inr ⟨a, b, xs, ys, rfl, rfl, SqT.of ha, SqT.of hb, h, fun e => absurd e hx, fun _ e => absurd e hy, fun _ _ => q⟩))
theorem s_subI {i j : Int} (q : Q (.int (i - j)) H) : rSubA (.int i) (.int j) H Q := ⟨i, j, rfl, rfl, q⟩
theorem s_mulI {i j : Int} (h : CMulW i j) (q : Q (.int (i * j)) H) : rMulA (.int i) (.int j) H Q := .inl ⟨i, j, rfl, rfl, h, q⟩
theorem s_mulS {z : Str} {n : Int} (h : MulOk z n) (q : Q (.str (Txt.mul z n)) H) : rMulA (.str z) (.int n) H Q := .inr (.inl ⟨z, n, rfl, rfl, h, q⟩)
theorem s_divI {i j : Int} (h : CDivW i j) (q : Q (.int (i / j)) H) : rDivA (.int i) (.int j) H Q := ⟨i, j, rfl, rfl, h, q⟩
theorem s_modI {i j : Int} (h : 0 < j) (q : Q (.int (i % j)) H) : rModA (.int i) (.int j) H Q := ⟨i, j, rfl, rfl, h, q⟩
theorem s_powI {i j : Int} (h : CPow i j) (q : Q (.int (i ^ j.toNat)) H) : rPowA (.int i) (.int j) H Q := ⟨i, j, rfl, rfl, h, q⟩
theorem s_eqS (h : scal x y = true) (q : Q (.bl (decide (x = y))) H) : rEqA K x y H Q := .inl ⟨h, q⟩
theorem s_neS (h : scal x y = true) (q : Q (.bl (!decide (x = y))) H) : rNeA K x y H Q := .inl ⟨h, q⟩
theorem s_eqD {d e : PyData} (hd : Dp K H x d) (he : Dp K H y e) (sd : SeqAt.shaped d = true) (se : SeqAt.shaped e = true) (q : Q (.bl (PyData.eqv d e)) H) : rEqA K x y H Q := .inr (.inr ⟨d, e, hd, he, sd, se, q⟩)
theorem s_neD {d e : PyData} (hd : Dp K H x d) (he : Dp K H y e) (sd : SeqAt.shaped d = true) (se : SeqAt.shaped e = true) (q : Q (.bl (!PyData.eqv d e)) H) : rNeA K x y H Q := .inr (.inr ⟨d, e, hd, he, sd, se, q⟩)
theorem s_eqG {b : Bool} (h : EqR K H (EqI K H 60) x y b) (q : Q (.bl b) H) : rEqA K x y H Q := .inr (.inl ⟨b, h, q⟩)
theorem s_neG {b : Bool} (h : EqR K H (EqI K H 60) x y b) (q : Q (.bl (!b)) H) : rNeA K x y H Q := .inr (.inl ⟨b, h, q⟩)
/-- a list against the empty one -/
theorem eq_nil {K : PySem.W.Frag} {H : Hp} {a b : Addr} {xs : List V} {E : V → V → Bool → Prop} (ha : H a = some (.lst xs)) (hb : H b = some (.lst [])) : EqR K H E (.ref a) (.ref b) xs.isEmpty := by
  cases xs with
  | nil => exact .lst (e := []) (SqL.of ha) (SqL.of hb) rfl .nil
  | cons x xs => exact .ll (SqL.of ha) (SqL.of hb) (by simp)
theorem s_eqNil {a b : Addr} {xs : List V} (ha : H a = some (.lst xs)) (hb : H b = some (.lst [])) (q : Q (.bl xs.isEmpty) H) : rEqA K (.ref a) (.ref b) H Q := s_eqG (eq_nil ha hb) q
theorem s_neNil {a b : Addr} {xs : List V} (ha : H a = some (.lst xs)) (hb : H b = some (.lst [])) (q : Q (.bl (!xs.isEmpty)) H) : rNeA K (.ref a) (.ref b) H Q := s_neG (eq_nil ha hb) q
theorem s_ltI {i j : Int} (q : Q (.bl (decide (i < j))) H) : rLtA (.int i) (.int j) H Q := .inl ⟨i, j, rfl, rfl, q⟩
theorem s_leI {i j : Int} (q : Q (.bl (decide (i ≤ j))) H) : rLeA (.int i) (.int j) H Q := .inl ⟨i, j, rfl, rfl, q⟩
theorem s_gtI {i j : Int} (q : Q (.bl (decide (j < i))) H) : rGtA (.int i) (.int j) H Q := .inl ⟨i, j, rfl, rfl, q⟩
theorem s_geI {i j : Int} (q : Q (.bl (decide (j ≤ i))) H) : rGeA (.int i) (.int j) H Q := .inl ⟨i, j, rfl, rfl, q⟩
theorem s_isN (q : Q (.bl (decide (x = .non))) H) : rIsA x .non H Q := .inl ⟨rfl, q⟩
theorem s_notN (q : Q (.bl (!decide (x = .non))) H) : rNotA x .non H Q := .inl ⟨rfl, q⟩
theorem s_isB {a b : Bool} (q : Q (.bl (decide (a = b))) H) : rIsA (.bl a) (.bl b) H Q := .inr (.inl ⟨a, b, rfl, rfl, q⟩)
theorem s_notB {a b : Bool} (q : Q (.bl (!decide (a = b))) H) : rNotA (.bl a) (.bl b) H Q := .inr (.inl ⟨a, b, rfl, rfl, q⟩)
theorem s_in1 {c : Nat} {z : Str} (q : Q (.bl (decide (c ∈ z.cps.toList))) H) : rInA K (.str ⟨#[c]⟩) (.str z) H Q := .inl ⟨c, z, rfl, rfl, q⟩
theorem s_nin1 {c : Nat} {z : Str} (q : Q (.bl (!decide (c ∈ z.cps.toList))) H) : rNinA K (.str ⟨#[c]⟩) (.str z) H Q := .inl ⟨c, z, rfl, rfl, q⟩
theorem s_ixL {p : Addr} {xs : List V} {i : Int} (h : H p = some (.lst xs)) (ha : atI xs i = some v) (q : Q v H) : rIx K (.ref p) (.int i) H Q := .inl ⟨p, xs, i, v, rfl, rfl, SqL.of h, ha, q⟩
theorem s_ixLK {p : Addr} {xs : List V} {i : Int} (h : SqL K H p xs) (ha : atI xs i = some v) (q : Q v H) : rIx K (.ref p) (.int i) H Q := .inl ⟨p, xs, i, v, rfl, rfl, h, ha, q⟩
theorem s_ixT {p : Addr} {xs : List V} {i : Int} (h : H p = some (.tup xs)) (ha : atI xs i = some v) (q : Q v H) : rIx K (.ref p) (.int i) H Q := .inr (.inl ⟨p, xs, i, v, rfl, rfl, SqT.of h, ha, q⟩)
theorem s_ixS {z : Str} {i : Int} {c : Nat} (h : z.length ≤ sizeLine) (ha : atI z.cps.toList i = some c) (q : Q (.str ⟨#[c]⟩) H) : rIx K (.str z) (.int i) H Q := .inr (.inr ⟨z, i, c, rfl, rfl, h, ha, q⟩)
theorem s_slS {z : Str} {lo hi : Option Int} (h : z.length ≤ sizeLine) (q : Q (.str (cutS z lo hi)) H) : rSlA K (.str z) lo hi H Q := .inl ⟨z, rfl, h, q⟩
theorem s_lenS {z : Str} (h : z.length ≤ sizeLine) (q : Q (.int z.length) H) : rLenA K [.str z] H Q := .inl ⟨_, _, rfl, ⟨h, rfl⟩, q⟩
theorem s_lenL {p : Addr} {xs : List V} (h : H p = some (.lst xs)) (q : Q (.int xs.length) H) : rLenA K [.ref p] H Q := .inl ⟨_, _, rfl, .inl ⟨xs, SqL.of h, rfl⟩, q⟩
theorem s_lenLK {p : Addr} {xs : List V} (h : SqL K H p xs) (q : Q (.int xs.length) H) : rLenA K [.ref p] H Q := .inl ⟨_, _, rfl, .inl ⟨xs, h, rfl⟩, q⟩
theorem s_lenT {p : Addr} {xs : List V} (h : H p = some (.tup xs)) (q : Q (.int xs.length) H) : rLenA K [.ref p] H Q := .inl ⟨_, _, rfl, .inr ⟨xs, SqT.of h, rfl⟩, q⟩
theorem s_max2 {i j : Int} (q : Q (.int (if j > i then j else i)) H) : rMaxA K [.int i, .int j] H Q := .inl ⟨i, j, rfl, q⟩
theorem s_min2 {i j : Int} (q : Q (.int (if j < i then j else i)) H) : rMinA K [.int i, .int j] H Q := .inl ⟨i, j, rfl, q⟩
/-! statements -/
section
variable {D : Ends} {t u : TS} {c : TT} {g : TG}
theorem s_seq (h : t { D with nx := u D } σ H) : tSeq t u D σ H := h
theorem s_cut (Mid : L2.St → Hp → Prop) (h : t { D with nx := Mid } σ H) (k : ∀ σ' H', Mid σ' H' → u D σ' H') : tCut t u D σ H := ⟨Mid, h, k⟩
theorem s_ifS (h : c σ H fun b H1 => if b = true then t D σ H1 else u D σ H1) : tIfS c t u D σ H := h
theorem s_ret (h : ta σ H D.rt) : tRet ta D σ H := h
theorem s_retN (h : D.rt .non H) : tRetN D σ H := h
theorem s_next (h : D.nx σ H) : tNext D σ H := h
theorem s_drop (h : ta σ H fun _ H1 => D.nx σ H1) : tDrop ta D σ H := h
theorem s_asg (h : ta σ H fun x H1 => g x σ H1 D.nx) : tAsg ta g D σ H := h
theorem s_gTup {n : Nat} {gs : TGs} {a : Addr} {xs : List V} {R : L2.St → Hp → Prop} (h : H a = some (.tup xs)) (hn : xs.length = n) (q : gs xs σ H R) : gTup K n gs (.ref a) σ H R := ⟨a, xs, rfl, SqT.of h, hn, q⟩
theorem s_gCons {gs : TGs} {vs : List V} {R : L2.St → Hp → Prop} (q : g v σ H fun σ' H' => gs vs σ' H' R) : gCons g gs (v :: vs) σ H R := ⟨v, vs, rfl, q⟩
theorem s_gNil {R : L2.St → Hp → Prop} (q : R σ H) : gNil [] σ H R := ⟨rfl, q⟩
theorem s_gSub {to ti : TE} {st : TSet} {R : L2.St → Hp → Prop} (q : to σ H fun o H1 => ti σ H1 fun i H2 => st o i v H2 fun H3 => R σ H3) : gSub to ti st v σ H R := q
theorem s_setL {p : Addr} {k : Int} {xs : List V} {j : Nat} {R : Hp → Prop} (h : H p = some (.lst xs)) (hj : ixN xs.length k = some j) (q : R (upd H p (.lst (xs.set j v)))) : rSetL (.ref p) (.int k) v H R := ⟨p, xs, k, j, rfl, rfl, h, hj, q⟩
theorem s_gName {i : Nat} {R : L2.St → Hp → Prop} (h : R (σ.set i (some v)) H) : gName i v σ H R := h
end
end
/-- an item of a menu by a draw -/
theorem at_mem {α : Type} {xs : List α} {d : Int} (h0 : 0 ≤ d) (h1 : d < (xs.length : Int)) : ∃ v, v ∈ xs ∧ atI xs d = some v := by
  have hj : d.toNat < xs.length := by omega
  refine ⟨xs[d.toNat], List.getElem_mem hj, ?_⟩
  have e : ∀ (z : Int) (j : Nat) (v : α), z = (j : Int) → xs[j]? = some v → atI xs z = some v := fun z j v e h => by
    rw [e]
    exact atI_nat h
  exact e d d.toNat _ (by omega) (by simp [hj])
theorem s_menuL {K : PySem.W.Frag} {H : Hp} {Q : VK} {p : Addr} {xs : List V} {i : Int} (h : H p = some (.lst xs)) (h0 : 0 ≤ i) (h1 : i < (xs.length : Int)) (q : ∀ v, v ∈ xs → Q v H) : rIx K (.ref p) (.int i) H Q := by
  obtain ⟨v, hv, e⟩ := at_mem h0 h1
  exact s_ixL h e (q v hv)
theorem s_menuS {K : PySem.W.Frag} {H : Hp} {Q : VK} {z : Str} {i : Int} (h : z.length ≤ sizeLine) (h0 : 0 ≤ i) (h1 : i < (z.cps.toList.length : Int)) (q : ∀ c, c ∈ z.cps.toList → Q (.str ⟨#[c]⟩) H) : rIx K (.str z) (.int i) H Q := by
  obtain ⟨v, hv, e⟩ := at_mem h0 h1
  exact s_ixS h e (q v hv)
end Z

/-! ### facts of one's own in the hook -/
namespace Z
open PySem PySem.Spec PyProof.Rows L2
def eqB {α : Type} [DecidableEq α] (a b : α) : Bool := decide (a = b)
theorem eqB_ok {α : Type} [DecidableEq α] {a b : α} (h : eqB a b = true) : a = b := of_decide_eq_true h
/-- a class over ValueError, by whatever classes of the module -/
def clsB (K : PySem.W.Frag) (C : Addr) : Bool := match K.lookup C with
  | some ⟨.type "type", _, .cls cd, sl⟩ => (match cd.mro, sl.toList with
    | .ref C' :: bm, [_, _, _, _, some (.builtin n), _] => C' == C && (n == "ValueError.__new__" && (!cd.hasDel && (cd.hasDict && PySem.HandSPX.refsVE bm)))
    | _, _ => false)
  | _ => false
theorem clsB_ok {K : PySem.W.Frag} {C : Addr} (q : clsB K C = true) : ∃ nm q N bs bm sn sub ab col dd k0 k1 k2 k3 k5, K.lookup C = some (excClassObj nm q C N bs bm true sn sub ab col dd k0 k1 k2 k3 k5 "ValueError.__new__") ∧ PySem.HandSPX.refsVE bm = true := by
  unfold clsB at q
  split at q
  · rename_i dd cd sl ho
    split at q
    · rename_i C' bm k0 k1 k2 k3 n k5 hm hs
      simp only [Bool.and_eq_true, beq_iff_eq, Bool.not_eq_true'] at q
      obtain ⟨rfl, rfl, hdel, hdict, ht⟩ := q
      obtain ⟨nm, bs, mro, ns, qn, hd, sn, sub, ab, col, del⟩ := cd
      dsimp only at hm hdel hdict
      subst hm hdel hdict
      have hsl : sl = #[k0, k1, k2, k3, some (.builtin "ValueError.__new__"), k5] := by
        obtain ⟨l⟩ := sl
        simp only at hs
        rw [hs]
      subst hsl
      exact ⟨nm, qn, ns, bs, bm, sn, sub, ab, col, dd, k0, k1, k2, k3, k5, ho, ht⟩
    · cases q
  · cases q
abbrev FnS : Type := Option (Str × Str × Arguments × FuncBody × Scope × Addr × List Str × Addr)
/-- a function that closes over cells: the cells' names -/
def fnS (K : PySem.W.Frag) (p : Str × Option Str) : FnS := match K.lookup (He.fAd K p) with
  | some ⟨_, _, .func fd, _⟩ => some (fd.name, fd.qualname, fd.params, fd.body, fd.scope, fd.globals, fd.closure.map (·.1), fd.builtins)
  | _ => none
def initC (P0 : Program) (K : PySem.W.Frag) (C fI : Addr) : Bool := match K.lookup fI with
  | some ⟨_, _, .func fd, _⟩ => (match fd.code, fd.closure, fd.defaults, fd.kwdefaults with
    | .ref cda, [(_, cc)], .none, .none => PySem.W.codeIn K (.ref cda) fd.qualname && ((match K.lookup cc with
      | some ⟨_, _, .cell (some (.ref D)), _⟩ => D == C
      | _ => false) && (match K.lookup cda with
      | some ⟨_, _, .fields vs, _⟩ => (match (vs : Array Value)[2]? with
        | some (Value.str file _) => (P0.main.file : Str) == file
        | _ => false)
      | _ => false))
    | _, _, _, _ => false)
  | _ => false
def initB (P0 : Program) (K : PySem.W.Frag) (x : Str) : Bool :=
  eqB (PySem.W.findIn K (.ref (He.ga K x)) "__init__") (some (some (.ref (He.ma K (He.ga K x) "__init__")))) && (eqB (PySem.W.typeIn K (.ref (He.ma K (He.ga K x) "__init__"))) (some (.type "function")) &&
  ((PySem.W.keepIn K (.ref (He.ga K x)) && (eqB (PySem.W.subIn K (.ref (He.ga K x)) (.type "BaseException")) (some true) && (eqB (PySem.W.subIn K (.ref (He.ga K x)) (.type "ValueError")) (some true) && (eqB (PySem.W.typeIn K (.ref (He.ga K x))) (some (.type "type")) &&
    (eqB (PySem.W.mroIn K (He.ga K x) (.ref (He.ga K x))) (some true) && (eqB (PySem.W.nsIn K cStatics "thirdparty.any") (some none) && eqB (PySem.W.ks_superIn K (He.ga K x) (He.ga K x) "__init__") (some (some (.builtin "ValueError.__init__"))))))))) && initC P0 K (He.ga K x) (He.ma K (He.ga K x) "__init__")))
theorem initB_ok {P0 : Program} {K : PySem.W.Frag} {x : Str} (c : initB P0 K x = true) :
    PySem.W.findIn K (.ref (He.ga K x)) "__init__" = some (some (.ref (He.ma K (He.ga K x) "__init__"))) ∧ PySem.W.typeIn K (.ref (He.ma K (He.ga K x) "__init__")) = some (.type "function") ∧ True ∧ True ∧ True ∧
    (PySem.W.keepIn K (.ref (He.ga K x)) = true ∧ PySem.W.subIn K (.ref (He.ga K x)) (.type "BaseException") = some true ∧ PySem.W.subIn K (.ref (He.ga K x)) (.type "ValueError") = some true ∧ PySem.W.typeIn K (.ref (He.ga K x)) = some (.type "type") ∧
      PySem.W.mroIn K (He.ga K x) (.ref (He.ga K x)) = some true ∧ PySem.W.nsIn K cStatics "thirdparty.any" = some none ∧ PySem.W.ks_superIn K (He.ga K x) (He.ga K x) "__init__" = some (some (.builtin "ValueError.__init__"))) ∧
    ∀ (nm qu : Str) (ps : Arguments) (body : List Stmt) (sc : Scope), fnS K (x, some "__init__") = some (nm, qu, ps, FuncBody.stmts body, sc, mainGlobals, [("__class__" : Str)], builtinsNs) →
      ∃ oc od osl doc pm an cda ct cc, K.lookup (He.ma K (He.ga K x) "__init__") = some ⟨oc, od, .func (PySem.W.ksFn nm qu ps body sc .none .none doc pm an (.ref cda) ct cc), osl⟩ ∧ PySem.W.codeIn K (.ref cda) qu = true ∧
        (∃ cl cld csl, K.lookup cc = some ⟨cl, cld, .cell (some (.ref (He.ga K x))), csl⟩) ∧ (∃ ccl cdd vs ccs file tf, K.lookup cda = some ⟨ccl, cdd, .fields vs, ccs⟩ ∧ vs[2]? = some (.str file tf) ∧ ((P0.main.file : Str) == file) = true) := by
  obtain ⟨c1, c⟩ := He.ba c
  obtain ⟨c2, c⟩ := He.ba c
  obtain ⟨c3, c4⟩ := He.ba c
  obtain ⟨k1, c3⟩ := He.ba c3
  obtain ⟨k2, c3⟩ := He.ba c3
  obtain ⟨k3, c3⟩ := He.ba c3
  obtain ⟨k4, c3⟩ := He.ba c3
  obtain ⟨k5, c3⟩ := He.ba c3
  obtain ⟨k6, k7⟩ := He.ba c3
  refine ⟨eqB_ok c1, eqB_ok c2, trivial, trivial, trivial, ⟨k1, eqB_ok k2, eqB_ok k3, eqB_ok k4, eqB_ok k5, eqB_ok k6, eqB_ok k7⟩, fun nm qu ps body sc e => ?_⟩
  unfold initC at c4
  unfold fnS He.fAd at e
  dsimp only at e
  cases q : K.lookup (He.ma K (He.ga K x) "__init__") with
  | none =>
    rw [q] at c4
    cases c4
  | some o =>
    obtain ⟨oc, od, dt, osl⟩ := o
    rw [q] at c4 e
    cases dt with
    | func fd =>
      obtain ⟨n1, n2, n3, n4, n5, n6, n7, n8, n9, n10, n11, n12, n13, n14, n15⟩ := fd
      have e2 : (some (n1, n2, n3, n4, n5, n6, n7.map (·.1), n15) : FnS) = some (nm, qu, ps, FuncBody.stmts body, sc, mainGlobals, [("__class__" : Str)], builtinsNs) := e
      simp only [Option.some.injEq, Prod.mk.injEq] at e2
      obtain ⟨h1, h2, h3, h4, h5, h6, h7, h8⟩ := e2
      subst h1 h2 h3 h4 h5 h6 h8
      dsimp only at c4
      split at c4
      · rename_i cda cn cc
        obtain ⟨m1, c4⟩ := He.ba c4
        obtain ⟨m2, m3⟩ := He.ba c4
        have hcn : cn = "__class__" := by simpa using h7
        subst hcn
        refine ⟨oc, od, osl, n10, n11, n12, cda, n14, cc, rfl, m1, ?_, ?_⟩
        · split at m2
          · rename_i cl cld D csl hc
            have hD : D = He.ga K x := by simpa using m2
            rw [hD] at hc
            exact ⟨_, _, _, hc⟩
          · cases m2
        · split at m3
          · rename_i ccl cdd vs ccs hc
            split at m3
            · rename_i file tf hv
              exact ⟨_, _, _, _, _, _, hc, hv, m3⟩
            · cases m3
          · cases m3
      · cases c4
    | _ => cases c4
/-! ### the hook -/
abbrev AlX : Type := Bool × (List He.FnW × (List FnS × List (Option (List (Option (Str × Int))))))
/-- fs: functions that close over cells, with what they must be; cu: facts of one's own; ts: dicts of the module with text keys -/
def obsX (fa : List He.Fa) (fn : List He.DefD) (fs : List ((Str × Option Str) × FnS)) (cu : List (PySem.W.Frag → Bool)) (ts : List He.Tab) (K : PySem.W.Frag) : AlX :=
  ((fa.all fun f => f.ok K) && ((fn.all fun d => d.ok K) && cu.all fun c => c K), (fn.map fun d => He.fnW K d.at_, (fs.map fun f => fnS K f.1, ts.map fun t => He.dicW K (t.1 K))))
def valX (fn : List He.DefD) (fs : List ((Str × Option Str) × FnS)) (ts : List He.Tab) (w : World) : AlX := (true, (fn.map He.DefD.val, (fs.map (·.2), ts.map fun t => some (He.keysIn w.params t.2))))
def SaysX (fa : List He.Fa) (fn : List He.DefD) (fs : List ((Str × Option Str) × FnS)) (cu : List (PySem.W.Frag → Bool)) (ts : List He.Tab) (w : World) (K : PySem.W.Frag) : Prop := obsX fa fn fs cu ts K = valX fn fs ts w
def obsXG (n : Nat) (fa : List He.Fa) (fn : List He.DefD) (fs : List ((Str × Option Str) × FnS)) (cu : List (PySem.W.Frag → Bool)) (ts : List He.Tab) (g : Addr → Option Obj) : AlX := obsX fa fn fs cu ts (He.frG g (cStatics :: He.asD g n))
def hookX (n : Nat) (fa : List He.Fa) (fn : List He.DefD) (fs : List ((Str × Option Str) × FnS)) (cu : List (PySem.W.Frag → Bool)) (ts : List He.Tab) : PySem.W.Hook where
  α := AlX
  obs := fun s => obsXG n fa fn fs cu ts s.heap.get?
  val := fun w => valX fn fs ts w
  says := fun w h => ∃ K : PySem.W.Frag, K.In h ∧ SaysX fa fn fs cu ts w K
  of := fun _ _ e => ⟨_, He.frG_in, e⟩
  keeps := fun _ _ _ ⟨K, hK, c⟩ k => ⟨K, PySem.W.Frag.In.keeps hK k, c⟩
theorem obsXG_eq {n : Nat} {fa : List He.Fa} {fn : List He.DefD} {fs : List ((Str × Option Str) × FnS)} {cu : List (PySem.W.Frag → Bool)} {ts : List He.Tab} {g : Addr → Option Obj} {s : Shared} (h : ∀ a, g a = s.heap.get? a) : obsXG n fa fn fs cu ts g = (hookX n fa fn fs cu ts).obs s := by
  have e : g = s.heap.get? := funext h
  rw [e] <;> rfl
section
variable {fa : List He.Fa} {fn : List He.DefD} {fs : List ((Str × Option Str) × FnS)} {cu : List (PySem.W.Frag → Bool)} {ts : List He.Tab} {w : World} {K : PySem.W.Frag}
theorem SaysX.all (c : SaysX fa fn fs cu ts w K) : (fa.all fun f => f.ok K) = true ∧ (fn.all fun d => d.ok K) = true ∧ (cu.all fun c => c K) = true := by
  have c1 : ((fa.all fun f => f.ok K) && ((fn.all fun d => d.ok K) && cu.all fun c => c K)) = true := congrArg (fun z : AlX => z.1) c
  obtain ⟨a, b⟩ := He.ba c1
  obtain ⟨b, d⟩ := He.ba b
  exact ⟨a, b, d⟩
theorem SaysX.fact (c : SaysX fa fn fs cu ts w K) (i : Nat) {f : He.Fa} (h : fa[i]? = some f := by rfl) : f.ok K = true := List.all_eq_true.mp c.all.1 f (List.mem_of_getElem? h)
theorem SaysX.own (c : SaysX fa fn fs cu ts w K) (i : Nat) {f : PySem.W.Frag → Bool} (h : cu[i]? = some f := by rfl) : f K = true := List.all_eq_true.mp c.all.2.2 f (List.mem_of_getElem? h)
theorem SaysX.init (c : SaysX fa fn fs cu ts w K) (i : Nat) {f : (Str × Option Str) × FnS} (h : fs[i]? = some f := by rfl) : fnS K f.1 = f.2 := by
  have e : fs.map (fun f => fnS K f.1) = fs.map (·.2) := congrArg (fun z : AlX => z.2.2.1) c
  have e2 : (fs.map fun f => fnS K f.1)[i]? = (fs.map (·.2))[i]? := by rw [e]
  rw [List.getElem?_map, List.getElem?_map, h] at e2
  exact Option.some.inj e2
theorem SaysX.def_ (c : SaysX fa fn fs cu ts w K) (i : Nat) {d : He.DefD} (h : fn[i]? = some d := by rfl) : ∃ fd, FunD K d.name d.qual d.params d.body d.scope (d.dvs K) (d.kws K) (He.fAd K d.at_) fd := by
  have e : fn.map (fun d => He.fnW K d.at_) = fn.map He.DefD.val := congrArg (fun z : AlX => z.2.1) c
  have e2 : (fn.map fun d => He.fnW K d.at_)[i]? = (fn.map He.DefD.val)[i]? := by rw [e]
  rw [List.getElem?_map, List.getElem?_map, h] at e2
  exact He.DefD.funD (Option.some.inj e2) (List.all_eq_true.mp c.all.2.1 d (List.mem_of_getElem? h))
theorem SaysX.tab (c : SaysX fa fn fs cu ts w K) (i : Nat) {t : He.Tab} (h : ts[i]? = some t := by rfl) : ∃ es n, KDict K w (t.1 K) es n := by
  have e : ts.map (fun t => He.dicW K (t.1 K)) = ts.map fun t => some (He.keysIn w.params t.2) := congrArg (fun z : AlX => z.2.2.2) c
  have e2 : (ts.map fun t => He.dicW K (t.1 K))[i]? = (ts.map fun t => some (He.keysIn w.params t.2))[i]? := by rw [e]
  rw [List.getElem?_map, List.getElem?_map, h] at e2
  exact He.dicW_ok (Option.some.inj e2)
end
/-! ### tables of the module -/
/-- the texts that are keys of the dict at d, in order -/
def keysB (K : PySem.W.Frag) (d : Addr) (ks : List Str) : Bool := match K.lookup d with
  | some ⟨_, _, .dict es _, _⟩ => eqB (es.toList.map fun e => match e.key with | Value.str x _ => some x | _ => none) (ks.map some)
  | _ => false
theorem keysB_none {K : PySem.W.Frag} {d : Addr} {ks : List Str} (h : keysB K d ks = true) {z : Str} (hz : z ∉ ks) : PySem.W.nsIn K d z = some none := by
  unfold keysB at h
  unfold PySem.W.nsIn
  cases q : K.lookup d with
  | none => rw [q] at h; cases h
  | some o =>
    obtain ⟨oc, od, dt, osl⟩ := o
    rw [q] at h
    cases dt with
    | dict es n =>
      have e := eqB_ok h
      have all : ∀ e ∈ es.toList, ∃ x t, e.key = .str x t ∧ x ∈ ks := fun y hy => by
        have hm : (match y.key with | Value.str x _ => some x | _ => none) ∈ ks.map some := by
          rw [← e]
          exact List.mem_map.mpr ⟨y, hy, rfl⟩
        obtain ⟨x, hx, ex⟩ := List.mem_map.mp hm
        cases hk : y.key with
        | str x2 t =>
          rw [hk] at ex
          cases ex
          exact ⟨_, t, rfl, hx⟩
        | _ => rw [hk] at ex; cases ex
      have f1 : es.toList.find? (·.key.isStr z) = none := by
        rw [List.find?_eq_none]
        intro y hy
        obtain ⟨x, t, hk, hx⟩ := all y hy
        rw [hk, PySem.W.isStr_of]
        intro hh
        have : x = z := by
          simp [Value.isStrOf] at hh
          exact hh
        exact hz (this ▸ hx)
      have f2 : es.toList.any (·.refKey) = false := by
        rw [List.any_eq_false]
        intro y hy
        obtain ⟨x, t, hk, hx⟩ := all y hy
        simp [DictEntry.refKey, hk]
      dsimp only
      rw [f1, f2]
      rfl
    | _ => cases h
/-- the object that stands at a key -/
def kAt (K : PySem.W.Frag) (d : Addr) (z : Str) : Addr := match PySem.W.nsIn K d z with
  | some (some (.ref a)) => a
  | _ => 0
/-- at a: a tuple of these -/
def tupK (K : PySem.W.Frag) (a : Addr) (vs : List He.Dv) : Bool := match K.lookup a with
  | some ⟨.type c, _, .seq its _, _⟩ => decide (c = "tuple") && (decide (its.size ≤ sizeLine) && He.relAll (vs.map (He.Dv.v K)) its.toList)
  | _ => false
theorem tupK_ok {K : PySem.W.Frag} {a : Addr} {vs : List He.Dv} (h : tupK K a vs = true) (H : Hp) : SqT K H a (vs.map (He.Dv.v K)) := by
  unfold tupK at h
  cases q : K.lookup a with
  | none => rw [q] at h; cases h
  | some o =>
    obtain ⟨oc, od, dt, osl⟩ := o
    rw [q] at h
    cases oc with
    | type c =>
      cases dt with
      | seq its n =>
        obtain ⟨h1, h2⟩ := He.ba (show (decide (c = "tuple") && (decide (its.size ≤ sizeLine) && He.relAll (vs.map (He.Dv.v K)) its.toList)) = true from h)
        obtain ⟨h3, h4⟩ := He.ba h2
        exact .inr ⟨_, its, n, q, congrArg Value.type (of_decide_eq_true h1), rfl, of_decide_eq_true h3, He.relAll_ok h4⟩
      | _ => cases h
    | _ => cases dt <;> cases h
end Z

/-! ### try with clauses of both kinds: except X, except X as n -/
namespace Z
open PySem PySem.Spec PyProof.Rows L2 Evl
/-- behind «except .. as n»: slot i, n's, is empty -/
def unb (i : Option Nat) (D : Ends) : Ends := match i with
  | none => D
  | some i => { nx := fun σ' H' => D.nx (σ'.set i none) H', rt := D.rt, bk := fun σ' H' => D.bk (σ'.set i none) H', ct := fun σ' H' => D.ct (σ'.set i none) H' }
def bnd (i : Option Nat) (a : Addr) (σ : L2.St) : L2.St := match i with
  | none => σ
  | some i => σ.set i (some (.ref a))
abbrev Hd : Type := Value × Option Nat × (Addr → Value → Option Addr → TS)
/-- what the clauses wish of an exception of the body, one after the other -/
def wMix (K : PySem.W.Frag) (Wout : WX) (D : Ends) : List Hd → WX
  | [] => Wout
  | (c, i, ts) :: r => fun cls d σ H => ∃ b, PySem.W.exmOne K cls c = some b ∧ (b = true → ∀ a, H a = none → ts a cls d (unb i D) (bnd i a σ) H) ∧ (b = false → wMix K Wout D r cls d σ H)
inductive HdZ (X : Cx) : List ExceptHandler → List Hd → Prop
  | nil : HdZ X [] []
  | only {x : Str} {c : Value} {ts : Addr → Value → Option Addr → TS} {b₀ : Stmt} {suite : List Stmt} {np pos' : Pos} {hds : List ExceptHandler} {l : List Hd} (hc : Names X x c)
      (hsu : ∀ (a : Addr) (oe : Obj) (cls : Value) (d : Option Addr) (pn : List (Addr × Obj)), Zc cls d oe → (∃ vs, oe.data = .fields vs) → PSs (X.suite a ((a, oe) :: pn)) (b₀ :: suite) (ts a cls d)) (r : HdZ X hds l) :
      HdZ X (.ExceptHandler (some (.Name x np)) none (b₀ :: suite) pos' :: hds) ((c, none, ts) :: l)
  | as_ {x n : Str} {i : Nat} {c : Value} {ts : Addr → Value → Option Addr → TS} {b₀ : Stmt} {suite : List Stmt} {np pos' : Pos} {hds : List ExceptHandler} {l : List Hd} (hN : X.N.Nodup) (hi : X.N[i]? = some n) (hln : X.env.kindOf n = some .local) (hc : Names X x c)
      (hsu : ∀ (a : Addr) (oe : Obj) (cls : Value) (d : Option Addr) (pn : List (Addr × Obj)), Zc cls d oe → (∃ vs, oe.data = .fields vs) → PSs (X.suite a ((a, oe) :: pn)) (b₀ :: suite) (ts a cls d)) (r : HdZ X hds l) :
      HdZ X (.ExceptHandler (some (.Name x np)) (some n) (b₀ :: suite) pos' :: hds) ((c, some i, ts) :: l)
section
variable {prog : Program} {w : World} {A : Around} {E : Value → Shared → Prop} {s : Shared} {K : PySem.W.Frag} {B : Heap} {env : Env} {outer : List Env} {L a : Addr} {cls c : Value} {d : Option Addr} {t : Expr} {n : Str} {b₀ : Stmt} {suite : List Stmt} {pos : Pos} {rest : List ExceptHandler} {Q : Flow → Shared → Prop}
theorem cl_as (X : K.In s.heap) (fl : HandSPX.FlyingZ B (env :: outer) a (Zc cls d) s.heap) (hm : PySem.W.exmOne K cls c = some true)
    (test : ∀ {Q' : Value → Shared → Prop} {E' : Value → Shared → Prop}, Q' c s → wpAny (model prog w) (A.mark (some (.ref a))) (eval t env) Q' E' s)
    (k : ∀ h', HandSPX.FlyingZ B (env :: outer) a (Zc cls d) h' → s.heap.UpToSlots h' → wpAny (model prog w) (A.mark (some (.ref a))) (storeName env n (.ref a))
      (fun _ s₂ => wpAny (model prog w) (A.mark (some (.ref a))) (execs (b₀ :: suite) env) (fun f s₃ => wpAny (model prog w) A (do bindName env n .none; unbindBehindTheSuite env n pos) (fun _ s₄ => Q f s₄) E s₃) (fun _ _ => False) s₂) (fun _ _ => False) { s with heap := h' }) :
    wpAny (model prog w) A (handleBy (.ref a) env (.ExceptHandler (some t) (some n) (b₀ :: suite) pos :: rest)) Q E s := by
  obtain ⟨oe, vs, he, hz, _⟩ := fl.there
  refine wpAny_handleBy_cons (codeAny_handlers_test ?_) (by intro q; cases q)
  have LT : PySem.W.Looks (model prog w) s.heap (typeOf (.ref a)) cls := fun A Q E s k q => wpAny_typeOf_ref (k _ _ he) (by rw [hz.1]; exact q)
  refine test ((PySem.W.exm_one (M := model prog w) X LT hm).here ?_)
  refine codeAny_handlers_suite_as (HandSPX.lands_againZ fl fun h4 fl4 up4 => ?_)
  exact wpAny_mono (k h4 fl4 up4) (fun _ s₂ h₂ => wpAny_mono h₂ (fun f s₃ h₃ => h₃) fun _ _ z => z.elim) fun _ _ z => z.elim
theorem cl_only (X : K.In s.heap) (fl : HandSPX.FlyingZ B (env :: outer) a (Zc cls d) s.heap) (hm : PySem.W.exmOne K cls c = some true)
    (test : ∀ {Q' : Value → Shared → Prop} {E' : Value → Shared → Prop}, Q' c s → wpAny (model prog w) (A.mark (some (.ref a))) (eval t env) Q' E' s)
    (k : ∀ h', HandSPX.FlyingZ B (env :: outer) a (Zc cls d) h' → s.heap.UpToSlots h' → wpAny (model prog w) (A.mark (some (.ref a))) (execs (b₀ :: suite) env) Q (fun _ _ => False) { s with heap := h' }) :
    wpAny (model prog w) A (handleBy (.ref a) env (.ExceptHandler (some t) none (b₀ :: suite) pos :: rest)) Q E s := by
  obtain ⟨oe, vs, he, hz, _⟩ := fl.there
  refine wpAny_handleBy_cons (codeAny_handlers_test ?_) (by intro q; cases q)
  have LT : PySem.W.Looks (model prog w) s.heap (typeOf (.ref a)) cls := fun A Q E s k q => wpAny_typeOf_ref (k _ _ he) (by rw [hz.1]; exact q)
  refine test ((PySem.W.exm_one (M := model prog w) X LT hm).here ?_)
  refine codeAny_handlers_suite (HandSPX.lands_againZ fl fun h4 fl4 up4 => ?_)
  exact wpAny_mono (k h4 fl4 up4) (fun f s₂ h₂ => h₂) fun _ _ z => z.elim
theorem cl_pass {nm : Option Str} {body : List Stmt} (X : K.In s.heap) (fl : HandSPX.FlyingZ B (env :: outer) a (Zc cls d) s.heap) (hm : PySem.W.exmOne K cls c = some false)
    (test : ∀ {Q' : Value → Shared → Prop} {E' : Value → Shared → Prop}, Q' c s → wpAny (model prog w) (A.mark (some (.ref a))) (eval t env) Q' E' s)
    (k : wpAny (model prog w) A (handleBy (.ref a) env rest) Q E s) :
    wpAny (model prog w) A (handleBy (.ref a) env (.ExceptHandler (some t) nm body pos :: rest)) Q E s := by
  obtain ⟨oe, vs, he, hz, _⟩ := fl.there
  refine wpAny_handleBy_cons (codeAny_handlers_test ?_) (by intro q; cases q)
  have LT : PySem.W.Looks (model prog w) s.heap (typeOf (.ref a)) cls := fun A Q E s k q => wpAny_typeOf_ref (k _ _ he) (by rw [hz.1]; exact q)
  exact test ((PySem.W.exm_one (M := model prog w) X LT hm).here k)
theorem cl_none (hf : env.frame = some L) (fl : HandSPX.FlyingZ B (env :: outer) a (Zc cls d) s.heap) (k : ∀ h', HandSPX.HeldZ B (env :: outer) a (Zc cls d) L h' → s.heap.UpToSlots h' → E (.ref a) { s with heap := h' }) :
    wpAny (model prog w) A (handleBy (.ref a) env []) Q E s := by
  refine wpAny_handleBy_nil ?_
  obtain ⟨k1, k2, k3, oe, vs, T, oT, ts', he, hz, hd, h1, hr⟩ := id fl
  unfold PySem.passOn
  refine wpAny_bind (wpAny_field he hd h1 ?_)
  rw [if_neg (show ¬ ((Value.ref T == Value.none) = true) from by simp)]
  have fin : wpAny (model prog w) A (setFlight (.ref a) env.frame) (fun _ s4 => wpAny (model prog w) A (throw (.ref a) : Sem Flow) Q E s4) E s := by
    rw [hf]
    exact HandSPX.setFlight_upZ fl fun h4 hh4 up4 => wpAny_throw (k h4 hh4 up4)
  first
    | exact wpAny_bind (wpAny_pure (wpAny_bind fin))
    | exact wpAny_bind fin
end
section
variable {X : Cx} {body : List Stmt} {h₀ : ExceptHandler} {hds : List ExceptHandler} {l : List Hd} {pos : Pos} {tb : WX → TS} {Wout : WX}
theorem ps_try_mix (hs : X.stack = X.env :: X.outer) (hf : X.env.frame = some X.env.locals) (tk : Takes X Wout)
    (hb : ∀ (W : WX) (pn : List (Addr × Obj)) (xe : Value → Shared → Prop), Takes (X.tr pn xe) W → PassesOwn (model X.prog X.w) X.A X.env xe → PSs (X.tr pn xe) body (tb W))
    (hh : HdZ X (h₀ :: hds) l) : PS X (.Try body (h₀ :: hds) [] [] pos) (fun D σ H => tb (wMix X.K Wout D l) D σ H) := by
  refine ⟨fun pins s σ H D I h => ?_⟩
  have ok := I.ok
  have hfr : X.A.frames = some (X.env :: X.outer) := by rw [ok.frames, hs]
  refine wpAny_Try_except ?_
  refine wpAny_mono ((hb (wMix X.K Wout D l) (X.pn ++ pins) (fun e s₁ => wpAny (model X.prog X.w) X.A (noteFrame e X.env) (fun _ s₂ => wpAny (model X.prog X.w) X.A (setFlight e none) (fun _ s₃ =>
    wpAny (model X.prog X.w) X.A (handleBy e X.env (h₀ :: hds)) (SP X pins D) X.xe s₃) X.xe s₂) X.xe s₁) (fun u s' xx => ?_) PassesOwn.looking).run [] s σ H D (I.toTry _) h) (fun f s1 hsp => ?_) (fun e s1 he => he)
  · obtain ⟨a, B, sI, pins', σ', H', cls, d, rfl, J', nb, up, sky, na, os, ag, w⟩ := xx
    have J : Inv X pins σ' H' sI := J'.ofTry ok
    have sky' : Sky B (X.env :: X.outer) a (Zc cls d) X.env.locals s'.heap := by rw [← hs]; exact sky
    show wpAny (model X.prog X.w) X.A (noteFrame (.ref a) X.env) _ _ _
    refine Sky.land Zc.steady hfr hf sky' fun h3 fl3 up3 => ?_
    -- through the clauses, whatever the heap's traceback marks
    have go : ∀ {hds' : List ExceptHandler} {l' : List Hd}, HdZ X hds' l' → ∀ h3 : Heap, HandSPX.FlyingZ B (X.env :: X.outer) a (Zc cls d) h3 → sI.heap.UpToSlots h3 ∨ True → (∀ {h4 : Heap}, HandSPX.FlyingZ B (X.env :: X.outer) a (Zc cls d) h4 → h3.UpToSlots h4 → Inv X pins σ' H' { s' with heap := h4 }) → Inv X pins σ' H' { s' with heap := h3 } →
        (∀ {h4 : Heap}, HandSPX.HeldZ B (X.env :: X.outer) a (Zc cls d) X.env.locals h4 → h3.UpToSlots h4 → ∀ W : WX, Takes X W → W cls d σ' H' → X.xe (.ref a) { s' with heap := h4 }) → wMix X.K Wout D l' cls d σ' H' →
        wpAny (model X.prog X.w) X.A (handleBy (.ref a) X.env hds') (SP X pins D) X.xe { s' with heap := h3 } := by
      intro hds' l' hk
      induction hk with
      | nil =>
        intro h3 fl3 _ _ _ out w
        exact cl_none hf fl3 fun h4 hh4 up4 => out hh4 up4 _ tk w
      | @only x c ts b₀ suite np pos' hds2 l2 hc hsu r ih =>
        intro h3 fl3 u0 inv J3 out w
        obtain ⟨oe3, vs3, he3, hz3, hd3⟩ := fl3.there
        have nfr : a ∉ frs (X.env :: X.outer) := fun hm => by
          obtain ⟨_, o', e', hnf⟩ := fl3.2.2.1.mem hm
          rw [he3] at e'; cases e'
          exact hnf _ hd3
        have nL : a ≠ X.env.locals := fun z => nfr (List.mem_filterMap.mpr ⟨X.env, List.mem_cons_self, by rw [hf, z]⟩)
        have nF : a ∉ X.fs := fun hm => by
          obtain ⟨e, he, q⟩ := List.mem_filterMap.mp hm
          exact nfr (List.mem_filterMap.mpr ⟨e, List.mem_cons_of_mem _ he, q⟩)
        have S3 := J3.suite he3 hd3 na nL nF
        have test : ∀ {Q : Value → Shared → Prop} {E : Value → Shared → Prop}, Q c { s' with heap := h3 } → wpAny (model X.prog X.w) (X.A.mark (some (.ref a))) (eval (.Name x np) X.env) Q E { s' with heap := h3 } := fun {Q E} q => by
          obtain ⟨hg, hdbg, hm | ⟨hm, hv, hnn⟩⟩ := hc
          · exact ld_glob (X := X.suite a ((a, oe3) :: (X.pn ++ pins))) S3 hg hm q hdbg
          · exact ld_blt (X := X.suite a ((a, oe3) :: (X.pn ++ pins))) S3 hg hm hv q hnn hdbg
        obtain ⟨b, hb1, hyes, hno⟩ := w
        cases b with
        | true =>
          refine cl_only J3.kIn fl3 hb1 test fun h4 fl4 up4 => ?_
          obtain ⟨oe4, vs4, he4, hz4, hd4⟩ := fl4.there
          have S4 := (inv fl4 up4).suite he4 hd4 na nL nF
          refine wpAny_mono ((hsu a oe4 cls d (X.pn ++ pins) hz4 ⟨_, hd4⟩).run [] _ _ H' _ S4 (hyes rfl a na)) (fun f s6 hsp => ?_) (fun _ _ z => z)
          cases f with
          | ret u =>
            obtain ⟨v6, σ6, H6, S6, r6, q6⟩ := hsp
            exact ⟨_, _, _, S6.unsuite ok, r6, q6⟩
          | _ =>
            obtain ⟨σ6, H6, S6, q6⟩ := hsp
            exact ⟨_, _, S6.unsuite ok, q6⟩
        | false => exact cl_pass J3.kIn fl3 hb1 test (ih h3 fl3 u0 inv J3 out (hno rfl))
      | @as_ x n i c ts b₀ suite np pos' hds2 l2 hN hi hln hc hsu r ih =>
        intro h3 fl3 u0 inv J3 out w
        obtain ⟨oe3, vs3, he3, hz3, hd3⟩ := fl3.there
        have nfr : a ∉ frs (X.env :: X.outer) := fun hm => by
          obtain ⟨_, o', e', hnf⟩ := fl3.2.2.1.mem hm
          rw [he3] at e'; cases e'
          exact hnf _ hd3
        have nL : a ≠ X.env.locals := fun z => nfr (List.mem_filterMap.mpr ⟨X.env, List.mem_cons_self, by rw [hf, z]⟩)
        have nF : a ∉ X.fs := fun hm => by
          obtain ⟨e, he, q⟩ := List.mem_filterMap.mp hm
          exact nfr (List.mem_filterMap.mpr ⟨e, List.mem_cons_of_mem _ he, q⟩)
        have S3 := J3.suite he3 hd3 na nL nF
        have test : ∀ {Q : Value → Shared → Prop} {E : Value → Shared → Prop}, Q c { s' with heap := h3 } → wpAny (model X.prog X.w) (X.A.mark (some (.ref a))) (eval (.Name x np) X.env) Q E { s' with heap := h3 } := fun {Q E} q => by
          obtain ⟨hg, hdbg, hm | ⟨hm, hv, hnn⟩⟩ := hc
          · exact ld_glob (X := X.suite a ((a, oe3) :: (X.pn ++ pins))) S3 hg hm q hdbg
          · exact ld_blt (X := X.suite a ((a, oe3) :: (X.pn ++ pins))) S3 hg hm hv q hnn hdbg
        obtain ⟨b, hb1, hyes, hno⟩ := w
        cases b with
        | true =>
          refine cl_as J3.kIn fl3 hb1 test fun h4 fl4 up4 => ?_
          obtain ⟨oe4, vs4, he4, hz4, hd4⟩ := fl4.there
          have S4 := (inv fl4 up4).suite he4 hd4 na nL nF
          refine store_ok (X := X.suite a ((a, oe4) :: (X.pn ++ pins))) (v := .ref a) S4 hN hi (.inl hln) rfl (fun s5 S5 => ?_) (.inr hln)
          refine wpAny_mono ((hsu a oe4 cls d (X.pn ++ pins) hz4 ⟨_, hd4⟩).run [] s5 _ H' _ S5 (hyes rfl a na)) (fun f s6 hsp => ?_) (fun _ _ z => z)
          have end_ : ∀ {σ6 : L2.St} {H6 : Hp} {Q : Shared → Prop}, Inv (X.suite a ((a, oe4) :: (X.pn ++ pins))) [] σ6 H6 s6 → (∀ s7, Inv X pins (σ6.set i none) H6 s7 → Q s7) →
              wpAny (model X.prog X.w) X.A (do bindName X.env n .none; unbindBehindTheSuite X.env n pos') (fun _ s7 => Q s7) X.xe s6 := fun {σ6 H6 Q} S6 hq => gone_ok (S6.unsuite ok) hN hi hln hq
          cases f with
          | next =>
            obtain ⟨σ6, H6, S6, q6⟩ := hsp
            exact end_ S6 fun s7 J7 => ⟨_, _, J7, q6⟩
          | brk =>
            obtain ⟨σ6, H6, S6, q6⟩ := hsp
            exact end_ S6 fun s7 J7 => ⟨_, _, J7, q6⟩
          | cont =>
            obtain ⟨σ6, H6, S6, q6⟩ := hsp
            exact end_ S6 fun s7 J7 => ⟨_, _, J7, q6⟩
          | ret u =>
            obtain ⟨v6, σ6, H6, S6, r6, q6⟩ := hsp
            exact end_ S6 fun s7 J7 => ⟨_, _, _, J7, r6, q6⟩
        | false => exact cl_pass J3.kIn fl3 hb1 test (ih h3 fl3 u0 inv J3 out (hno rfl))
    refine go hh h3 fl3 (.inr trivial) (fun {h4} fl4 up4 => J.landed nb fl4.1 ((up.trans up3).trans up4) os ag) (J.landed nb fl3.1 (up.trans up3) os ag) (fun {h4} hh4 up4 W tkW w' => tkW _ _ ?_) w
    exact ⟨a, B, sI, pins, σ', H', cls, d, rfl, J, nb, (up.trans up3).trans up4, .inr (.inr (by rw [hs]; exact hh4)), na, os, ag, w'⟩
  · cases f with
    | next =>
      obtain ⟨σ', H', J', q⟩ := hsp
      exact wpAny_execs_nil ⟨σ', H', J'.ofTry ok, q⟩
    | brk =>
      obtain ⟨σ', H', J', q⟩ := hsp
      exact ⟨σ', H', J'.ofTry ok, q⟩
    | cont =>
      obtain ⟨σ', H', J', q⟩ := hsp
      exact ⟨σ', H', J'.ofTry ok, q⟩
    | ret u =>
      obtain ⟨v, σ', H', J', r, q⟩ := hsp
      exact ⟨v, σ', H', J'.ofTry ok, r, q⟩
end
/-- a call of a def that may raise, by its promise (Fok); W: what is wanted of the exception -/
theorem pe_callG {X : Cx} {W : WX} {k : Nat} {x : Str} {ps : List Str} {sp : Sp} {e : Expr} {es : List Expr} {t : TA} {p pos : Pos} (F : Fok X.prog X.w X.K X.mg X.base (L2.CX X.prog X.w) k x ps sp) (hr : Room k X.A) (hg : Gl X x) (tk : Takes X W)
    (ha : PA X (e :: es) t) (hdb : (x == ("__debug__" : Str)) = false := by decide) (he : starEach (e :: es) X.env = (false, eval e X.env) :: starEach es X.env := by rfl) (hpl : (backTo pos (starEach es X.env)).any (·.1) = false := by rfl) :
    PE X (.Call (.Name x p) (e :: es) [] pos) (tCallS sp (WE W) t) :=
  let ⟨_, h1, h2⟩ := F.ex
  pe_callS h1 hr hg F.hm F.kp h2 (fun σ => passAt tk σ) ha hdb he hpl
/-- what an exception's way out is owed: of the class x, its field f holding v, all that was there kept -/
def Rz (K : PySem.W.Frag) (x f : Str) (v : V) (H : Hp) (E : XK) : Prop := ∀ H' d, Ex H H' → H' d = some (.xd [(f, v)]) → E (.ref (He.ga K x)) (some d) H'
end Z

/-! ### calls with keywords: the values in the order that they are written (positional ones, then the keywords'), put in the parameters' order by places -/
namespace Z
open PySem PySem.Spec PyProof.Rows L2 Evl
def perm {α : Type} (p : List Nat) (l : List α) : List α := p.filterMap fun i => l[i]?
theorem perm_rel {vs : List V} {us : List Value} (r : Vals vs us) : ∀ p : List Nat, Vals (perm p vs) (perm p us)
  | [] => .nil
  | i :: p => by
    have ih := perm_rel r p
    unfold perm at ih ⊢
    rw [List.filterMap_cons, List.filterMap_cons]
    cases e : vs[i]? with
    | none =>
      have hl : us[i]? = none := by
        rw [List.getElem?_eq_none_iff] at e ⊢
        rw [← r.length]
        exact e
      rw [hl]
      exact ih
    | some v =>
      obtain ⟨u, hu, ru⟩ := Vals.get r e
      rw [hu]
      exact .cons ru ih
structure FokK (P : Program) (w : World) (K : PySem.W.Frag) (mg : Str → Option Value) (base : Heap) (CX : CXT) (k : Nat) (x : Str) (ps : List Str) (sp : Sp) (n : Nat) (ks : List Str) (p : List Nat) : Prop where
  ex : ∃ fd, FnOk P w K mg base CX k (He.ga K x) fd ps sp ∧ ∀ (s : Shared) (us ws : List Value), us.length = n → ws.length = ks.length → BindsTo s fd ⟨us, ks.zip ws⟩ (ps.zip (perm p (us ++ ws)))
  hm : mg x = some (.ref (He.ga K x))
  kp : PySem.W.keepIn K (.ref (He.ga K x)) = true
theorem kbinds {K : PySem.W.Frag} {x qual : Str} {params : Arguments} {body : List Stmt} {scope : Scope} {kws : List (Str × V)} {f : Addr} {fd : FuncData} {ps ks : List Str} {n : Nat} {p : List Nat} (F : FunD K x qual params body scope [] kws f fd)
    (h : ∀ (kV doc pm : Value) (an : Option Addr) (cdv ct : Value) (us ws : List Value), us.length = n → ws.length = ks.length → bindArgs (PySem.W.fnOf x qual params body scope .none kV doc pm an cdv ct) ⟨us, ks.zip ws⟩ = pure (ps.zip (perm p (us ++ ws)))) :
    ∀ (s : Shared) (us ws : List Value), us.length = n → ws.length = ks.length → BindsTo s fd ⟨us, ks.zip ws⟩ (ps.zip (perm p (us ++ ws))) := by
  obtain ⟨oc, od, dV, kV, doc, pm, an, cdv, ct, osl, rfl, lk, hcd, hD, hK⟩ := F.ex
  rcases hD with ⟨_, rfl⟩ | ⟨e, _⟩
  · exact fun s us ws l1 l2 => BindsTo.of_eq (h kV doc pm an cdv ct us ws l1 l2)
  · exact absurd rfl e
/-- f(e, .., k = v, ..) -/
def tCallP (p : List Nat) (n m : Nat) (sp : Sp) (E : L2.St → XK) (t tk : TA) : TE := fun σ H Q => t σ H fun vs H1 => tk σ H1 fun zs H2 => vs.length = n ∧ zs.length = m ∧ sp (perm p (vs ++ zs)) H2 Q (E σ)
section
variable {X : Cx} {CX : CXT} {k n : Nat} {ps ks : List Str} {sp : Sp} {E : L2.St → XK} {x : Str} {p pos : Pos} {e : Expr} {es : List Expr} {kws : List Keyword} {t tk : TA} {pm : List Nat}
theorem run_fnP {pins : List (Addr × Obj)} {σ : L2.St} {H : Hp} {s : Shared} {Q : VK} {us ws : List Value} {vs zs : List V} (F : FokK X.prog X.w X.K X.mg X.base CX k x ps sp n ks pm) (hr : Room k X.A) (hx : PassesAt CX X σ (E σ))
    (I : Inv X pins σ H s) (r : Vals vs us) (rz : Vals zs ws) (l1 : vs.length = n) (l2 : zs.length = ks.length) (h : sp (perm pm (vs ++ zs)) H Q (E σ)) : wpAny (model X.prog X.w) X.A (call (.ref (He.ga X.K x)) us (ks.zip ws)) (EP X pins σ Q) X.xe s := by
  obtain ⟨fd, F1, b⟩ := F.ex
  refine wpAny_call (codeAny_mono (F1.run X.A X.stack s H ⟨us, ks.zip ws⟩ (perm pm (us ++ ws)) (perm pm (vs ++ zs)) Q (E σ) hr I.env0 (b s us ws (r.length.symm.trans l1) (rz.length.symm.trans l2)) (perm_rel (r.append rz) pm) h) fun r s' hq => ?_)
  cases r with
  | error e => exact hx pins H s e s' I hq
  | ok fl =>
    cases fl with
    | ret u => exact I.after hq
    | next => exact False.elim hq
    | brk => exact False.elim hq
    | cont => exact False.elim hq
theorem pe_callP (F : FokK X.prog X.w X.K X.mg X.base CX k x ps sp n ks pm) (hr : Room k X.A) (hg : Gl X x) (hx : ∀ σ, PassesAt CX X σ (E σ))
    (ha : PA X (e :: es) t) (hkw : PK X kws tk) (hall : (backToKw pos (keywordEach kws X.env)).all (·.1.isSome) = true := by rfl) (hks : (backToKw pos (keywordEach kws X.env)).filterMap (·.1) = ks := by rfl)
    (hdb : (x == ("__debug__" : Str)) = false := by decide) (he : starEach (e :: es) X.env = (false, eval e X.env) :: starEach es X.env := by rfl)
    (hpl : ((backTo pos (starEach (e :: es) X.env)).any (·.1) || (backToKw pos (keywordEach kws X.env)).any (·.1.isNone)) = false := by rfl) {m : Nat} (hm : ks.length = m := by rfl) :
    PE X (.Call (.Name x p) (e :: es) kws pos) (tCallP pm n m sp E t tk) := by
  subst hm
  refine ⟨fun pins s σ H Q I h => ?_⟩
  refine wpAny_Call_Name_kw (ld_glob I hg F.hm ?_ hdb)
  refine PySem.W.callWith_KW (h₀ := X.base) I.ok.mod.kin F.kp hall (thn (ha.run pos pins s σ H _ I h) fun us s1 ⟨vs, H1, I1, r, q⟩ => ?_) hpl he
  refine thn (hkw.run pos pins s1 σ H1 _ I1 q) fun ws s2 ⟨zs, H2, I2, rz, l1, l2, q2⟩ => ⟨I2.kIn, ?_⟩
  rw [hks]
  exact run_fnP F hr (hx σ) I2 r rz l1 l2 q2
/-- f(k = v, ..) -/
theorem pe_callP0 (F : FokK X.prog X.w X.K X.mg X.base CX k x ps sp 0 ks pm) (hr : Room k X.A) (hg : Gl X x) (hx : ∀ σ, PassesAt CX X σ (E σ))
    (hkw : PK X kws tk) (hall : (backToKw pos (keywordEach kws X.env)).all (·.1.isSome) = true := by rfl) (hks : (backToKw pos (keywordEach kws X.env)).filterMap (·.1) = ks := by rfl)
    (hdb : (x == ("__debug__" : Str)) = false := by decide)
    (hpl : ((backTo pos (starEach [] X.env)).any (·.1) || (backToKw pos (keywordEach kws X.env)).any (·.1.isNone)) = false := by rfl) {m : Nat} (hm : ks.length = m := by rfl) :
    PE X (.Call (.Name x p) [] kws pos) (tCallP pm 0 m sp E tNil tk) := by
  subst hm
  refine ⟨fun pins s σ H Q I h => ?_⟩
  refine wpAny_Call_Name_kw (ld_glob I hg F.hm ?_ hdb)
  refine PySem.W.callWith_KW0 (h₀ := X.base) I.ok.mod.kin F.kp hall ?_ hpl
  have h' : tk σ H fun zs H2 => ([] : List V).length = 0 ∧ zs.length = ks.length ∧ sp (perm pm ([] ++ zs)) H2 Q (E σ) := h
  refine thn (hkw.run pos pins s σ H _ I h') fun ws s2 ⟨zs, H2, I2, rz, l1, l2, q2⟩ => ⟨I2.kIn, ?_⟩
  rw [hks]
  exact run_fnP F hr (hx σ) I2 .nil rz l1 l2 q2
theorem passAt0 (σ : L2.St) : PassesAt CX0 X σ E0 := fun _ _ _ _ _ _ h => h.elim
end
theorem s_callS {sp : Sp} {E : L2.St → XK} {t : TA} {σ : L2.St} {H : Hp} {Q : VK} (h : t σ H fun vs H1 => sp vs H1 Q (E σ)) : tCallS sp E t σ H Q := h
theorem s_callP {pm : List Nat} {n m : Nat} {sp : Sp} {E : L2.St → XK} {t tk : TA} {σ : L2.St} {H : Hp} {Q : VK} (h : t σ H fun vs H1 => tk σ H1 fun zs H2 => vs.length = n ∧ zs.length = m ∧ sp (perm pm (vs ++ zs)) H2 Q (E σ)) : tCallP pm n m sp E t tk σ H Q := h
end Z
namespace Z
open PySem PySem.Spec PyProof.Rows L2 Evl
theorem passAtL {X : Cx} (σ : L2.St) : PassesAt (L2.CX X.prog X.w) X σ E0 := fun pins H s e s' I h => passL pins σ H s e s' I h
def tTry (K : PySem.W.Frag) (tb : WX → TS) (Wout : WX) (l : List Hd) : TS := fun D σ H => tb (wMix K Wout D l) D σ H
end Z

/-! steps: exceptions, calls with keywords -/
namespace Z
open PySem PySem.Spec PyProof.Rows L2 Evl
section
variable {K : PySem.W.Frag} {σ : L2.St} {H : Hp} {Q : VK} {D : Ends}
theorem s_try {tb : WX → TS} {Wout : WX} {l : List Hd} (h : tb (wMix K Wout D l) D σ H) : tTry K tb Wout l D σ H := h
theorem mix_hit {Wout : WX} {c cls : Value} {i : Option Nat} {ts : Addr → Value → Option Addr → TS} {r : List Hd} {d : Option Addr} (e : PySem.W.exmOne K cls c = some true) (h : ∀ a, H a = none → ts a cls d (unb i D) (bnd i a σ) H) :
    wMix K Wout D ((c, i, ts) :: r) cls d σ H := ⟨true, e, (fun _ => h), fun z => by cases z⟩
theorem mix_miss {Wout : WX} {c cls : Value} {i : Option Nat} {ts : Addr → Value → Option Addr → TS} {r : List Hd} {d : Option Addr} (e : PySem.W.exmOne K cls c = some false) (h : wMix K Wout D r cls d σ H) :
    wMix K Wout D ((c, i, ts) :: r) cls d σ H := ⟨false, e, (fun z => by cases z), fun _ => h⟩
theorem s_xf {a : Addr} {cls : Value} {d : Option Addr} {C : Addr} {f : Str} {te : TE} (h : te σ H fun x H1 => x = .ref a ∧ cls = .ref C ∧ ∃ (dd : Addr) (fs : List (Str × V)) (v : V), d = some dd ∧ H1 dd = some (.xd fs) ∧ fs.lookup f = some v ∧ Q v H1) : tXf a cls d C f te σ H Q := h
theorem xf_at {a C dd : Addr} {f : Str} {v : V} {R : V → Prop} (h : H dd = some (.xd [(f, v)])) (q : R v) :
    V.ref a = .ref a ∧ (Value.ref C) = .ref C ∧ ∃ (d2 : Addr) (fs : List (Str × V)) (w : V), some dd = some d2 ∧ H d2 = some (.xd fs) ∧ fs.lookup f = some w ∧ R w := ⟨rfl, rfl, dd, _, v, rfl, h, by simp [List.lookup], q⟩
end
theorem Rz.of {K : PySem.W.Frag} {x f : Str} {v : V} {H H1 : Hp} {E : XK} (h : Rz K x f v H E) (e : Ex H H1) : Rz K x f v H1 E := fun H' d e' hd => h H' d (e.trans e') hd
end Z
namespace Z
open PySem PySem.Spec PyProof.Rows L2 Evl
theorem s_par {i j : Nat} {t : TA} {D : Ends} {σ : L2.St} {H : Hp} (h : t σ H fun vs H1 => ∃ x y, vs = [x, y] ∧ D.nx ((σ.set i (some x)).set j (some y)) H1) : tPar i j t D σ H := h
end Z

/-! ### an exception class of the package: `__init__(self, value)` says super().__init__(text), then self.value = value -/
namespace PySem
namespace Sxvalue
open PySem.W PySem.Calls PyProof.Rows PySem.HandSPX
def iA (p1 p2 : Pos) : Arguments := { posonlyargs := [], args := [{ arg := "self", annotation := none, pos := p1 }, { arg := "value", annotation := none, pos := p2 }], vararg := none, kwonlyargs := [], kw_defaults := [], kwarg := none, defaults := [] }
def iB (txt : Str) (q1 q2 q3 q4 q5 q6 r1 r2 r3 r4 : Pos) : List Stmt := [.Expr (.Call (.Attribute (.Call (.Name "super" q1) [] [] q2) "__init__" q3) [.Constant (.str txt) 0 q4] [] q5) q6, .Assign [.Attribute (.Name "self" r1) "value" r2] (.Name "value" r3) r4]
def iS : Scope := { kind := .function, names := [(PySem.Str.ofString "self", .local), (PySem.Str.ofString "value", .local), (PySem.Str.ofString "__class__", .free), (PySem.Str.ofString "super", .globalImplicit)], isGenerator := false, isCoroutine := false, more := [] }
/-- what the written part says of the class x at C, of its `__init__` at fI -/
structure Txt (P : Program) (K : Frag) (mg : Str → Option Value) (x : Str) (C fI : Addr) : Prop where
  gC : mg x = some (.ref C)
  noS : mg "super" = none
  cls : ∃ nm q N bs bm sn sub ab col dd k0 k1 k2 k3 k5, K.lookup C = some (excClassObj nm q C N bs bm true sn sub ab col dd k0 k1 k2 k3 k5 "ValueError.__new__") ∧ refsVE bm = true
  sa : findIn K (.ref C) "__setattr__" = some (some (.builtin "object.__setattr__"))
  noN : findIn K (.ref C) "value" = some none
  iC : findIn K (.ref C) "__init__" = some (some (.ref fI))
  tC : typeIn K (.ref fI) = some (.type "function")
  kC : keepIn K (.ref C) = true
  exC : subIn K (.ref C) (.type "BaseException") = some true
  veC : subIn K (.ref C) (.type "ValueError") = some true
  tyC : typeIn K (.ref C) = some (.type "type")
  mroC : mroIn K C (.ref C) = some true
  opq : nsIn K cStatics "thirdparty.any" = some none
  sup : ks_superIn K C C "__init__" = some (some (.builtin "ValueError.__init__"))
  top : (P.main.scope.names.lookup ("super" : Str)).isSome = false
  fn : ∃ (qu txt : Str) (oc : Value) (od : Option Addr) (doc pm : Value) (an : Option Addr) (cda : Addr) (ct : Value) (osl : Array (Option Value)) (cc : Addr) (p1 p2 q1 q2 q3 q4 q5 q6 r1 r2 r3 r4 : Pos),
    K.lookup fI = some ⟨oc, od, .func (ksFn "__init__" qu (iA p1 p2) (iB txt q1 q2 q3 q4 q5 q6 r1 r2 r3 r4) iS .none .none doc pm an (.ref cda) ct cc), osl⟩ ∧ codeIn K (.ref cda) qu = true ∧
    (∃ cl cld csl, K.lookup cc = some ⟨cl, cld, .cell (some (.ref C)), csl⟩) ∧ (∃ ccl cdd vs ccs file tf, K.lookup cda = some ⟨ccl, cdd, .fields vs, ccs⟩ ∧ vs[2]? = some (.str file tf) ∧ ((P.main.file : Str) == file) = true) ∧ (q3.endLine == q5.line) = true
theorem one_size (v : Value) : [v].length ≤ sizeLine := by
  rw [sizeLine_eq]
  exact (by decide : 1 ≤ 16777216)
theorem he_of {env : Env} {txt : Str} {q1 q2 q3 q4 q5 : Pos} (hl : (q3.endLine == q5.line) = true) :
    eval (.Call (.Attribute (.Call (.Name "super" q1) [] [] q2) "__init__" q3) [.Constant (.str txt) 0 q4] [] q5) env = (do
      let ov ← attributeBase (.Call (.Name "super" q1) [] [] q2) "__init__" env (eval (.Call (.Name "super" q1) [] [] q2) env)
      standAt q3.atName
      let (f, first) ← holding [ov] (getMethod ov "__init__" (do return (← importBound (.Call (.Name "super" q1) [] [] q2) env).getD true))
      callWith q5 f first (backTo q5 (starEach [.Constant (.str txt) 0 q4] env)) []) := by
  have hp : methodCallPos true (.Call (.Name "super" q1) [] [] q2) env q3 q5 = pure q5 := by
    unfold methodCallPos
    rw [if_pos (by rw [hl]; rfl)]
  show (do
      let ov ← attributeBase (.Call (.Name "super" q1) [] [] q2) "__init__" env (eval (.Call (.Name "super" q1) [] [] q2) env)
      standAt q3.atName
      let (f, first) ← holding [ov] (getMethod ov "__init__" (do return (← importBound (.Call (.Name "super" q1) [] [] q2) env).getD true))
      let p ← methodCallPos true (.Call (.Name "super" q1) [] [] q2) env q3 q5
      callWith p f first (backTo q5 (starEach [.Constant (.str txt) 0 q4] env)) []) = _
  rw [hp]
  rfl
structure InitEnd (h h' : Heap) (x C dx t1 : Addr) (v : Value) : Prop where
  keep : ∀ b o, b ≠ x → h.get? b = some o → h'.get? b = some o
  obj : h'.get? x = some { cls := .ref C, dict := some dx, data := .fields #[.ref t1, .none, .none, .none, .bool false, .none] }
  dbig : h.objs.size ≤ dx
  dne : dx ≠ x
  ns : h'.Ns1 dx (fun y => if y = "value" then some v else none)
structure OwnMade (h h' : Heap) (e C d : Addr) (v : Value) : Prop where
  keep : ∀ b o, h.get? b = some o → h'.get? b = some o
  new : h.objs.size ≤ e
  obj : ∃ oe vs, h'.get? e = some oe ∧ oe.cls = .ref C ∧ oe.dict = some d ∧ oe.data = .fields vs ∧ vs[1]? = some .none
  dbig : h.objs.size ≤ d
  dne : d ≠ e
  ns : h'.Ns1 d (fun y => if y = "value" then some v else none)
section
variable {prog : Program} {w : World} {A : Around} {E : Value → Shared → Prop} {R : Result → Shared → Prop} {s : Shared} {K : Frag} {mg mb : Str → Option Value} {C fI : Addr} {n : Str}
theorem init (T : Txt prog K mg n C fI) {x t0 : Addr} {v : Value} (X : K.In s.heap) (hG : s.heap.Ns mainGlobals mg) (hB : s.heap.Ns builtinsNs mb) (hb : mb "super" = some (.type "super")) (hlim : s.heap.NoLimit) (hx : s.heap.get? x = some (excO C t0)) (hnx : K.lookup x = none) (hroom : A.depth < recursionLimit)
    (hq : ∀ h' tk t1 dx, InitEnd s.heap h' x C dx t1 v → R (.ok (.ret .none)) { s with heap := h', toks := tk }) :
    codeAny (model prog w) A (.call (.ref fI) ⟨[.ref x, v], []⟩) R s := by
  obtain ⟨qu, txt, oc, od, doc, pm, an, cda, ct, osl, cc, p1, p2, q1, q2, q3, q4, q5, q6, r1, r2, r3, r4, ho, hcd, ⟨cl, cld, csl, hcell⟩, ⟨ccl, cdd, vs, ccs, file, tf, hcode, hvs, hfile⟩, hline⟩ := T.fn
  obtain ⟨nm, q, N, bs, bm, sn, sub, ab, col, dd, k0, k1, k2, k3, k5, hC, hbm⟩ := T.cls
  have hcl : clsIn K C = some { name := nm, bases := bs, mro := .ref C :: bm, ns := N, qualname := q, hasDict := true, slotNames := sn, subclasses := sub, abstract := ab, collection := col, hasDel := false } := by unfold clsIn; rw [hC] <;> rfl
  have hsup := T.sup
  have hxC : x ≠ C := fun z => by
    have y := X _ _ hC
    rw [← z, hx] at y
    cases y
  refine ks_codeAny_call_defAt (fd := ksFn "__init__" qu (iA p1 p2) (iB txt q1 q2 q3 q4 q5 q6 r1 r2 r3 r4) iS .none .none doc pm an (.ref cda) ct cc) (body := iB txt q1 q2 q3 q4 q5 q6 r1 r2 r3 r4) (binds := [("self", .ref x), ("value", v)]) hroom (X _ _ ho) rfl hlim (codeRec_of X hcd) rfl
    (BindsTo.of_eq (by first | rfl | with_unfolding_all rfl)) (by show ∀ x ∈ iS.names, x.2 ≠ NameKind.cell; decide) (by exact locs rfl) (fun h₁ hns k₁ => ?_) rfl rfl rfl
  have hxL : s.heap.objs.size ≠ x := Nat.ne_of_gt (Heap.lt_size hx)
  have X₁ : K.In h₁ := X.keeps k₁
  have hx₁ := k₁ _ _ hx
  have hG₁ := hG.keeps k₁
  have hB₁ := hB.keeps k₁
  -- super().__init__(text)
  show wpAt _ _ _ (execs (iB txt q1 q2 q3 q4 q5 q6 r1 r2 r3 r4) (ksEnv qu iS s.heap.objs.size fI (.ref cda) cc)) _ _ _
  refine ks_wpAt_execs_cons (ks_wpAt_Expr_any (ks_wpAt_MethodCall ?_ (he_of hline)))
  refine ks_wpAt_super_base (env := ksEnv qu iS s.heap.objs.size fI (.ref cda) cc) (ar := { arg := "self", annotation := none, pos := p1 }) rfl rfl (by decide) rfl (X₁ _ _ ho) rfl rfl rfl (X₁ _ _ hcode) rfl hvs hfile T.top ?_
  refine ks_loadName_global rfl rfl (loadGlobal_builtin (env := ksEnv qu iS s.heap.objs.size fI (.ref cda) cc) hG₁ T.noS hB₁ hb ⟨rfl, ?_⟩)
  refine wpAny_loadName_free rfl rfl rfl ⟨_, X₁ _ _ hcell, rfl⟩ ?_
  refine wpAny_loadName_local (v := .ref x) rfl rfl hns (by first | rfl | with_unfolding_all rfl) ?_
  refine ks_wpAny_isType_cls (X₁ _ _ hC) rfl ⟨rfl, ?_⟩
  refine ks_wpAny_call_super (X₁ _ _ hC) rfl hx₁ rfl (fun c e => by cases e) (looks_mroIn X₁ T.mroC) (fun h₂ hso k₂ => ?_)
  have X₂ : K.In h₂ := X₁.keeps k₂
  have I₂ : PySem.W.InstAt h₂ x (excO C t0) C none := ⟨k₂ _ _ hx₁, rfl, rfl, trivial⟩
  have hI : Looks (model prog w) h₂ (isInstance (.ref x) (.type "ValueError")) true := I₂.type.andThen (looks_subIn X₂ T.veC)
  unfold ks_superIn at hsup
  rw [hcl] at hsup
  refine kxs_getMethod kxs_ValueError hso (looks_opaque X₂ T.opq) (l₀ := .ref C :: bm) (fun A Q E s k q => wpAny_bind ((looks_clsIn X₂ hcl) A _ E s k (wpAny_pure q))) rfl X₂ hsup hI hxC (by decide) ?_
  have up₃ : ∀ b o, h₂.get? b = some o → (h₂.push (kxs_mw "ValueError.__init__" x)).get? b = some o := fun b o e => Heap.get?_push_of_some _ e
  have hu : (h₂.push (kxs_mw "ValueError.__init__" x)).get? h₂.objs.size = some (kxs_mw "ValueError.__init__" x) := Heap.get?_push_at rfl rfl
  refine kxs_callWith (i := "ValueError.__init__") (x := x) (by rfl) ?_
  refine evalArgs_plain (spliced_cons (wpAny_Constant_str (k := 0) (pos := q4) (spliced_nil ?_)))
  refine ⟨hu, ?_⟩
  refine wpAny_call (codeAny_of_tree ?_)
  show wpAny _ _ (callAny (.ref h₂.objs.size) ⟨[.str txt _], []⟩) _ _ _
  simp only [callAny]
  refine wpAny_bind (wpAny_load hu ?_)
  simp only [kxs_mw, show (Value.type "method-wrapper" == Value.type "method" || Value.type "method-wrapper" == Value.type "builtin_function_or_method" || Value.type "method-wrapper" == Value.type "method-wrapper") = true by decide, if_true]
  refine KFB.if_so (by decide) ?_
  have hC₃ := up₃ _ _ (X₂ _ _ hC)
  have hx₃ := up₃ _ _ I₂.at_
  refine wpAny_bind (check_bound_init F.excBase_ValueError.toExcCallFacts hC₃ hx₃ rfl ?_)
  refine wpAny_bind (wpAny_pure (wpAny_pure ?_))
  refine ⟨plainId_quiet F.excBase_ValueError.init.plain _, codeAny_builtin F.excBase_ValueError.initEntry ?_⟩
  refine exc_init_tree (cls := .ref C) (t0 := t0) (dv := none) (c2 := .none) (c3 := .none) (b4 := .bool false) hx₃ (one_size _) fun h₄ k₄ hx₄ ht₄ => ?_
  have k14 : ∀ b o, b ≠ x → h₁.get? b = some o → h₄.get? b = some o := fun b o hb e => k₄ b o hb (up₃ _ _ (k₂ _ _ e))
  have k04 : ∀ b o, b ≠ x → s.heap.get? b = some o → h₄.get? b = some o := fun b o hb e => k14 b o hb (k₁ _ _ e)
  have X₄ : K.In h₄ := fun a o e => k04 a o (fun z => by rw [z, hnx] at e; cases e) (X _ _ e)
  have hns₄ : h₄.Ns s.heap.objs.size (fun y => (([("self", .ref x), ("value", v)] : List (Str × Value)).reverse.lookup y)) := by
    obtain ⟨oL, es, ep, hL, r⟩ := hns
    exact ⟨oL, es, ep, k14 _ _ hxL hL, r⟩
  have sz : s.heap.objs.size < h₁.objs.size := hns.lt
  -- self.value = value
  show wpAt _ _ _ _ _ _ _
  refine wpAt_of_wpAny ?_
  refine wpAny_execs_cons (plainObj_wpAny_Assign_Attribute ?_)
  refine ESX.ldL (env := ksEnv qu iS s.heap.objs.size fI (.ref cda) cc) (v := v) hns₄ (by first | rfl | with_unfolding_all rfl | kernel_rfl) (ESX.ldL (env := ksEnv qu iS s.heap.objs.size fI (.ref cda) cc) (v := .ref x) hns₄ (by first | rfl | with_unfolding_all rfl | kernel_rfl) ?_)
  refine set_plain X₄ (ox := excO C (h₂.push (kxs_mw "ValueError.__init__" x)).objs.size) (od := none) ⟨hx₄, rfl, rfl, trivial⟩ T.sa ?_
  refine exc_osa X₄ hx₄ hcl (show refsVE (.ref C :: bm) = true from hbm) rfl T.noN (fun h₅ tk₅ dx k₅ dn dne hx₅ hn₅ => ?_)
  have le4 : h₁.objs.size ≤ h₄.objs.size := by
    have a1 := Heap.lt_size hso
    have a2 := Heap.lt_size ht₄
    have a3 := Heap.lt_size hu
    exact Nat.le_of_lt (Nat.lt_trans a1 (Nat.lt_trans a3 a2))
  exact wpAny_execs_nil (hq h₅ tk₅ _ dx ⟨fun b o hb e => k₅ b o hb (k04 b o hb e), hx₅, Nat.le_of_lt (Nat.lt_of_lt_of_le sz (Nat.le_trans le4 dn)), dne, hn₅⟩)
theorem made (T : Txt prog K mg n C fI) {v : Value} (X : K.In s.heap) (hG : s.heap.Ns mainGlobals mg) (hB : s.heap.Ns builtinsNs mb) (hb : mb "super" = some (.type "super")) (hlim : s.heap.NoLimit) (hroom : A.depth + 1 < recursionLimit)
    (hq : ∀ h' tk e d, OwnMade s.heap h' e C d v → R (.ok (.ret (.ref e))) { s with heap := h', toks := tk }) :
    codeAny (model prog w) A (.call (.ref C) ⟨[v], []⟩) R s := by
  obtain ⟨nm, q, N, bs, bm, sn, sub, ab, col, dd, k0, k1, k2, k3, k5, hC, hbm⟩ := T.cls
  obtain ⟨hp, g, dr, tk, os⟩ := s
  have k : ∀ b o, hp.get? b = some o → ((hp.push (kdv_tup [v])).push (excO C hp.objs.size)).get? b = some o := fun b o e => Heap.get?_push_of_some _ (Heap.get?_push_of_some _ e)
  have hget : ((hp.push (kdv_tup [v])).push (excO C hp.objs.size)).get? (hp.objs.size + 1) = some (excO C hp.objs.size) := by heap_get
  have hnx : K.lookup (hp.objs.size + 1) = none := by
    cases e : K.lookup (hp.objs.size + 1) with
    | none => rfl
    | some o =>
      have z : hp.get? (hp.objs.size + 1) = some o := X _ _ e
      exact absurd (Nat.lt_of_succ_lt (Heap.lt_size z)) (Nat.lt_irrefl _)
  refine call_own F.excBase_ValueError (fun X => refsVE_contains X bm hbm) (X _ _ hC) (looks_findIn X T.iC) (fun self => bind_fn X self T.tC) (one_size v) ?_
  refine init (s := ⟨(hp.push (kdv_tup [v])).push (excO C hp.objs.size), g, dr, tk, os⟩) T (X.keeps k) (hG.keeps k) (hB.keeps k) hb (hlim.keeps k) hget hnx ?_ fun h' tk' t1 dx ⟨k', hx, dn, dne, hns⟩ => ?_
  · show A.depth + 1 < recursionLimit
    exact hroom
  · have old : ∀ b o, hp.get? b = some o → h'.get? b = some o := fun b o e => k' b o (Nat.ne_of_lt (Nat.lt_succ_of_lt (Heap.lt_size e))) (k b o e)
    have z : hp.objs.size + 1 + 1 ≤ dx := by
      first
        | (simpa only [Heap.size_push] using dn)
        | exact dn
        | (have q := dn; rw [Heap.size_push, Heap.size_push] at q; exact q)
    exact ⟨rfl, hq h' tk' (hp.objs.size + 1) dx ⟨old, Nat.le_succ _, ⟨_, _, hx, rfl, rfl, rfl, rfl⟩, Nat.le_trans (Nat.le_trans (Nat.le_succ _) (Nat.le_succ _)) z, dne, hns⟩⟩
end
end Sxvalue
end PySem
namespace L2
open PySem PySem.Spec PyProof.Rows
theorem relO_value {v : V} {v' : Value} (r : RelV v v') (f : Str) : RelO (List.lookup f [(("value" : Str), v)]) (if f = "value" then some v' else none) := by
  by_cases hw : f = "value"
  · subst hw
    rw [if_pos rfl]
    have q : List.lookup ("value" : Str) [(("value" : Str), v)] = some v := by simp [List.lookup]
    rw [q]
    exact r
  · rw [if_neg hw]
    have qw : (f == ("value" : Str)) = false := by simpa using hw
    have q2 : List.lookup f [(("value" : Str), v)] = none := by simp [List.lookup, qw]
    rw [q2]
    trivial
section
variable {X : Cx} {C fI : Addr}
/-- x(e) : an exception of the class at C, its dict d new -/
def tMkvalue (C : Addr) (ta : TA) : St → Hp → XK → Prop := fun σ H Q => ta σ H fun vs H1 => ∃ v, vs = [v] ∧ ∀ d, H1 d = none → Q (.ref C) (some d) (upd H1 d (.xd [(("value" : Str), v)]))
theorem pmkvalue {x : Str} {a : Expr} {ta : TA} {p pos : Pos} {k : Nat} (T : PySem.Sxvalue.Txt X.prog X.K X.mg x C fI) (hr : Room k X.A) (ha : PA X [a] ta) (hg : Gl X x := by rfl) (hdb : (x == ("__debug__" : Str)) = false := by decide)
    (he : starEach (a :: []) X.env = (false, eval a X.env) :: starEach [] X.env := by rfl) (hpl : (backTo pos (starEach [] X.env)).any (·.1) = false := by rfl) :
    PMk X (.Call (.Name x p) [a] [] pos) (tMkvalue C ta) := by
  intro pins s σ H Q I h
  refine wpAny_Call_Name_kw (ld_glob I hg T.gC ?_ hdb)
  refine PySem.W.callWith_K (h₀ := X.base) I.ok.mod.kin T.kC (thn (ha.run pos pins s σ H _ I h) fun us s1 hh => ?_) he hpl
  obtain ⟨vs, H1, I1, r1, v, ev, q1⟩ := hh
  subst ev
  refine ⟨I1.kIn, ?_⟩
  cases r1 with
  | cons rv rn =>
    rename_i v' us'
    cases rn
    show wpAny _ _ (call (.ref C) [v']) _ _ _
    have hlim := I1.nolimit
    obtain ⟨mb, b1, b2⟩ := I1.mod.blt
    have hG1 := I1.mod.glob.keeps I1.bk
    have hB1 := b1.keeps I1.bk
    obtain ⟨hp, g, dr, tk, os⟩ := s1
    refine wpAny_call (PySem.Sxvalue.made T I1.kIn hG1 hB1 ((b2 _ (by decide)).trans (by first | boot_by_name | rfl | kernel_rfl)) hlim (by have := hr.dp; omega) fun h' tk' e d M => ?_)
    show MkP X pins σ Q (.ref e) ⟨h', g, dr, tk', os⟩
    obtain ⟨oe, fv, hoe, hc, hd, hdat, h1⟩ := M.obj
    have hns := M.ns
    obtain ⟨G', g1, g2⟩ := restrict h' fun b => decide (b ≠ e)
    have gk : ∀ b, b ≠ e → G'.get? b = h'.get? b := fun b hb => g1 b (decide_eq_true hb)
    have ge : G'.get? e = none := g2 e (by simp)
    have old : ∀ b o, hp.get? b = some o → G'.get? b = some o := fun b o q => (gk b (Nat.ne_of_lt (Nat.lt_of_lt_of_le (Heap.lt_size q) M.new))).trans (M.keep b o q)
    have ob : ObjOk X.prog X.w (upd H1 d (.xd [(("value" : Str), v)])) G' d (.xd [(("value" : Str), v)]) :=
      ⟨_, hns.at (fun o q => (gk d M.dne).trans q), fun f => relO_value rv f⟩
    have J : Inv X pins σ (upd H1 d (.xd [(("value" : Str), v)])) ⟨G', g, dr, tk', os⟩ := I1.laid (t' := tk') old M.dbig ob
    refine ⟨e, oe, fv, ⟨G', g, dr, tk', os⟩, _, .ref C, some d, rfl, J, fun b o q => ?_, ge, hoe, ⟨hc, hd⟩, hdat, h1, ?_, rfl, I1.bare, raises_own T.exC T.tyC, q1 d (I1.hok.fresh M.dbig)⟩
    · by_cases hb : b = e
      · have q' : G'.get? b = some o := q
        rw [hb, ge] at q'; cases q'
      · exact (gk b hb).symm.trans q
    · rw [upd_ne (Ne.symm M.dne)]
      exact I1.hok.fresh M.new
/-- raise x(e) -/
def tRaisevalue (C : Addr) (W : WX) (ta : TA) : TS := fun _ σ H => tMkvalue C ta σ H fun cls d H' => W cls d σ H'
theorem ps_raisevalue {x : Str} {a : Expr} {ta : TA} {W : WX} {p pos pos2 : Pos} {k : Nat} (hc : X.calm = true) (T : PySem.Sxvalue.Txt X.prog X.K X.mg x C fI) (hr : Room k X.A) (tk : Takes X W) (ha : PA X [a] ta) (hg : Gl X x := by rfl) (hdb : (x == ("__debug__" : Str)) = false := by decide)
    (he : starEach (a :: []) X.env = (false, eval a X.env) :: starEach [] X.env := by rfl) (hpl : (backTo pos (starEach [] X.env)).any (·.1) = false := by rfl) :
    PS X (.Raise (some (.Call (.Name x p) [a] [] pos)) none pos2) (tRaisevalue C W ta) := ps_raise hc tk (pmkvalue T hr ha hg hdb he hpl)
end
end L2

namespace Z
open PySem PySem.Spec PyProof.Rows L2
/-- the init's params, body as the text has them -/
def Chkvalue (P0 : Program) (K : PySem.W.Frag) (x : Str) : Bool :=
  eqB (PySem.W.findIn K (.ref (He.ga K x)) "__setattr__") (some (some (.builtin "object.__setattr__"))) && (eqB (PySem.W.findIn K (.ref (He.ga K x)) "value") (some none) && (clsB K (He.ga K x) && initB P0 K x))
theorem chkvalue_ok {P P0 : Program} {K : PySem.W.Frag} {mg : Str → Option Value} {x : Str} {qu txt : Str} {p1 p2 q1 q2 q3 q4 q5 q6 r1 r2 r3 r4 : Pos} (g : mg x = some (.ref (He.ga K x))) (ns : mg "super" = none)
    (hf : P.main.file = P0.main.file) (hs : (P.main.scope.names.lookup ("super" : Str)).isSome = false)
    (e : fnS K (x, some "__init__") = (some ("__init__", qu, PySem.Sxvalue.iA p1 p2, FuncBody.stmts (PySem.Sxvalue.iB txt q1 q2 q3 q4 q5 q6 r1 r2 r3 r4), PySem.Sxvalue.iS, mainGlobals, [("__class__" : Str)], builtinsNs) : FnS)) (hl : (q3.endLine == q5.line) = true)
    (c : Chkvalue P0 K x = true) : PySem.Sxvalue.Txt P K mg x (He.ga K x) (He.ma K (He.ga K x) "__init__") := by
  obtain ⟨c1, c⟩ := He.ba c
  obtain ⟨c2, c⟩ := He.ba c
  obtain ⟨c3, c4⟩ := He.ba c
  obtain ⟨d1, d2, d3, d4, d5, d6, d7⟩ := initB_ok c4
  obtain ⟨oc, od, osl, doc, pm, an, cda, ct, cc, hL, hq, hcell, hcode⟩ := d7 _ _ _ _ _ e
  obtain ⟨k1, k2, k3, k4, k5, k6, k7⟩ := d6
  exact ⟨g, ns, clsB_ok c3, eqB_ok c1, eqB_ok c2, d1, d2, k1, k2, k3, k4, k5, k6, k7, hs,
    ⟨qu, txt, oc, od, doc, pm, an, cda, ct, osl, cc, p1, p2, q1, q2, q3, q4, q5, q6, r1, r2, r3, r4, hL, hq, hcell, (by rw [hf]; exact hcode), hl⟩⟩
end Z
namespace Z
open PySem PySem.Spec PyProof.Rows L2 Evl
theorem s_raisevalue {C : Addr} {W : WX} {ta : TA} {D : Ends} {σ : L2.St} {H : Hp} (h : ta σ H fun vs H1 => ∃ v, vs = [v] ∧ ∀ d, H1 d = none → W (.ref C) (some d) σ (upd H1 d (.xd [(("value" : Str), v)]))) : tRaisevalue C W ta D σ H := h
theorem rzvalue {K : PySem.W.Frag} {x : Str} {v : V} {H0 H : Hp} {E : XK} (r : Rz K x "value" v H0 E) (e : Ex H0 H) : ∃ v', [v] = [v'] ∧ ∀ d, H d = none → E (.ref (He.ga K x)) (some d) (upd H d (.xd [(("value" : Str), v')])) :=
  ⟨v, rfl, fun d hd => r _ d (e.trans (Ex.new hd)) upd_same⟩
end Z

/-! ### an exception class of the package: `__init__(self, name)` says super().__init__(text), then self.name = name -/
namespace PySem
namespace Sxname
open PySem.W PySem.Calls PyProof.Rows PySem.HandSPX
def iA (p1 p2 : Pos) : Arguments := { posonlyargs := [], args := [{ arg := "self", annotation := none, pos := p1 }, { arg := "name", annotation := none, pos := p2 }], vararg := none, kwonlyargs := [], kw_defaults := [], kwarg := none, defaults := [] }
def iB (txt : Str) (q1 q2 q3 q4 q5 q6 r1 r2 r3 r4 : Pos) : List Stmt := [.Expr (.Call (.Attribute (.Call (.Name "super" q1) [] [] q2) "__init__" q3) [.Constant (.str txt) 0 q4] [] q5) q6, .Assign [.Attribute (.Name "self" r1) "name" r2] (.Name "name" r3) r4]
def iS : Scope := { kind := .function, names := [(PySem.Str.ofString "self", .local), (PySem.Str.ofString "name", .local), (PySem.Str.ofString "__class__", .free), (PySem.Str.ofString "super", .globalImplicit)], isGenerator := false, isCoroutine := false, more := [] }
/-- what the written part says of the class x at C, of its `__init__` at fI -/
structure Txt (P : Program) (K : Frag) (mg : Str → Option Value) (x : Str) (C fI : Addr) : Prop where
  gC : mg x = some (.ref C)
  noS : mg "super" = none
  cls : ∃ nm q N bs bm sn sub ab col dd k0 k1 k2 k3 k5, K.lookup C = some (excClassObj nm q C N bs bm true sn sub ab col dd k0 k1 k2 k3 k5 "ValueError.__new__") ∧ refsVE bm = true
  sa : findIn K (.ref C) "__setattr__" = some (some (.builtin "object.__setattr__"))
  noN : findIn K (.ref C) "name" = some none
  iC : findIn K (.ref C) "__init__" = some (some (.ref fI))
  tC : typeIn K (.ref fI) = some (.type "function")
  kC : keepIn K (.ref C) = true
  exC : subIn K (.ref C) (.type "BaseException") = some true
  veC : subIn K (.ref C) (.type "ValueError") = some true
  tyC : typeIn K (.ref C) = some (.type "type")
  mroC : mroIn K C (.ref C) = some true
  opq : nsIn K cStatics "thirdparty.any" = some none
  sup : ks_superIn K C C "__init__" = some (some (.builtin "ValueError.__init__"))
  top : (P.main.scope.names.lookup ("super" : Str)).isSome = false
  fn : ∃ (qu txt : Str) (oc : Value) (od : Option Addr) (doc pm : Value) (an : Option Addr) (cda : Addr) (ct : Value) (osl : Array (Option Value)) (cc : Addr) (p1 p2 q1 q2 q3 q4 q5 q6 r1 r2 r3 r4 : Pos),
    K.lookup fI = some ⟨oc, od, .func (ksFn "__init__" qu (iA p1 p2) (iB txt q1 q2 q3 q4 q5 q6 r1 r2 r3 r4) iS .none .none doc pm an (.ref cda) ct cc), osl⟩ ∧ codeIn K (.ref cda) qu = true ∧
    (∃ cl cld csl, K.lookup cc = some ⟨cl, cld, .cell (some (.ref C)), csl⟩) ∧ (∃ ccl cdd vs ccs file tf, K.lookup cda = some ⟨ccl, cdd, .fields vs, ccs⟩ ∧ vs[2]? = some (.str file tf) ∧ ((P.main.file : Str) == file) = true) ∧ (q3.endLine == q5.line) = true
theorem one_size (v : Value) : [v].length ≤ sizeLine := by
  rw [sizeLine_eq]
  exact (by decide : 1 ≤ 16777216)
theorem he_of {env : Env} {txt : Str} {q1 q2 q3 q4 q5 : Pos} (hl : (q3.endLine == q5.line) = true) :
    eval (.Call (.Attribute (.Call (.Name "super" q1) [] [] q2) "__init__" q3) [.Constant (.str txt) 0 q4] [] q5) env = (do
      let ov ← attributeBase (.Call (.Name "super" q1) [] [] q2) "__init__" env (eval (.Call (.Name "super" q1) [] [] q2) env)
      standAt q3.atName
      let (f, first) ← holding [ov] (getMethod ov "__init__" (do return (← importBound (.Call (.Name "super" q1) [] [] q2) env).getD true))
      callWith q5 f first (backTo q5 (starEach [.Constant (.str txt) 0 q4] env)) []) := by
  have hp : methodCallPos true (.Call (.Name "super" q1) [] [] q2) env q3 q5 = pure q5 := by
    unfold methodCallPos
    rw [if_pos (by rw [hl]; rfl)]
  show (do
      let ov ← attributeBase (.Call (.Name "super" q1) [] [] q2) "__init__" env (eval (.Call (.Name "super" q1) [] [] q2) env)
      standAt q3.atName
      let (f, first) ← holding [ov] (getMethod ov "__init__" (do return (← importBound (.Call (.Name "super" q1) [] [] q2) env).getD true))
      let p ← methodCallPos true (.Call (.Name "super" q1) [] [] q2) env q3 q5
      callWith p f first (backTo q5 (starEach [.Constant (.str txt) 0 q4] env)) []) = _
  rw [hp]
  rfl
structure InitEnd (h h' : Heap) (x C dx t1 : Addr) (v : Value) : Prop where
  keep : ∀ b o, b ≠ x → h.get? b = some o → h'.get? b = some o
  obj : h'.get? x = some { cls := .ref C, dict := some dx, data := .fields #[.ref t1, .none, .none, .none, .bool false, .none] }
  dbig : h.objs.size ≤ dx
  dne : dx ≠ x
  ns : h'.Ns1 dx (fun y => if y = "name" then some v else none)
structure OwnMade (h h' : Heap) (e C d : Addr) (v : Value) : Prop where
  keep : ∀ b o, h.get? b = some o → h'.get? b = some o
  new : h.objs.size ≤ e
  obj : ∃ oe vs, h'.get? e = some oe ∧ oe.cls = .ref C ∧ oe.dict = some d ∧ oe.data = .fields vs ∧ vs[1]? = some .none
  dbig : h.objs.size ≤ d
  dne : d ≠ e
  ns : h'.Ns1 d (fun y => if y = "name" then some v else none)
section
variable {prog : Program} {w : World} {A : Around} {E : Value → Shared → Prop} {R : Result → Shared → Prop} {s : Shared} {K : Frag} {mg mb : Str → Option Value} {C fI : Addr} {n : Str}
theorem init (T : Txt prog K mg n C fI) {x t0 : Addr} {v : Value} (X : K.In s.heap) (hG : s.heap.Ns mainGlobals mg) (hB : s.heap.Ns builtinsNs mb) (hb : mb "super" = some (.type "super")) (hlim : s.heap.NoLimit) (hx : s.heap.get? x = some (excO C t0)) (hnx : K.lookup x = none) (hroom : A.depth < recursionLimit)
    (hq : ∀ h' tk t1 dx, InitEnd s.heap h' x C dx t1 v → R (.ok (.ret .none)) { s with heap := h', toks := tk }) :
    codeAny (model prog w) A (.call (.ref fI) ⟨[.ref x, v], []⟩) R s := by
  obtain ⟨qu, txt, oc, od, doc, pm, an, cda, ct, osl, cc, p1, p2, q1, q2, q3, q4, q5, q6, r1, r2, r3, r4, ho, hcd, ⟨cl, cld, csl, hcell⟩, ⟨ccl, cdd, vs, ccs, file, tf, hcode, hvs, hfile⟩, hline⟩ := T.fn
  obtain ⟨nm, q, N, bs, bm, sn, sub, ab, col, dd, k0, k1, k2, k3, k5, hC, hbm⟩ := T.cls
  have hcl : clsIn K C = some { name := nm, bases := bs, mro := .ref C :: bm, ns := N, qualname := q, hasDict := true, slotNames := sn, subclasses := sub, abstract := ab, collection := col, hasDel := false } := by unfold clsIn; rw [hC] <;> rfl
  have hsup := T.sup
  have hxC : x ≠ C := fun z => by
    have y := X _ _ hC
    rw [← z, hx] at y
    cases y
  refine ks_codeAny_call_defAt (fd := ksFn "__init__" qu (iA p1 p2) (iB txt q1 q2 q3 q4 q5 q6 r1 r2 r3 r4) iS .none .none doc pm an (.ref cda) ct cc) (body := iB txt q1 q2 q3 q4 q5 q6 r1 r2 r3 r4) (binds := [("self", .ref x), ("name", v)]) hroom (X _ _ ho) rfl hlim (codeRec_of X hcd) rfl
    (BindsTo.of_eq (by first | rfl | with_unfolding_all rfl)) (by show ∀ x ∈ iS.names, x.2 ≠ NameKind.cell; decide) (by exact locs rfl) (fun h₁ hns k₁ => ?_) rfl rfl rfl
  have hxL : s.heap.objs.size ≠ x := Nat.ne_of_gt (Heap.lt_size hx)
  have X₁ : K.In h₁ := X.keeps k₁
  have hx₁ := k₁ _ _ hx
  have hG₁ := hG.keeps k₁
  have hB₁ := hB.keeps k₁
  -- super().__init__(text)
  show wpAt _ _ _ (execs (iB txt q1 q2 q3 q4 q5 q6 r1 r2 r3 r4) (ksEnv qu iS s.heap.objs.size fI (.ref cda) cc)) _ _ _
  refine ks_wpAt_execs_cons (ks_wpAt_Expr_any (ks_wpAt_MethodCall ?_ (he_of hline)))
  refine ks_wpAt_super_base (env := ksEnv qu iS s.heap.objs.size fI (.ref cda) cc) (ar := { arg := "self", annotation := none, pos := p1 }) rfl rfl (by decide) rfl (X₁ _ _ ho) rfl rfl rfl (X₁ _ _ hcode) rfl hvs hfile T.top ?_
  refine ks_loadName_global rfl rfl (loadGlobal_builtin (env := ksEnv qu iS s.heap.objs.size fI (.ref cda) cc) hG₁ T.noS hB₁ hb ⟨rfl, ?_⟩)
  refine wpAny_loadName_free rfl rfl rfl ⟨_, X₁ _ _ hcell, rfl⟩ ?_
  refine wpAny_loadName_local (v := .ref x) rfl rfl hns (by first | rfl | with_unfolding_all rfl) ?_
  refine ks_wpAny_isType_cls (X₁ _ _ hC) rfl ⟨rfl, ?_⟩
  refine ks_wpAny_call_super (X₁ _ _ hC) rfl hx₁ rfl (fun c e => by cases e) (looks_mroIn X₁ T.mroC) (fun h₂ hso k₂ => ?_)
  have X₂ : K.In h₂ := X₁.keeps k₂
  have I₂ : PySem.W.InstAt h₂ x (excO C t0) C none := ⟨k₂ _ _ hx₁, rfl, rfl, trivial⟩
  have hI : Looks (model prog w) h₂ (isInstance (.ref x) (.type "ValueError")) true := I₂.type.andThen (looks_subIn X₂ T.veC)
  unfold ks_superIn at hsup
  rw [hcl] at hsup
  refine kxs_getMethod kxs_ValueError hso (looks_opaque X₂ T.opq) (l₀ := .ref C :: bm) (fun A Q E s k q => wpAny_bind ((looks_clsIn X₂ hcl) A _ E s k (wpAny_pure q))) rfl X₂ hsup hI hxC (by decide) ?_
  have up₃ : ∀ b o, h₂.get? b = some o → (h₂.push (kxs_mw "ValueError.__init__" x)).get? b = some o := fun b o e => Heap.get?_push_of_some _ e
  have hu : (h₂.push (kxs_mw "ValueError.__init__" x)).get? h₂.objs.size = some (kxs_mw "ValueError.__init__" x) := Heap.get?_push_at rfl rfl
  refine kxs_callWith (i := "ValueError.__init__") (x := x) (by rfl) ?_
  refine evalArgs_plain (spliced_cons (wpAny_Constant_str (k := 0) (pos := q4) (spliced_nil ?_)))
  refine ⟨hu, ?_⟩
  refine wpAny_call (codeAny_of_tree ?_)
  show wpAny _ _ (callAny (.ref h₂.objs.size) ⟨[.str txt _], []⟩) _ _ _
  simp only [callAny]
  refine wpAny_bind (wpAny_load hu ?_)
  simp only [kxs_mw, show (Value.type "method-wrapper" == Value.type "method" || Value.type "method-wrapper" == Value.type "builtin_function_or_method" || Value.type "method-wrapper" == Value.type "method-wrapper") = true by decide, if_true]
  refine KFB.if_so (by decide) ?_
  have hC₃ := up₃ _ _ (X₂ _ _ hC)
  have hx₃ := up₃ _ _ I₂.at_
  refine wpAny_bind (check_bound_init F.excBase_ValueError.toExcCallFacts hC₃ hx₃ rfl ?_)
  refine wpAny_bind (wpAny_pure (wpAny_pure ?_))
  refine ⟨plainId_quiet F.excBase_ValueError.init.plain _, codeAny_builtin F.excBase_ValueError.initEntry ?_⟩
  refine exc_init_tree (cls := .ref C) (t0 := t0) (dv := none) (c2 := .none) (c3 := .none) (b4 := .bool false) hx₃ (one_size _) fun h₄ k₄ hx₄ ht₄ => ?_
  have k14 : ∀ b o, b ≠ x → h₁.get? b = some o → h₄.get? b = some o := fun b o hb e => k₄ b o hb (up₃ _ _ (k₂ _ _ e))
  have k04 : ∀ b o, b ≠ x → s.heap.get? b = some o → h₄.get? b = some o := fun b o hb e => k14 b o hb (k₁ _ _ e)
  have X₄ : K.In h₄ := fun a o e => k04 a o (fun z => by rw [z, hnx] at e; cases e) (X _ _ e)
  have hns₄ : h₄.Ns s.heap.objs.size (fun y => (([("self", .ref x), ("name", v)] : List (Str × Value)).reverse.lookup y)) := by
    obtain ⟨oL, es, ep, hL, r⟩ := hns
    exact ⟨oL, es, ep, k14 _ _ hxL hL, r⟩
  have sz : s.heap.objs.size < h₁.objs.size := hns.lt
  -- self.name = name
  show wpAt _ _ _ _ _ _ _
  refine wpAt_of_wpAny ?_
  refine wpAny_execs_cons (plainObj_wpAny_Assign_Attribute ?_)
  refine ESX.ldL (env := ksEnv qu iS s.heap.objs.size fI (.ref cda) cc) (v := v) hns₄ (by first | rfl | with_unfolding_all rfl | kernel_rfl) (ESX.ldL (env := ksEnv qu iS s.heap.objs.size fI (.ref cda) cc) (v := .ref x) hns₄ (by first | rfl | with_unfolding_all rfl | kernel_rfl) ?_)
  refine set_plain X₄ (ox := excO C (h₂.push (kxs_mw "ValueError.__init__" x)).objs.size) (od := none) ⟨hx₄, rfl, rfl, trivial⟩ T.sa ?_
  refine exc_osa X₄ hx₄ hcl (show refsVE (.ref C :: bm) = true from hbm) rfl T.noN (fun h₅ tk₅ dx k₅ dn dne hx₅ hn₅ => ?_)
  have le4 : h₁.objs.size ≤ h₄.objs.size := by
    have a1 := Heap.lt_size hso
    have a2 := Heap.lt_size ht₄
    have a3 := Heap.lt_size hu
    exact Nat.le_of_lt (Nat.lt_trans a1 (Nat.lt_trans a3 a2))
  exact wpAny_execs_nil (hq h₅ tk₅ _ dx ⟨fun b o hb e => k₅ b o hb (k04 b o hb e), hx₅, Nat.le_of_lt (Nat.lt_of_lt_of_le sz (Nat.le_trans le4 dn)), dne, hn₅⟩)
theorem made (T : Txt prog K mg n C fI) {v : Value} (X : K.In s.heap) (hG : s.heap.Ns mainGlobals mg) (hB : s.heap.Ns builtinsNs mb) (hb : mb "super" = some (.type "super")) (hlim : s.heap.NoLimit) (hroom : A.depth + 1 < recursionLimit)
    (hq : ∀ h' tk e d, OwnMade s.heap h' e C d v → R (.ok (.ret (.ref e))) { s with heap := h', toks := tk }) :
    codeAny (model prog w) A (.call (.ref C) ⟨[v], []⟩) R s := by
  obtain ⟨nm, q, N, bs, bm, sn, sub, ab, col, dd, k0, k1, k2, k3, k5, hC, hbm⟩ := T.cls
  obtain ⟨hp, g, dr, tk, os⟩ := s
  have k : ∀ b o, hp.get? b = some o → ((hp.push (kdv_tup [v])).push (excO C hp.objs.size)).get? b = some o := fun b o e => Heap.get?_push_of_some _ (Heap.get?_push_of_some _ e)
  have hget : ((hp.push (kdv_tup [v])).push (excO C hp.objs.size)).get? (hp.objs.size + 1) = some (excO C hp.objs.size) := by heap_get
  have hnx : K.lookup (hp.objs.size + 1) = none := by
    cases e : K.lookup (hp.objs.size + 1) with
    | none => rfl
    | some o =>
      have z : hp.get? (hp.objs.size + 1) = some o := X _ _ e
      exact absurd (Nat.lt_of_succ_lt (Heap.lt_size z)) (Nat.lt_irrefl _)
  refine call_own F.excBase_ValueError (fun X => refsVE_contains X bm hbm) (X _ _ hC) (looks_findIn X T.iC) (fun self => bind_fn X self T.tC) (one_size v) ?_
  refine init (s := ⟨(hp.push (kdv_tup [v])).push (excO C hp.objs.size), g, dr, tk, os⟩) T (X.keeps k) (hG.keeps k) (hB.keeps k) hb (hlim.keeps k) hget hnx ?_ fun h' tk' t1 dx ⟨k', hx, dn, dne, hns⟩ => ?_
  · show A.depth + 1 < recursionLimit
    exact hroom
  · have old : ∀ b o, hp.get? b = some o → h'.get? b = some o := fun b o e => k' b o (Nat.ne_of_lt (Nat.lt_succ_of_lt (Heap.lt_size e))) (k b o e)
    have z : hp.objs.size + 1 + 1 ≤ dx := by
      first
        | (simpa only [Heap.size_push] using dn)
        | exact dn
        | (have q := dn; rw [Heap.size_push, Heap.size_push] at q; exact q)
    exact ⟨rfl, hq h' tk' (hp.objs.size + 1) dx ⟨old, Nat.le_succ _, ⟨_, _, hx, rfl, rfl, rfl, rfl⟩, Nat.le_trans (Nat.le_trans (Nat.le_succ _) (Nat.le_succ _)) z, dne, hns⟩⟩
end
end Sxname
end PySem
namespace L2
open PySem PySem.Spec PyProof.Rows
theorem relO_name {v : V} {v' : Value} (r : RelV v v') (f : Str) : RelO (List.lookup f [(("name" : Str), v)]) (if f = "name" then some v' else none) := by
  by_cases hw : f = "name"
  · subst hw
    rw [if_pos rfl]
    have q : List.lookup ("name" : Str) [(("name" : Str), v)] = some v := by simp [List.lookup]
    rw [q]
    exact r
  · rw [if_neg hw]
    have qw : (f == ("name" : Str)) = false := by simpa using hw
    have q2 : List.lookup f [(("name" : Str), v)] = none := by simp [List.lookup, qw]
    rw [q2]
    trivial
section
variable {X : Cx} {C fI : Addr}
/-- x(e) : an exception of the class at C, its dict d new -/
def tMkname (C : Addr) (ta : TA) : St → Hp → XK → Prop := fun σ H Q => ta σ H fun vs H1 => ∃ v, vs = [v] ∧ ∀ d, H1 d = none → Q (.ref C) (some d) (upd H1 d (.xd [(("name" : Str), v)]))
theorem pmkname {x : Str} {a : Expr} {ta : TA} {p pos : Pos} {k : Nat} (T : PySem.Sxname.Txt X.prog X.K X.mg x C fI) (hr : Room k X.A) (ha : PA X [a] ta) (hg : Gl X x := by rfl) (hdb : (x == ("__debug__" : Str)) = false := by decide)
    (he : starEach (a :: []) X.env = (false, eval a X.env) :: starEach [] X.env := by rfl) (hpl : (backTo pos (starEach [] X.env)).any (·.1) = false := by rfl) :
    PMk X (.Call (.Name x p) [a] [] pos) (tMkname C ta) := by
  intro pins s σ H Q I h
  refine wpAny_Call_Name_kw (ld_glob I hg T.gC ?_ hdb)
  refine PySem.W.callWith_K (h₀ := X.base) I.ok.mod.kin T.kC (thn (ha.run pos pins s σ H _ I h) fun us s1 hh => ?_) he hpl
  obtain ⟨vs, H1, I1, r1, v, ev, q1⟩ := hh
  subst ev
  refine ⟨I1.kIn, ?_⟩
  cases r1 with
  | cons rv rn =>
    rename_i v' us'
    cases rn
    show wpAny _ _ (call (.ref C) [v']) _ _ _
    have hlim := I1.nolimit
    obtain ⟨mb, b1, b2⟩ := I1.mod.blt
    have hG1 := I1.mod.glob.keeps I1.bk
    have hB1 := b1.keeps I1.bk
    obtain ⟨hp, g, dr, tk, os⟩ := s1
    refine wpAny_call (PySem.Sxname.made T I1.kIn hG1 hB1 ((b2 _ (by decide)).trans (by first | boot_by_name | rfl | kernel_rfl)) hlim (by have := hr.dp; omega) fun h' tk' e d M => ?_)
    show MkP X pins σ Q (.ref e) ⟨h', g, dr, tk', os⟩
    obtain ⟨oe, fv, hoe, hc, hd, hdat, h1⟩ := M.obj
    have hns := M.ns
    obtain ⟨G', g1, g2⟩ := restrict h' fun b => decide (b ≠ e)
    have gk : ∀ b, b ≠ e → G'.get? b = h'.get? b := fun b hb => g1 b (decide_eq_true hb)
    have ge : G'.get? e = none := g2 e (by simp)
    have old : ∀ b o, hp.get? b = some o → G'.get? b = some o := fun b o q => (gk b (Nat.ne_of_lt (Nat.lt_of_lt_of_le (Heap.lt_size q) M.new))).trans (M.keep b o q)
    have ob : ObjOk X.prog X.w (upd H1 d (.xd [(("name" : Str), v)])) G' d (.xd [(("name" : Str), v)]) :=
      ⟨_, hns.at (fun o q => (gk d M.dne).trans q), fun f => relO_name rv f⟩
    have J : Inv X pins σ (upd H1 d (.xd [(("name" : Str), v)])) ⟨G', g, dr, tk', os⟩ := I1.laid (t' := tk') old M.dbig ob
    refine ⟨e, oe, fv, ⟨G', g, dr, tk', os⟩, _, .ref C, some d, rfl, J, fun b o q => ?_, ge, hoe, ⟨hc, hd⟩, hdat, h1, ?_, rfl, I1.bare, raises_own T.exC T.tyC, q1 d (I1.hok.fresh M.dbig)⟩
    · by_cases hb : b = e
      · have q' : G'.get? b = some o := q
        rw [hb, ge] at q'; cases q'
      · exact (gk b hb).symm.trans q
    · rw [upd_ne (Ne.symm M.dne)]
      exact I1.hok.fresh M.new
/-- raise x(e) -/
def tRaisename (C : Addr) (W : WX) (ta : TA) : TS := fun _ σ H => tMkname C ta σ H fun cls d H' => W cls d σ H'
theorem ps_raisename {x : Str} {a : Expr} {ta : TA} {W : WX} {p pos pos2 : Pos} {k : Nat} (hc : X.calm = true) (T : PySem.Sxname.Txt X.prog X.K X.mg x C fI) (hr : Room k X.A) (tk : Takes X W) (ha : PA X [a] ta) (hg : Gl X x := by rfl) (hdb : (x == ("__debug__" : Str)) = false := by decide)
    (he : starEach (a :: []) X.env = (false, eval a X.env) :: starEach [] X.env := by rfl) (hpl : (backTo pos (starEach [] X.env)).any (·.1) = false := by rfl) :
    PS X (.Raise (some (.Call (.Name x p) [a] [] pos)) none pos2) (tRaisename C W ta) := ps_raise hc tk (pmkname T hr ha hg hdb he hpl)
end
end L2

namespace Z
open PySem PySem.Spec PyProof.Rows L2
/-- the init's params, body as the text has them -/
def Chkname (P0 : Program) (K : PySem.W.Frag) (x : Str) : Bool :=
  eqB (PySem.W.findIn K (.ref (He.ga K x)) "__setattr__") (some (some (.builtin "object.__setattr__"))) && (eqB (PySem.W.findIn K (.ref (He.ga K x)) "name") (some none) && (clsB K (He.ga K x) && initB P0 K x))
theorem chkname_ok {P P0 : Program} {K : PySem.W.Frag} {mg : Str → Option Value} {x : Str} {qu txt : Str} {p1 p2 q1 q2 q3 q4 q5 q6 r1 r2 r3 r4 : Pos} (g : mg x = some (.ref (He.ga K x))) (ns : mg "super" = none)
    (hf : P.main.file = P0.main.file) (hs : (P.main.scope.names.lookup ("super" : Str)).isSome = false)
    (e : fnS K (x, some "__init__") = (some ("__init__", qu, PySem.Sxname.iA p1 p2, FuncBody.stmts (PySem.Sxname.iB txt q1 q2 q3 q4 q5 q6 r1 r2 r3 r4), PySem.Sxname.iS, mainGlobals, [("__class__" : Str)], builtinsNs) : FnS)) (hl : (q3.endLine == q5.line) = true)
    (c : Chkname P0 K x = true) : PySem.Sxname.Txt P K mg x (He.ga K x) (He.ma K (He.ga K x) "__init__") := by
  obtain ⟨c1, c⟩ := He.ba c
  obtain ⟨c2, c⟩ := He.ba c
  obtain ⟨c3, c4⟩ := He.ba c
  obtain ⟨d1, d2, d3, d4, d5, d6, d7⟩ := initB_ok c4
  obtain ⟨oc, od, osl, doc, pm, an, cda, ct, cc, hL, hq, hcell, hcode⟩ := d7 _ _ _ _ _ e
  obtain ⟨k1, k2, k3, k4, k5, k6, k7⟩ := d6
  exact ⟨g, ns, clsB_ok c3, eqB_ok c1, eqB_ok c2, d1, d2, k1, k2, k3, k4, k5, k6, k7, hs,
    ⟨qu, txt, oc, od, doc, pm, an, cda, ct, osl, cc, p1, p2, q1, q2, q3, q4, q5, q6, r1, r2, r3, r4, hL, hq, hcell, (by rw [hf]; exact hcode), hl⟩⟩
end Z
namespace Z
open PySem PySem.Spec PyProof.Rows L2 Evl
theorem s_raisename {C : Addr} {W : WX} {ta : TA} {D : Ends} {σ : L2.St} {H : Hp} (h : ta σ H fun vs H1 => ∃ v, vs = [v] ∧ ∀ d, H1 d = none → W (.ref C) (some d) σ (upd H1 d (.xd [(("name" : Str), v)]))) : tRaisename C W ta D σ H := h
theorem rzname {K : PySem.W.Frag} {x : Str} {v : V} {H0 H : Hp} {E : XK} (r : Rz K x "name" v H0 E) (e : Ex H0 H) : ∃ v', [v] = [v'] ∧ ∀ d, H d = none → E (.ref (He.ga K x)) (some d) (upd H d (.xd [(("name" : Str), v')])) :=
  ⟨v, rfl, fun d hd => r _ d (e.trans (Ex.new hd)) upd_same⟩
end Z

/-! ### an exception class of the package: `__init__(self, bound)` says super().__init__(text), then self.bound = bound -/
namespace PySem
namespace Sxbound
open PySem.W PySem.Calls PyProof.Rows PySem.HandSPX
def iA (p1 p2 : Pos) : Arguments := { posonlyargs := [], args := [{ arg := "self", annotation := none, pos := p1 }, { arg := "bound", annotation := none, pos := p2 }], vararg := none, kwonlyargs := [], kw_defaults := [], kwarg := none, defaults := [] }
def iB (txt : Str) (q1 q2 q3 q4 q5 q6 r1 r2 r3 r4 : Pos) : List Stmt := [.Expr (.Call (.Attribute (.Call (.Name "super" q1) [] [] q2) "__init__" q3) [.Constant (.str txt) 0 q4] [] q5) q6, .Assign [.Attribute (.Name "self" r1) "bound" r2] (.Name "bound" r3) r4]
def iS : Scope := { kind := .function, names := [(PySem.Str.ofString "self", .local), (PySem.Str.ofString "bound", .local), (PySem.Str.ofString "__class__", .free), (PySem.Str.ofString "super", .globalImplicit)], isGenerator := false, isCoroutine := false, more := [] }
/-- what the written part says of the class x at C, of its `__init__` at fI -/
structure Txt (P : Program) (K : Frag) (mg : Str → Option Value) (x : Str) (C fI : Addr) : Prop where
  gC : mg x = some (.ref C)
  noS : mg "super" = none
  cls : ∃ nm q N bs bm sn sub ab col dd k0 k1 k2 k3 k5, K.lookup C = some (excClassObj nm q C N bs bm true sn sub ab col dd k0 k1 k2 k3 k5 "ValueError.__new__") ∧ refsVE bm = true
  sa : findIn K (.ref C) "__setattr__" = some (some (.builtin "object.__setattr__"))
  noN : findIn K (.ref C) "bound" = some none
  iC : findIn K (.ref C) "__init__" = some (some (.ref fI))
  tC : typeIn K (.ref fI) = some (.type "function")
  kC : keepIn K (.ref C) = true
  exC : subIn K (.ref C) (.type "BaseException") = some true
  veC : subIn K (.ref C) (.type "ValueError") = some true
  tyC : typeIn K (.ref C) = some (.type "type")
  mroC : mroIn K C (.ref C) = some true
  opq : nsIn K cStatics "thirdparty.any" = some none
  sup : ks_superIn K C C "__init__" = some (some (.builtin "ValueError.__init__"))
  top : (P.main.scope.names.lookup ("super" : Str)).isSome = false
  fn : ∃ (qu txt : Str) (oc : Value) (od : Option Addr) (doc pm : Value) (an : Option Addr) (cda : Addr) (ct : Value) (osl : Array (Option Value)) (cc : Addr) (p1 p2 q1 q2 q3 q4 q5 q6 r1 r2 r3 r4 : Pos),
    K.lookup fI = some ⟨oc, od, .func (ksFn "__init__" qu (iA p1 p2) (iB txt q1 q2 q3 q4 q5 q6 r1 r2 r3 r4) iS .none .none doc pm an (.ref cda) ct cc), osl⟩ ∧ codeIn K (.ref cda) qu = true ∧
    (∃ cl cld csl, K.lookup cc = some ⟨cl, cld, .cell (some (.ref C)), csl⟩) ∧ (∃ ccl cdd vs ccs file tf, K.lookup cda = some ⟨ccl, cdd, .fields vs, ccs⟩ ∧ vs[2]? = some (.str file tf) ∧ ((P.main.file : Str) == file) = true) ∧ (q3.endLine == q5.line) = true
theorem one_size (v : Value) : [v].length ≤ sizeLine := by
  rw [sizeLine_eq]
  exact (by decide : 1 ≤ 16777216)
theorem he_of {env : Env} {txt : Str} {q1 q2 q3 q4 q5 : Pos} (hl : (q3.endLine == q5.line) = true) :
    eval (.Call (.Attribute (.Call (.Name "super" q1) [] [] q2) "__init__" q3) [.Constant (.str txt) 0 q4] [] q5) env = (do
      let ov ← attributeBase (.Call (.Name "super" q1) [] [] q2) "__init__" env (eval (.Call (.Name "super" q1) [] [] q2) env)
      standAt q3.atName
      let (f, first) ← holding [ov] (getMethod ov "__init__" (do return (← importBound (.Call (.Name "super" q1) [] [] q2) env).getD true))
      callWith q5 f first (backTo q5 (starEach [.Constant (.str txt) 0 q4] env)) []) := by
  have hp : methodCallPos true (.Call (.Name "super" q1) [] [] q2) env q3 q5 = pure q5 := by
    unfold methodCallPos
    rw [if_pos (by rw [hl]; rfl)]
  show (do
      let ov ← attributeBase (.Call (.Name "super" q1) [] [] q2) "__init__" env (eval (.Call (.Name "super" q1) [] [] q2) env)
      standAt q3.atName
      let (f, first) ← holding [ov] (getMethod ov "__init__" (do return (← importBound (.Call (.Name "super" q1) [] [] q2) env).getD true))
      let p ← methodCallPos true (.Call (.Name "super" q1) [] [] q2) env q3 q5
      callWith p f first (backTo q5 (starEach [.Constant (.str txt) 0 q4] env)) []) = _
  rw [hp]
  rfl
structure InitEnd (h h' : Heap) (x C dx t1 : Addr) (v : Value) : Prop where
  keep : ∀ b o, b ≠ x → h.get? b = some o → h'.get? b = some o
  obj : h'.get? x = some { cls := .ref C, dict := some dx, data := .fields #[.ref t1, .none, .none, .none, .bool false, .none] }
  dbig : h.objs.size ≤ dx
  dne : dx ≠ x
  ns : h'.Ns1 dx (fun y => if y = "bound" then some v else none)
structure OwnMade (h h' : Heap) (e C d : Addr) (v : Value) : Prop where
  keep : ∀ b o, h.get? b = some o → h'.get? b = some o
  new : h.objs.size ≤ e
  obj : ∃ oe vs, h'.get? e = some oe ∧ oe.cls = .ref C ∧ oe.dict = some d ∧ oe.data = .fields vs ∧ vs[1]? = some .none
  dbig : h.objs.size ≤ d
  dne : d ≠ e
  ns : h'.Ns1 d (fun y => if y = "bound" then some v else none)
section
variable {prog : Program} {w : World} {A : Around} {E : Value → Shared → Prop} {R : Result → Shared → Prop} {s : Shared} {K : Frag} {mg mb : Str → Option Value} {C fI : Addr} {n : Str}
theorem init (T : Txt prog K mg n C fI) {x t0 : Addr} {v : Value} (X : K.In s.heap) (hG : s.heap.Ns mainGlobals mg) (hB : s.heap.Ns builtinsNs mb) (hb : mb "super" = some (.type "super")) (hlim : s.heap.NoLimit) (hx : s.heap.get? x = some (excO C t0)) (hnx : K.lookup x = none) (hroom : A.depth < recursionLimit)
    (hq : ∀ h' tk t1 dx, InitEnd s.heap h' x C dx t1 v → R (.ok (.ret .none)) { s with heap := h', toks := tk }) :
    codeAny (model prog w) A (.call (.ref fI) ⟨[.ref x, v], []⟩) R s := by
  obtain ⟨qu, txt, oc, od, doc, pm, an, cda, ct, osl, cc, p1, p2, q1, q2, q3, q4, q5, q6, r1, r2, r3, r4, ho, hcd, ⟨cl, cld, csl, hcell⟩, ⟨ccl, cdd, vs, ccs, file, tf, hcode, hvs, hfile⟩, hline⟩ := T.fn
  obtain ⟨nm, q, N, bs, bm, sn, sub, ab, col, dd, k0, k1, k2, k3, k5, hC, hbm⟩ := T.cls
  have hcl : clsIn K C = some { name := nm, bases := bs, mro := .ref C :: bm, ns := N, qualname := q, hasDict := true, slotNames := sn, subclasses := sub, abstract := ab, collection := col, hasDel := false } := by unfold clsIn; rw [hC] <;> rfl
  have hsup := T.sup
  have hxC : x ≠ C := fun z => by
    have y := X _ _ hC
    rw [← z, hx] at y
    cases y
  refine ks_codeAny_call_defAt (fd := ksFn "__init__" qu (iA p1 p2) (iB txt q1 q2 q3 q4 q5 q6 r1 r2 r3 r4) iS .none .none doc pm an (.ref cda) ct cc) (body := iB txt q1 q2 q3 q4 q5 q6 r1 r2 r3 r4) (binds := [("self", .ref x), ("bound", v)]) hroom (X _ _ ho) rfl hlim (codeRec_of X hcd) rfl
    (BindsTo.of_eq (by first | rfl | with_unfolding_all rfl)) (by show ∀ x ∈ iS.names, x.2 ≠ NameKind.cell; decide) (by exact locs rfl) (fun h₁ hns k₁ => ?_) rfl rfl rfl
  have hxL : s.heap.objs.size ≠ x := Nat.ne_of_gt (Heap.lt_size hx)
  have X₁ : K.In h₁ := X.keeps k₁
  have hx₁ := k₁ _ _ hx
  have hG₁ := hG.keeps k₁
  have hB₁ := hB.keeps k₁
  -- super().__init__(text)
  show wpAt _ _ _ (execs (iB txt q1 q2 q3 q4 q5 q6 r1 r2 r3 r4) (ksEnv qu iS s.heap.objs.size fI (.ref cda) cc)) _ _ _
  refine ks_wpAt_execs_cons (ks_wpAt_Expr_any (ks_wpAt_MethodCall ?_ (he_of hline)))
  refine ks_wpAt_super_base (env := ksEnv qu iS s.heap.objs.size fI (.ref cda) cc) (ar := { arg := "self", annotation := none, pos := p1 }) rfl rfl (by decide) rfl (X₁ _ _ ho) rfl rfl rfl (X₁ _ _ hcode) rfl hvs hfile T.top ?_
  refine ks_loadName_global rfl rfl (loadGlobal_builtin (env := ksEnv qu iS s.heap.objs.size fI (.ref cda) cc) hG₁ T.noS hB₁ hb ⟨rfl, ?_⟩)
  refine wpAny_loadName_free rfl rfl rfl ⟨_, X₁ _ _ hcell, rfl⟩ ?_
  refine wpAny_loadName_local (v := .ref x) rfl rfl hns (by first | rfl | with_unfolding_all rfl) ?_
  refine ks_wpAny_isType_cls (X₁ _ _ hC) rfl ⟨rfl, ?_⟩
  refine ks_wpAny_call_super (X₁ _ _ hC) rfl hx₁ rfl (fun c e => by cases e) (looks_mroIn X₁ T.mroC) (fun h₂ hso k₂ => ?_)
  have X₂ : K.In h₂ := X₁.keeps k₂
  have I₂ : PySem.W.InstAt h₂ x (excO C t0) C none := ⟨k₂ _ _ hx₁, rfl, rfl, trivial⟩
  have hI : Looks (model prog w) h₂ (isInstance (.ref x) (.type "ValueError")) true := I₂.type.andThen (looks_subIn X₂ T.veC)
  unfold ks_superIn at hsup
  rw [hcl] at hsup
  refine kxs_getMethod kxs_ValueError hso (looks_opaque X₂ T.opq) (l₀ := .ref C :: bm) (fun A Q E s k q => wpAny_bind ((looks_clsIn X₂ hcl) A _ E s k (wpAny_pure q))) rfl X₂ hsup hI hxC (by decide) ?_
  have up₃ : ∀ b o, h₂.get? b = some o → (h₂.push (kxs_mw "ValueError.__init__" x)).get? b = some o := fun b o e => Heap.get?_push_of_some _ e
  have hu : (h₂.push (kxs_mw "ValueError.__init__" x)).get? h₂.objs.size = some (kxs_mw "ValueError.__init__" x) := Heap.get?_push_at rfl rfl
  refine kxs_callWith (i := "ValueError.__init__") (x := x) (by rfl) ?_
  refine evalArgs_plain (spliced_cons (wpAny_Constant_str (k := 0) (pos := q4) (spliced_nil ?_)))
  refine ⟨hu, ?_⟩
  refine wpAny_call (codeAny_of_tree ?_)
  show wpAny _ _ (callAny (.ref h₂.objs.size) ⟨[.str txt _], []⟩) _ _ _
  simp only [callAny]
  refine wpAny_bind (wpAny_load hu ?_)
  simp only [kxs_mw, show (Value.type "method-wrapper" == Value.type "method" || Value.type "method-wrapper" == Value.type "builtin_function_or_method" || Value.type "method-wrapper" == Value.type "method-wrapper") = true by decide, if_true]
  refine KFB.if_so (by decide) ?_
  have hC₃ := up₃ _ _ (X₂ _ _ hC)
  have hx₃ := up₃ _ _ I₂.at_
  refine wpAny_bind (check_bound_init F.excBase_ValueError.toExcCallFacts hC₃ hx₃ rfl ?_)
  refine wpAny_bind (wpAny_pure (wpAny_pure ?_))
  refine ⟨plainId_quiet F.excBase_ValueError.init.plain _, codeAny_builtin F.excBase_ValueError.initEntry ?_⟩
  refine exc_init_tree (cls := .ref C) (t0 := t0) (dv := none) (c2 := .none) (c3 := .none) (b4 := .bool false) hx₃ (one_size _) fun h₄ k₄ hx₄ ht₄ => ?_
  have k14 : ∀ b o, b ≠ x → h₁.get? b = some o → h₄.get? b = some o := fun b o hb e => k₄ b o hb (up₃ _ _ (k₂ _ _ e))
  have k04 : ∀ b o, b ≠ x → s.heap.get? b = some o → h₄.get? b = some o := fun b o hb e => k14 b o hb (k₁ _ _ e)
  have X₄ : K.In h₄ := fun a o e => k04 a o (fun z => by rw [z, hnx] at e; cases e) (X _ _ e)
  have hns₄ : h₄.Ns s.heap.objs.size (fun y => (([("self", .ref x), ("bound", v)] : List (Str × Value)).reverse.lookup y)) := by
    obtain ⟨oL, es, ep, hL, r⟩ := hns
    exact ⟨oL, es, ep, k14 _ _ hxL hL, r⟩
  have sz : s.heap.objs.size < h₁.objs.size := hns.lt
  -- self.bound = bound
  show wpAt _ _ _ _ _ _ _
  refine wpAt_of_wpAny ?_
  refine wpAny_execs_cons (plainObj_wpAny_Assign_Attribute ?_)
  refine ESX.ldL (env := ksEnv qu iS s.heap.objs.size fI (.ref cda) cc) (v := v) hns₄ (by first | rfl | with_unfolding_all rfl | kernel_rfl) (ESX.ldL (env := ksEnv qu iS s.heap.objs.size fI (.ref cda) cc) (v := .ref x) hns₄ (by first | rfl | with_unfolding_all rfl | kernel_rfl) ?_)
  refine set_plain X₄ (ox := excO C (h₂.push (kxs_mw "ValueError.__init__" x)).objs.size) (od := none) ⟨hx₄, rfl, rfl, trivial⟩ T.sa ?_
  refine exc_osa X₄ hx₄ hcl (show refsVE (.ref C :: bm) = true from hbm) rfl T.noN (fun h₅ tk₅ dx k₅ dn dne hx₅ hn₅ => ?_)
  have le4 : h₁.objs.size ≤ h₄.objs.size := by
    have a1 := Heap.lt_size hso
    have a2 := Heap.lt_size ht₄
    have a3 := Heap.lt_size hu
    exact Nat.le_of_lt (Nat.lt_trans a1 (Nat.lt_trans a3 a2))
  exact wpAny_execs_nil (hq h₅ tk₅ _ dx ⟨fun b o hb e => k₅ b o hb (k04 b o hb e), hx₅, Nat.le_of_lt (Nat.lt_of_lt_of_le sz (Nat.le_trans le4 dn)), dne, hn₅⟩)
theorem made (T : Txt prog K mg n C fI) {v : Value} (X : K.In s.heap) (hG : s.heap.Ns mainGlobals mg) (hB : s.heap.Ns builtinsNs mb) (hb : mb "super" = some (.type "super")) (hlim : s.heap.NoLimit) (hroom : A.depth + 1 < recursionLimit)
    (hq : ∀ h' tk e d, OwnMade s.heap h' e C d v → R (.ok (.ret (.ref e))) { s with heap := h', toks := tk }) :
    codeAny (model prog w) A (.call (.ref C) ⟨[v], []⟩) R s := by
  obtain ⟨nm, q, N, bs, bm, sn, sub, ab, col, dd, k0, k1, k2, k3, k5, hC, hbm⟩ := T.cls
  obtain ⟨hp, g, dr, tk, os⟩ := s
  have k : ∀ b o, hp.get? b = some o → ((hp.push (kdv_tup [v])).push (excO C hp.objs.size)).get? b = some o := fun b o e => Heap.get?_push_of_some _ (Heap.get?_push_of_some _ e)
  have hget : ((hp.push (kdv_tup [v])).push (excO C hp.objs.size)).get? (hp.objs.size + 1) = some (excO C hp.objs.size) := by heap_get
  have hnx : K.lookup (hp.objs.size + 1) = none := by
    cases e : K.lookup (hp.objs.size + 1) with
    | none => rfl
    | some o =>
      have z : hp.get? (hp.objs.size + 1) = some o := X _ _ e
      exact absurd (Nat.lt_of_succ_lt (Heap.lt_size z)) (Nat.lt_irrefl _)
  refine call_own F.excBase_ValueError (fun X => refsVE_contains X bm hbm) (X _ _ hC) (looks_findIn X T.iC) (fun self => bind_fn X self T.tC) (one_size v) ?_
  refine init (s := ⟨(hp.push (kdv_tup [v])).push (excO C hp.objs.size), g, dr, tk, os⟩) T (X.keeps k) (hG.keeps k) (hB.keeps k) hb (hlim.keeps k) hget hnx ?_ fun h' tk' t1 dx ⟨k', hx, dn, dne, hns⟩ => ?_
  · show A.depth + 1 < recursionLimit
    exact hroom
  · have old : ∀ b o, hp.get? b = some o → h'.get? b = some o := fun b o e => k' b o (Nat.ne_of_lt (Nat.lt_succ_of_lt (Heap.lt_size e))) (k b o e)
    have z : hp.objs.size + 1 + 1 ≤ dx := by
      first
        | (simpa only [Heap.size_push] using dn)
        | exact dn
        | (have q := dn; rw [Heap.size_push, Heap.size_push] at q; exact q)
    exact ⟨rfl, hq h' tk' (hp.objs.size + 1) dx ⟨old, Nat.le_succ _, ⟨_, _, hx, rfl, rfl, rfl, rfl⟩, Nat.le_trans (Nat.le_trans (Nat.le_succ _) (Nat.le_succ _)) z, dne, hns⟩⟩
end
end Sxbound
end PySem
namespace L2
open PySem PySem.Spec PyProof.Rows
theorem relO_bound {v : V} {v' : Value} (r : RelV v v') (f : Str) : RelO (List.lookup f [(("bound" : Str), v)]) (if f = "bound" then some v' else none) := by
  by_cases hw : f = "bound"
  · subst hw
    rw [if_pos rfl]
    have q : List.lookup ("bound" : Str) [(("bound" : Str), v)] = some v := by simp [List.lookup]
    rw [q]
    exact r
  · rw [if_neg hw]
    have qw : (f == ("bound" : Str)) = false := by simpa using hw
    have q2 : List.lookup f [(("bound" : Str), v)] = none := by simp [List.lookup, qw]
    rw [q2]
    trivial
section
variable {X : Cx} {C fI : Addr}
/-- x(e) : an exception of the class at C, its dict d new -/
def tMkbound (C : Addr) (ta : TA) : St → Hp → XK → Prop := fun σ H Q => ta σ H fun vs H1 => ∃ v, vs = [v] ∧ ∀ d, H1 d = none → Q (.ref C) (some d) (upd H1 d (.xd [(("bound" : Str), v)]))
theorem pmkbound {x : Str} {a : Expr} {ta : TA} {p pos : Pos} {k : Nat} (T : PySem.Sxbound.Txt X.prog X.K X.mg x C fI) (hr : Room k X.A) (ha : PA X [a] ta) (hg : Gl X x := by rfl) (hdb : (x == ("__debug__" : Str)) = false := by decide)
    (he : starEach (a :: []) X.env = (false, eval a X.env) :: starEach [] X.env := by rfl) (hpl : (backTo pos (starEach [] X.env)).any (·.1) = false := by rfl) :
    PMk X (.Call (.Name x p) [a] [] pos) (tMkbound C ta) := by
  intro pins s σ H Q I h
  refine wpAny_Call_Name_kw (ld_glob I hg T.gC ?_ hdb)
  refine PySem.W.callWith_K (h₀ := X.base) I.ok.mod.kin T.kC (thn (ha.run pos pins s σ H _ I h) fun us s1 hh => ?_) he hpl
  obtain ⟨vs, H1, I1, r1, v, ev, q1⟩ := hh
  subst ev
  refine ⟨I1.kIn, ?_⟩
  cases r1 with
  | cons rv rn =>
    rename_i v' us'
    cases rn
    show wpAny _ _ (call (.ref C) [v']) _ _ _
    have hlim := I1.nolimit
    obtain ⟨mb, b1, b2⟩ := I1.mod.blt
    have hG1 := I1.mod.glob.keeps I1.bk
    have hB1 := b1.keeps I1.bk
    obtain ⟨hp, g, dr, tk, os⟩ := s1
    refine wpAny_call (PySem.Sxbound.made T I1.kIn hG1 hB1 ((b2 _ (by decide)).trans (by first | boot_by_name | rfl | kernel_rfl)) hlim (by have := hr.dp; omega) fun h' tk' e d M => ?_)
    show MkP X pins σ Q (.ref e) ⟨h', g, dr, tk', os⟩
    obtain ⟨oe, fv, hoe, hc, hd, hdat, h1⟩ := M.obj
    have hns := M.ns
    obtain ⟨G', g1, g2⟩ := restrict h' fun b => decide (b ≠ e)
    have gk : ∀ b, b ≠ e → G'.get? b = h'.get? b := fun b hb => g1 b (decide_eq_true hb)
    have ge : G'.get? e = none := g2 e (by simp)
    have old : ∀ b o, hp.get? b = some o → G'.get? b = some o := fun b o q => (gk b (Nat.ne_of_lt (Nat.lt_of_lt_of_le (Heap.lt_size q) M.new))).trans (M.keep b o q)
    have ob : ObjOk X.prog X.w (upd H1 d (.xd [(("bound" : Str), v)])) G' d (.xd [(("bound" : Str), v)]) :=
      ⟨_, hns.at (fun o q => (gk d M.dne).trans q), fun f => relO_bound rv f⟩
    have J : Inv X pins σ (upd H1 d (.xd [(("bound" : Str), v)])) ⟨G', g, dr, tk', os⟩ := I1.laid (t' := tk') old M.dbig ob
    refine ⟨e, oe, fv, ⟨G', g, dr, tk', os⟩, _, .ref C, some d, rfl, J, fun b o q => ?_, ge, hoe, ⟨hc, hd⟩, hdat, h1, ?_, rfl, I1.bare, raises_own T.exC T.tyC, q1 d (I1.hok.fresh M.dbig)⟩
    · by_cases hb : b = e
      · have q' : G'.get? b = some o := q
        rw [hb, ge] at q'; cases q'
      · exact (gk b hb).symm.trans q
    · rw [upd_ne (Ne.symm M.dne)]
      exact I1.hok.fresh M.new
/-- raise x(e) -/
def tRaisebound (C : Addr) (W : WX) (ta : TA) : TS := fun _ σ H => tMkbound C ta σ H fun cls d H' => W cls d σ H'
theorem ps_raisebound {x : Str} {a : Expr} {ta : TA} {W : WX} {p pos pos2 : Pos} {k : Nat} (hc : X.calm = true) (T : PySem.Sxbound.Txt X.prog X.K X.mg x C fI) (hr : Room k X.A) (tk : Takes X W) (ha : PA X [a] ta) (hg : Gl X x := by rfl) (hdb : (x == ("__debug__" : Str)) = false := by decide)
    (he : starEach (a :: []) X.env = (false, eval a X.env) :: starEach [] X.env := by rfl) (hpl : (backTo pos (starEach [] X.env)).any (·.1) = false := by rfl) :
    PS X (.Raise (some (.Call (.Name x p) [a] [] pos)) none pos2) (tRaisebound C W ta) := ps_raise hc tk (pmkbound T hr ha hg hdb he hpl)
end
end L2

namespace Z
open PySem PySem.Spec PyProof.Rows L2
/-- the init's params, body as the text has them -/
def Chkbound (P0 : Program) (K : PySem.W.Frag) (x : Str) : Bool :=
  eqB (PySem.W.findIn K (.ref (He.ga K x)) "__setattr__") (some (some (.builtin "object.__setattr__"))) && (eqB (PySem.W.findIn K (.ref (He.ga K x)) "bound") (some none) && (clsB K (He.ga K x) && initB P0 K x))
theorem chkbound_ok {P P0 : Program} {K : PySem.W.Frag} {mg : Str → Option Value} {x : Str} {qu txt : Str} {p1 p2 q1 q2 q3 q4 q5 q6 r1 r2 r3 r4 : Pos} (g : mg x = some (.ref (He.ga K x))) (ns : mg "super" = none)
    (hf : P.main.file = P0.main.file) (hs : (P.main.scope.names.lookup ("super" : Str)).isSome = false)
    (e : fnS K (x, some "__init__") = (some ("__init__", qu, PySem.Sxbound.iA p1 p2, FuncBody.stmts (PySem.Sxbound.iB txt q1 q2 q3 q4 q5 q6 r1 r2 r3 r4), PySem.Sxbound.iS, mainGlobals, [("__class__" : Str)], builtinsNs) : FnS)) (hl : (q3.endLine == q5.line) = true)
    (c : Chkbound P0 K x = true) : PySem.Sxbound.Txt P K mg x (He.ga K x) (He.ma K (He.ga K x) "__init__") := by
  obtain ⟨c1, c⟩ := He.ba c
  obtain ⟨c2, c⟩ := He.ba c
  obtain ⟨c3, c4⟩ := He.ba c
  obtain ⟨d1, d2, d3, d4, d5, d6, d7⟩ := initB_ok c4
  obtain ⟨oc, od, osl, doc, pm, an, cda, ct, cc, hL, hq, hcell, hcode⟩ := d7 _ _ _ _ _ e
  obtain ⟨k1, k2, k3, k4, k5, k6, k7⟩ := d6
  exact ⟨g, ns, clsB_ok c3, eqB_ok c1, eqB_ok c2, d1, d2, k1, k2, k3, k4, k5, k6, k7, hs,
    ⟨qu, txt, oc, od, doc, pm, an, cda, ct, osl, cc, p1, p2, q1, q2, q3, q4, q5, q6, r1, r2, r3, r4, hL, hq, hcell, (by rw [hf]; exact hcode), hl⟩⟩
end Z
namespace Z
open PySem PySem.Spec PyProof.Rows L2 Evl
theorem s_raisebound {C : Addr} {W : WX} {ta : TA} {D : Ends} {σ : L2.St} {H : Hp} (h : ta σ H fun vs H1 => ∃ v, vs = [v] ∧ ∀ d, H1 d = none → W (.ref C) (some d) σ (upd H1 d (.xd [(("bound" : Str), v)]))) : tRaisebound C W ta D σ H := h
theorem rzbound {K : PySem.W.Frag} {x : Str} {v : V} {H0 H : Hp} {E : XK} (r : Rz K x "bound" v H0 E) (e : Ex H0 H) : ∃ v', [v] = [v'] ∧ ∀ d, H d = none → E (.ref (He.ga K x)) (some d) (upd H d (.xd [(("bound" : Str), v')])) :=
  ⟨v, rfl, fun d hd => r _ d (e.trans (Ex.new hd)) upd_same⟩
end Z

/-! ### a, *b = a tuple or list -/
namespace Z
open PySem PySem.Spec PySem.Calls PyProof.Rows L2 Evl
section
variable {prog : Program} {w : World} {A : Around} {E : Value → Shared → Prop} {s : Shared}
theorem star_tup {l : Addr} {items : Array Value} {n i : Nat} {Q : List Value → Shared → Prop} (hl : IsTup s.heap l items) (hh : A.handled = none) (hi : i < n) (hn : n ≤ items.size + 1) (hz : items.size ≤ 16384)
    (h : ∀ (h₂ : Heap) (tk : Nat), (∀ b o, s.heap.get? b = some o → h₂.get? b = some o) →
      Q (items.toList.take i ++ [.ref h₂.objs.size] ++ (items.toList.drop i).drop (items.size + 1 - n)) { s with heap := h₂.push { cls := .type "list", data := .seq ((items.toList.drop i).take (items.size + 1 - n)).toArray }, toks := tk }) : wpAny (model prog w) A (unpackItems (.ref l) n (some i)) Q E s := by
  have hlt : l ≠ s.heap.objs.size := by obtain ⟨o, ho, _⟩ := hl; exact Nat.ne_of_lt (Heap.lt_size ho)
  unfold unpackItems
  refine wpAny_bind ?_
  unfold notIterableAtAll
  refine wpAny_bind (wpAny_specialOf hl.typeIs slot_tuple_iter.lookup ?_)
  refine wpAny_pure ?_
  simp only [Bool.false_eq_true, if_false]
  refine wpAny_bind (wpAny_holding (iter_tuple hl ?_))
  refine wpAny_bind (wpAny_holding (draw_tuple hlt i 0 _ _ ⟨_, Heap.get?_push_size _ rfl, rfl, rfl⟩ (hl.push _) (by omega) fun h₁ hit₁ hs₁ => ?_))
  have hl₁ : IsTup h₁ l items := (hl.push _).extBut hs₁.extBut hlt
  rw [Nat.zero_add] at hit₁
  have hit₁' := hit₁
  obtain ⟨oi, hoi, _⟩ := hit₁'
  have hl₁' := hl₁
  obtain ⟨ol, hol, _⟩ := hl₁'
  rw [List.drop_zero]
  have hfl : (items.toList.take i).length = i := by rw [List.length_take, Array.length_toList]; omega
  rw [if_neg (show ¬ ((items.toList.take i).length < i) by rw [hfl]; omega)]
  refine wpAny_bind (wpAny_holding (PySem.W.kun_collect (s := { s with heap := h₁ }) (T := "tuple_iterator") (.inr (.inr (.inr rfl))) (Walks.tuple (A := A.in1) hh s.heap.objs.size l hlt items) (fun j u st => st.1.typeIs) (k := i) (by omega) ⟨hit₁, hl₁⟩ (Heap.lt_size hoi) (Heap.lt_size hol) (fun h₂ tk hk => ?_) (by rw [sizeLine_eq]; omega)))
  have hrl : (items.toList.drop i).length = items.size - i := by rw [List.length_drop, Array.length_toList]
  have hmid : (items.toList.drop i).length - (n - 1 - i) = items.size + 1 - n := by rw [hrl]; omega
  show wpAny _ _ (if (items.toList.drop i).length < n - 1 - i then _ else _) _ _ _
  rw [if_neg (by rw [hrl]; omega)]
  show wpAny _ _ (newList ((items.toList.drop i).take ((items.toList.drop i).length - (n - 1 - i))) >>= fun d => pure (items.toList.take i ++ [d] ++ (items.toList.drop i).drop ((items.toList.drop i).length - (n - 1 - i)))) _ _ _
  rw [hmid]
  have he : Heap.ExtBut s.heap.objs.size s.heap h₂ := fun b o hb e => hk b o hb (hs₁.extBut b o hb (Heap.get?_push_of_some _ e))
  refine wpAny_bind (wpAny_newObj_type (wpAny_pure ?_) ?_)
  · exact h h₂ tk fun b o e => he b o (Nat.ne_of_lt (Heap.lt_size e)) e
  · have h0 : ((items.toList.drop i).take (items.size + 1 - n)).length ≤ 16384 := by rw [List.length_take, hrl]; omega
    have h1 : ((items.toList.drop i).take (items.size + 1 - n)).toArray.size ≤ sizeLine := by rw [List.size_toArray, sizeLine_eq]; omega
    first
      | exact decide_eq_true h1
      | (simp [sizeOk, sizeLine_eq]; omega)
theorem star_list {l : Addr} {items : Array Value} {n i : Nat} {Q : List Value → Shared → Prop} (hl : s.heap.IsList l items) (hh : A.handled = none) (hi : i < n) (hn : n ≤ items.size + 1) (hz : items.size ≤ 16384)
    (h : ∀ (h₂ : Heap) (tk : Nat), (∀ b o, s.heap.get? b = some o → h₂.get? b = some o) →
      Q (items.toList.take i ++ [.ref h₂.objs.size] ++ (items.toList.drop i).drop (items.size + 1 - n)) { s with heap := h₂.push { cls := .type "list", data := .seq ((items.toList.drop i).take (items.size + 1 - n)).toArray }, toks := tk }) : wpAny (model prog w) A (unpackItems (.ref l) n (some i)) Q E s := by
  have hlt : l ≠ s.heap.objs.size := by obtain ⟨o, ho, _⟩ := hl; exact Nat.ne_of_lt (Heap.lt_size ho)
  unfold unpackItems
  refine wpAny_bind ?_
  unfold notIterableAtAll
  refine wpAny_bind (wpAny_specialOf hl.typeIs slot_list_iter.lookup ?_)
  refine wpAny_pure ?_
  simp only [Bool.false_eq_true, if_false]
  refine wpAny_bind (wpAny_holding (wpAny_pyIter_list hl ?_))
  refine wpAny_bind (wpAny_holding (PySem.W.kun_draw hlt i 0 _ _ ⟨_, Heap.get?_push_size _ rfl, rfl, rfl⟩ (hl.push _) (by omega) fun h₁ hit₁ hs₁ => ?_))
  have hl₁ : h₁.IsList l items := (hl.push _).extBut hs₁.extBut hlt
  rw [Nat.zero_add] at hit₁
  have hit₁' := hit₁
  obtain ⟨oi, hoi, _⟩ := hit₁'
  have hl₁' := hl₁
  obtain ⟨ol, hol, _⟩ := hl₁'
  rw [List.drop_zero]
  have hfl : (items.toList.take i).length = i := by rw [List.length_take, Array.length_toList]; omega
  rw [if_neg (show ¬ ((items.toList.take i).length < i) by rw [hfl]; omega)]
  refine wpAny_bind (wpAny_holding (PySem.W.kun_collect (s := { s with heap := h₁ }) (T := "list_iterator") (.inr (.inr (.inl rfl))) (Walks.list (A := A.in1) hh s.heap.objs.size l hlt items) (fun j u st => st.1.typeIs) (k := i) (by omega) ⟨hit₁, hl₁⟩ (Heap.lt_size hoi) (Heap.lt_size hol) (fun h₂ tk hk => ?_) (by rw [sizeLine_eq]; omega)))
  have hrl : (items.toList.drop i).length = items.size - i := by rw [List.length_drop, Array.length_toList]
  have hmid : (items.toList.drop i).length - (n - 1 - i) = items.size + 1 - n := by rw [hrl]; omega
  show wpAny _ _ (if (items.toList.drop i).length < n - 1 - i then _ else _) _ _ _
  rw [if_neg (by rw [hrl]; omega)]
  show wpAny _ _ (newList ((items.toList.drop i).take ((items.toList.drop i).length - (n - 1 - i))) >>= fun d => pure (items.toList.take i ++ [d] ++ (items.toList.drop i).drop ((items.toList.drop i).length - (n - 1 - i)))) _ _ _
  rw [hmid]
  have he : Heap.ExtBut s.heap.objs.size s.heap h₂ := fun b o hb e => hk b o hb (hs₁.extBut b o hb (Heap.get?_push_of_some _ e))
  refine wpAny_bind (wpAny_newObj_type (wpAny_pure ?_) ?_)
  · exact h h₂ tk fun b o e => he b o (Nat.ne_of_lt (Heap.lt_size e)) e
  · have h0 : ((items.toList.drop i).take (items.size + 1 - n)).length ≤ 16384 := by rw [List.length_take, hrl]; omega
    have h1 : ((items.toList.drop i).take (items.size + 1 - n)).toArray.size ≤ sizeLine := by rw [List.size_toArray, sizeLine_eq]; omega
    first
      | exact decide_eq_true h1
      | (simp [sizeOk, sizeLine_eq]; omega)
end
/-- (a, .., *b, .., c) = a tuple or a list: the starred one stands at i, n targets -/
def gStar (K : PySem.W.Frag) (n i : Nat) (t : TGs) : TG := fun v σ H Q => ∃ a xs, v = .ref a ∧ (SqT K H a xs ∨ SqL K H a xs) ∧ n ≤ xs.length + 1 ∧ xs.length ≤ 16384 ∧
  ∀ D, H D = none → t (xs.take i ++ [.ref D] ++ (xs.drop i).drop (xs.length + 1 - n)) σ (upd H D (.lst ((xs.drop i).take (xs.length + 1 - n)))) Q
theorem pg_star {X : Cx} {es es' : List Expr} {k : Nat} {pos : Pos} {t : TGs} {n i : Nat} (hc : X.calm = true) (h : PGs X es' t) (hn : (assignEach es X.env).length = n := by rfl) (hst : (assignEach es X.env).findIdx? (·.1) = some i := by rfl)
    (he : (assignEach es X.env).map (·.2) = (assignEach es' X.env).map (·.2) := by rfl) (hi : i < n := by decide) : PG X (.Tuple es k pos) (gStar X.K n i t) := by
  refine ⟨fun pins s σ H v u Q I r hw => ?_⟩
  obtain ⟨a, xs, e1, hq, hl, hz, hw⟩ := hw
  subst e1
  cases r
  rw [assign_Tuple]
  refine wpAny_bind (wpAny_standAt ?_)
  unfold unpack
  rw [hn, hst, he]
  have go : ∀ its : List Value, Vals xs its → (∀ {Q' : List Value → Shared → Prop} {E' : Value → Shared → Prop}, (∀ (h₂ : Heap) (tk : Nat), (∀ b o, s.heap.get? b = some o → h₂.get? b = some o) →
      Q' (its.toArray.toList.take i ++ [.ref h₂.objs.size] ++ (its.toArray.toList.drop i).drop (its.toArray.size + 1 - n)) { s with heap := h₂.push { cls := .type "list", data := .seq ((its.toArray.toList.drop i).take (its.toArray.size + 1 - n)).toArray }, toks := tk }) → wpAny (model X.prog X.w) X.A (unpackItems (.ref a) n (some i)) Q' E' s) →
      wpAny (model X.prog X.w) X.A (do assignInOrder ((assignEach es' X.env).map (·.2)) (← holding [.ref a] (unpackItems (.ref a) n (some i)))) (fun _ s' => ∃ σ' H', Inv X pins σ' H' s' ∧ Q σ' H') X.xe s := by
    intro its rv run
    have el : its.length = xs.length := rv.length.symm
    refine wpAny_bind (wpAny_holding (run fun h₂ tk k => ?_))
    have I1 : Inv X pins σ H { s with heap := h₂, toks := tk } := I.kept k
    have hD : H h₂.objs.size = none := I1.hok.fresh (Nat.le_refl _)
    have rm : Vals ((xs.drop i).take (xs.length + 1 - n)) ((its.drop i).take (its.length + 1 - n)) := by
      rw [el]
      exact (rv.drop i).take _
    have I2 := I1.lnew (t' := tk) rm (by rw [List.length_take, List.length_drop, sizeLine_eq]; omega)
    have r2 : Vals (xs.take i ++ [.ref h₂.objs.size] ++ (xs.drop i).drop (xs.length + 1 - n)) (its.take i ++ [.ref h₂.objs.size] ++ (its.drop i).drop (its.length + 1 - n)) := by
      rw [el]
      exact ((rv.take i).append (.cons (show RelV (V.ref h₂.objs.size) (Value.ref h₂.objs.size) from rfl) .nil)).append ((rv.drop i).drop _)
    exact h.run pins _ σ _ _ _ Q I2 r2 (hw _ hD)
  rcases hq with hq | hq
  · obtain ⟨its, rv, ht, _⟩ := I.tuple hq
    have el : its.length = xs.length := rv.length.symm
    exact go its rv fun {Q' E'} hh => star_tup ht (I.ok.hd hc) hi (by rw [List.size_toArray]; omega) (by rw [List.size_toArray]; omega) hh
  · obtain ⟨its, rv, ht, _⟩ := I.list hq
    have el : its.length = xs.length := rv.length.symm
    exact go its rv fun {Q' E'} hh => star_list ht.isList (I.ok.hd hc) hi (by rw [List.size_toArray]; omega) (by rw [List.size_toArray]; omega) hh
end Z

/-! L5: membership at any depth, dicts in the wide rules, conversions, methods of lists and dicts -/
namespace Z
open PySem PySem.Spec PyProof.Rows L2 Evl
def vOf : Value → V
  | .none => .non
  | .bool b => .bl b
  | .int i _ => .int i
  | .str x _ => .str x
  | .bytes b _ => .byt b
  | .float b _ => .flt b
  | .ref a => .ref a
  | .type n => .ty n
  | _ => .non
theorem vOf_rel {y : V} {u : Value} (r : RelV y u) : vOf u = y := by
  cases y with
  | int i => obtain ⟨t, rfl⟩ := r; rfl
  | str i => obtain ⟨t, rfl⟩ := r; rfl
  | byt i => obtain ⟨t, rfl⟩ := r; rfl
  | flt i => obtain ⟨t, rfl⟩ := r; rfl
  | _ => cases r; rfl
/-- x in a list or tuple: g tells which items it equals -/
def rInG (K : PySem.W.Frag) (neg : Bool) : R2 := fun x y H Q => ∃ (p : Addr) (xs : List V) (g : V → Bool), y = .ref p ∧ (SqL K H p xs ∨ SqT K H p xs) ∧ (∀ z ∈ xs, EqI K H 60 z x (g z)) ∧ Q (.bl (if neg then !xs.any g else xs.any g)) H
theorem any_vOf (g : V → Bool) : ∀ {xs : List V} {us : List Value}, Vals xs us → us.any (fun u => g (vOf u)) = xs.any g
  | _, _, .nil => rfl
  | _, _, .cons r t => by rw [List.any_cons, List.any_cons, vOf_rel r, any_vOf g t]
theorem mem_vOf {A : Around} {s : Shared} {x : V} {v : Value} {g : V → Bool} : ∀ {xs : List V} {us : List Value}, Vals xs us → (∀ z ∈ xs, ∀ u, RelV z u → SeqAt.EqAt A s u v (g z)) → ∀ u ∈ us, SeqAt.EqAt A s u v (g (vOf u))
  | _, _, .nil, _ => fun u hu => by cases hu
  | z :: xs, u :: us, .cons r t, h => fun w hw => by
    rcases List.mem_cons.mp hw with rfl | hw
    · rw [vOf_rel r]; exact h z (List.mem_cons_self ..) _ r
    · exact mem_vOf (x := x) t (fun z hz => h z (List.mem_cons_of_mem _ hz)) w hw
section
variable {X : Cx}
theorem op_inG (hu : X.A.units + 64 < cLine) : OpR X (compareOp .In) (rInG X.K false) := by
  intro pins s σ H x y v u Q I rx ry h
  obtain ⟨p, xs, g, rfl, hq, he, q⟩ := h
  cases ry
  have run : ∀ z ∈ xs, ∀ w, RelV z w → SeqAt.EqAt X.A.in1 s w v (g z) := fun z hz w rw' => EqI.run I (A := X.A.in1) (by show X.A.units + 1 + 60 < cLine; omega) (he z hz) rw' rx
  rcases hq with hq | hq
  · obtain ⟨its, r, pl, hz⟩ := I.list hq
    refine SeqAt.in_listAt (fun u => g (vOf u)) pl.isList (fun w hw => mem_vOf (x := x) r run w (by simpa using hw)) ⟨.bl _, H, I, rfl, ?_⟩
    rw [show its.toArray.any (fun u => g (vOf u)) = its.any (fun u => g (vOf u)) by simp, any_vOf g r]
    exact q
  · obtain ⟨its, r, pl, hz⟩ := I.tuple hq
    refine SeqAt.in_tupleAt (fun u => g (vOf u)) pl (fun w hw => mem_vOf (x := x) r run w (by simpa using hw)) ⟨.bl _, H, I, rfl, ?_⟩
    rw [show its.toArray.any (fun u => g (vOf u)) = its.any (fun u => g (vOf u)) by simp, any_vOf g r]
    exact q
theorem op_ninG (hu : X.A.units + 64 < cLine) : OpR X (compareOp .NotIn) (rInG X.K true) := by
  intro pins s σ H x y v u Q I rx ry h
  obtain ⟨p, xs, g, rfl, hq, he, q⟩ := h
  cases ry
  have run : ∀ z ∈ xs, ∀ w, RelV z w → SeqAt.EqAt X.A.in1 s w v (g z) := fun z hz w rw' => EqI.run I (A := X.A.in1) (by show X.A.units + 1 + 60 < cLine; omega) (he z hz) rw' rx
  rcases hq with hq | hq
  · obtain ⟨its, r, pl, hz⟩ := I.list hq
    refine SeqAt.notIn_listAt (fun u => g (vOf u)) pl.isList (fun w hw => mem_vOf (x := x) r run w (by simpa using hw)) ⟨.bl _, H, I, rfl, ?_⟩
    rw [show its.toArray.any (fun u => g (vOf u)) = its.any (fun u => g (vOf u)) by simp, any_vOf g r]
    exact q
  · obtain ⟨its, r, pl, hz⟩ := I.tuple hq
    refine SeqAt.notIn_tupleAt (fun u => g (vOf u)) pl (fun w hw => mem_vOf (x := x) r run w (by simpa using hw)) ⟨.bl _, H, I, rfl, ?_⟩
    rw [show its.toArray.any (fun u => g (vOf u)) = its.any (fun u => g (vOf u)) by simp, any_vOf g r]
    exact q
def rInDc : R2 := fun x y H Q => ∃ a o, y = .ref a ∧ DGet H a x o ∧ Q (.bl o.isSome) H
def rNinDc : R2 := fun x y H Q => ∃ a o, y = .ref a ∧ DGet H a x o ∧ Q (.bl (!o.isSome)) H
theorem op_inDc (hu : X.A.units + 64 < cLine) : OpR X (compareOp .In) rInDc := by
  intro pins s σ H x y v u Q I rx ry h
  obtain ⟨a, o, rfl, g, q⟩ := h
  cases ry
  exact d_in (by omega) I g rx fun s3 I3 => ⟨.bl o.isSome, H, I3, rfl, q⟩
theorem op_ninDc (hu : X.A.units + 64 < cLine) : OpR X (compareOp .NotIn) rNinDc := by
  intro pins s σ H x y v u Q I rx ry h
  obtain ⟨a, o, rfl, g, q⟩ := h
  cases ry
  exact d_notIn (by omega) I g rx fun s3 I3 => ⟨.bl (!o.isSome), H, I3, rfl, q⟩
def rInB (K : PySem.W.Frag) : R2 := fun x y H Q => rInA K x y H Q ∨ rInG K false x y H Q ∨ rInDc x y H Q
def rNinB (K : PySem.W.Frag) : R2 := fun x y H Q => rNinA K x y H Q ∨ rInG K true x y H Q ∨ rNinDc x y H Q
theorem op_inB (hu : X.A.units + 64 < cLine) : OpR X (compareOp .In) (rInB X.K) := op_inA.or ((op_inG hu).or (op_inDc hu))
theorem op_ninB (hu : X.A.units + 64 < cLine) : OpR X (compareOp .NotIn) (rNinB X.K) := op_ninA.or ((op_ninG hu).or (op_ninDc hu))
def rIxDc : R2 := fun x y H Q => ∃ a v, x = .ref a ∧ DGet H a y (some v) ∧ Q v H
theorem ix_Dc (hu : X.A.units + 64 < cLine) : IxR X rIxDc := by
  intro value slice pins s σ H x y v u Q I rx ry h hs
  obtain ⟨a, r, rfl, g, q⟩ := h
  obtain rfl : v = Value.ref a := rx
  exact tail_any (dict_typeIs I g) PySem.F.slot_dict_getitem.lookup (d_getItem (by omega) I g ry fun w' s3 I3 rw' => ⟨r, H, I3, rw', q⟩) hs
def rIxB (K : PySem.W.Frag) : R2 := fun x y H Q => rIx K x y H Q ∨ rIxDc x y H Q
theorem ix_B (hu : X.A.units + 64 < cLine) : IxR X (rIxB X.K) := ix_seq.or (ix_Dc hu)
def rSetB : TSet := fun o i v H Q => rSetL o i v H Q ∨ rSetD o i v H Q
theorem set_B (hu : X.A.units + 64 < cLine) : PSet X rSetB := by
  intro pins s σ H o i v ov iv u Q I ro ri rv h
  rcases h with h | h
  · exact set_list pins s σ H o i v ov iv u Q I ro ri rv h
  · exact set_dict (by omega) pins s σ H o i v ov iv u Q I ro ri rv h
/-! conversions -/
def rListA (K : PySem.W.Frag) : List V → Hp → VK → Prop := fun xs H Q => ∃ p ys, xs = [.ref p] ∧ (SqL K H p ys ∨ SqT K H p ys) ∧ ∀ l, H l = none → Q (.ref l) (upd H l (.lst ys))
theorem call_listA : CallR X (.type "list") (rListA X.K) := call_list_of
def rTupA (K : PySem.W.Frag) : List V → Hp → VK → Prop := fun xs H Q => ∃ p ys, xs = [.ref p] ∧ ((SqL K H p ys ∧ ∀ l, H l = none → Q (.ref l) (upd H l (.tup ys))) ∨ (SqT K H p ys ∧ Q (.ref p) H))
theorem call_tupA : CallR X (.type "tuple") (rTupA X.K) := call_tuple_of
def rIntA : List V → Hp → VK → Prop := fun xs H Q => (∃ i, xs = [.int i] ∧ Q (.int i) H) ∨ ∃ k, xs = [.bl k] ∧ Q (.int (if k then 1 else 0)) H
theorem call_intA : CallR X (.type "int") rIntA := call_int1
def rStrA : List V → Hp → VK → Prop := fun xs H Q => (∃ i, xs = [.int i] ∧ i.natAbs.log2 < 1920 ∧ Q (.str (toString i)) H) ∨ ∃ a, xs = [.str a] ∧ Q (.str a) H
theorem call_strA : CallR X (.type "str") rStrA := call_str_int.or SkE.call_str_str
/-! methods -/
def rPopA : V → List V → Hp → VK → Prop := fun x vs H Q => rPop x vs H Q ∨ rPopAt x vs H Q
theorem mt_popA : MtR X "list.pop" rPopA := MtR.or mt_pop mt_popAt
def rInsert : V → List V → Hp → VK → Prop := fun x vs H Q => ∃ (l : Addr) (xs : List V) (i : Int) (y : V), x = .ref l ∧ vs = [.int i, y] ∧ H l = some (.lst xs) ∧ xs.length < sizeLine ∧ 0 ≤ i ∧ i < 2 ^ 63 ∧
    Q .non (upd H l (.lst (xs.take i.toNat ++ [y] ++ xs.drop i.toNat)))
theorem mt_insertA : MtR X "list.insert" rInsert := mt_insert
def rDGet : V → List V → Hp → VK → Prop := fun x vs H Q => ∃ a, x = .ref a ∧ ((∃ y o, vs = [y] ∧ DGet H a y o ∧ Q (o.getD .non) H) ∨ ∃ y z o, vs = [y, z] ∧ DGet H a y o ∧ Q (o.getD z) H)
theorem mt_dget (hu : X.A.units + 64 < cLine) : MtR X "dict.get" rDGet := by
  intro pins s σ H x xs v us Q I rx rxs h
  obtain ⟨a, rfl, h | h⟩ := h
  · obtain ⟨y, o, rfl, g, q⟩ := h
    cases rx
    obtain ⟨u, rfl, ru⟩ := Vals.one rxs
    exact d_get1 (by omega) I g ru fun w' s3 I3 rw' => ⟨_, H, I3, rw', q⟩
  · obtain ⟨y, z, o, rfl, g, q⟩ := h
    cases rx
    obtain ⟨u1, u2, rfl, r1, r2⟩ := Vals.two rxs
    exact d_get2 (by omega) I g r1 r2 fun w' s3 I3 rw' => ⟨_, H, I3, rw', q⟩
end
/-! steps -/
section
variable {K : PySem.W.Frag} {σ : L2.St} {H : Hp} {Q : VK} {x y v : V}
theorem s_bm {T : String} {r : V → List V → Hp → VK → Prop} {to : TE} {t : TA} (h : to σ H fun x H1 => tyV K T x H1 ∧ t σ H1 fun xs H2 => r x xs H2 Q) : tBM K T r to t σ H Q := h
theorem s_bm0 {T : String} {r : V → List V → Hp → VK → Prop} {to : TE} (h : to σ H fun x H1 => tyV K T x H1 ∧ r x [] H1 Q) : tBM0 K T r to σ H Q := h
theorem s_tyS {z : Str} {A : Prop} (h : A) : tyV K "str" (.str z) H ∧ A := ⟨rfl, h⟩
theorem s_inB {x y : V} (h : rInA K x y H Q) : rInB K x y H Q := .inl h
theorem s_ninB {x y : V} (h : rNinA K x y H Q) : rNinB K x y H Q := .inl h
theorem s_inG {p : Addr} {xs : List V} (g : V → Bool) (h : H p = some (.lst xs) ∨ H p = some (.tup xs)) (e : ∀ z ∈ xs, EqI K H 60 z x (g z)) (q : Q (.bl (xs.any g)) H) : rInB K x (.ref p) H Q :=
  .inr (.inl ⟨p, xs, g, rfl, h.elim (fun h => .inl (SqL.of h)) (fun h => .inr (SqT.of h)), e, q⟩)
theorem s_ninG {p : Addr} {xs : List V} (g : V → Bool) (h : H p = some (.lst xs) ∨ H p = some (.tup xs)) (e : ∀ z ∈ xs, EqI K H 60 z x (g z)) (q : Q (.bl (!xs.any g)) H) : rNinB K x (.ref p) H Q :=
  .inr (.inl ⟨p, xs, g, rfl, h.elim (fun h => .inl (SqL.of h)) (fun h => .inr (SqT.of h)), e, q⟩)
theorem s_inF {p : Addr} {xs : List V} (h : H p = some (.lst xs) ∨ H p = some (.tup xs)) (fx : flatV x = true) (fs : xs.all flatV = true) (q : Q (.bl (inV x xs)) H) : rInB K x (.ref p) H Q :=
  .inl (.inr (.inl ⟨p, xs, rfl, h.elim (fun h => .inl (SqL.of h)) (fun h => .inr (SqT.of h)), fx, fs, q⟩))
theorem s_ninF {p : Addr} {xs : List V} (h : H p = some (.lst xs) ∨ H p = some (.tup xs)) (fx : flatV x = true) (fs : xs.all flatV = true) (q : Q (.bl (!inV x xs)) H) : rNinB K x (.ref p) H Q :=
  .inl (.inr (.inl ⟨p, xs, rfl, h.elim (fun h => .inl (SqL.of h)) (fun h => .inr (SqT.of h)), fx, fs, q⟩))
theorem s_in1B {c : Nat} {z : Str} (q : Q (.bl (decide (c ∈ z.cps.toList))) H) : rInB K (.str ⟨#[c]⟩) (.str z) H Q := .inl (s_in1 q)
theorem s_nin1B {c : Nat} {z : Str} (q : Q (.bl (!decide (c ∈ z.cps.toList))) H) : rNinB K (.str ⟨#[c]⟩) (.str z) H Q := .inl (s_nin1 q)
theorem s_inD {a : Addr} {kvs : List (Key × V)} {k : Key} (h : H a = some (.dK kvs)) (q : Q (.bl (valV kvs k).isSome) H) : rInB K (kV k) (.ref a) H Q := .inr (.inr ⟨a, _, rfl, DGet.k h, q⟩)
theorem s_ixB {x y : V} (h : rIx K x y H Q) : rIxB K x y H Q := .inl h
theorem s_ixD {a : Addr} {kvs : List (Key × V)} {k : Key} (h : H a = some (.dK kvs)) (e : valV kvs k = some v) (q : Q v H) : rIxB K (.ref a) (kV k) H Q := .inr ⟨a, v, rfl, e ▸ DGet.k h, q⟩
theorem s_listA {p : Addr} {xs : List V} (h : H p = some (.lst xs) ∨ H p = some (.tup xs)) (q : ∀ l, H l = none → Q (.ref l) (upd H l (.lst xs))) : rListA K [.ref p] H Q :=
  ⟨p, xs, rfl, h.elim (fun h => .inl (SqL.of h)) (fun h => .inr (SqT.of h)), q⟩
theorem s_tupL {p : Addr} {xs : List V} (h : H p = some (.lst xs)) (q : ∀ l, H l = none → Q (.ref l) (upd H l (.tup xs))) : rTupA K [.ref p] H Q := ⟨p, xs, rfl, .inl ⟨SqL.of h, q⟩⟩
theorem s_tupT {p : Addr} {xs : List V} (h : H p = some (.tup xs)) (q : Q (.ref p) H) : rTupA K [.ref p] H Q := ⟨p, xs, rfl, .inr ⟨SqT.of h, q⟩⟩
theorem s_intI {i : Int} (q : Q (.int i) H) : rIntA [.int i] H Q := .inl ⟨i, rfl, q⟩
theorem s_intB {b : Bool} (q : Q (.int (if b then 1 else 0)) H) : rIntA [.bl b] H Q := .inr ⟨b, rfl, q⟩
theorem s_strI {i : Int} (h : i.natAbs.log2 < 1920) (q : Q (.str (toString i)) H) : rStrA [.int i] H Q := .inl ⟨i, rfl, h, q⟩
theorem s_strS {z : Str} (q : Q (.str z) H) : rStrA [.str z] H Q := .inr ⟨z, rfl, q⟩
theorem s_tyL {p : Addr} {xs : List V} {A : Prop} (h : H p = some (.lst xs)) (q : A) : tyV K "list" (.ref p) H ∧ A := ⟨.inl ⟨rfl, xs, SqL.of h⟩, q⟩
theorem s_tyD {p : Addr} {kvs : List (Key × V)} {A : Prop} (h : H p = some (.dK kvs)) (q : A) : tyV K "dict" (.ref p) H ∧ A := ⟨.inr (.inr (.inl ⟨rfl, .inl ⟨kvs, h⟩⟩)), q⟩
theorem s_append {l : Addr} {xs : List V} (h : H l = some (.lst xs)) (hz : xs.length < sizeLine) (q : Q .non (upd H l (.lst (xs ++ [y])))) : rAppend (.ref l) [y] H Q := ⟨l, xs, y, rfl, rfl, h, hz, q⟩
theorem s_insert {l : Addr} {xs : List V} {i : Int} (h : H l = some (.lst xs)) (hz : xs.length < sizeLine) (h0 : 0 ≤ i) (h1 : i < 2 ^ 63) (q : Q .non (upd H l (.lst (xs.take i.toNat ++ [y] ++ xs.drop i.toNat)))) : rInsert (.ref l) [.int i, y] H Q :=
  ⟨l, xs, i, y, rfl, rfl, h, hz, h0, h1, q⟩
theorem s_popAt {l : Addr} {xs : List V} {i : Int} (h : H l = some (.lst xs)) (h0 : 0 ≤ i) (h1 : i < xs.length) (hz : xs.length ≤ 1000000) (q : ∀ y, y ∈ xs → xs[i.toNat]? = some y → Q y (upd H l (.lst (xs.eraseIdx i.toNat)))) : rPopA (.ref l) [.int i] H Q := by
  have hj : i.toNat < xs.length := by omega
  refine .inr ⟨l, xs, i, i.toNat, xs[i.toNat], rfl, rfl, h, by omega, by omega, ?_, by simp [hj], q _ (List.getElem_mem hj) (by simp [hj])⟩
  unfold seqIndex?
  first
    | (simp; omega)
    | (rw [if_neg (by omega)]; simp; omega)
theorem s_dget2 {a : Addr} {kvs : List (Key × V)} {k : Key} {z : V} (h : H a = some (.dK kvs)) (q : Q ((valV kvs k).getD z) H) : rDGet (.ref a) [kV k, z] H Q := ⟨a, rfl, .inr ⟨_, z, _, rfl, DGet.k h, q⟩⟩
theorem s_setBL {p : Addr} {k : Int} {xs : List V} {j : Nat} {R : Hp → Prop} (h : H p = some (.lst xs)) (hj : ixN xs.length k = some j) (q : R (upd H p (.lst (xs.set j v)))) : rSetB (.ref p) (.int k) v H R := .inl (s_setL h hj q)
theorem s_setBD {p : Addr} {kvs : List (Key × V)} {k : Key} {R : Hp → Prop} (h : H p = some (.dK kvs)) (hl : kvs.length < sizeLine) (q : R (upd H p (.dK (putK kvs k v)))) : rSetB (.ref p) (kV k) v H R := .inr ⟨p, _, rfl, .inl ⟨kvs, k, h, rfl, hl, rfl⟩, q⟩
theorem s_gStar {n i : Nat} {gs : TGs} {a : Addr} {xs : List V} {R : L2.St → Hp → Prop} (h : H a = some (.tup xs) ∨ H a = some (.lst xs)) (hn : n ≤ xs.length + 1) (hz : xs.length ≤ 16384)
    (q : ∀ D, H D = none → gs (xs.take i ++ [.ref D] ++ (xs.drop i).drop (xs.length + 1 - n)) σ (upd H D (.lst ((xs.drop i).take (xs.length + 1 - n)))) R) : gStar K n i gs (.ref a) σ H R :=
  ⟨a, xs, rfl, h.elim (fun h => .inl (SqT.of h)) (fun h => .inr (SqL.of h)), hn, hz, q⟩
theorem s_orT {ta tb : TE} (h : ta σ H fun x H1 => ∃ k, TruV K x H1 k ∧ if k = true then Q x H1 else tb σ H1 Q) : tOrT K ta tb σ H Q := h
theorem tru_tup {p : Addr} {xs : List V} (h : H p = some (.tup xs)) : TruV K (.ref p) H (!xs.isEmpty) := .inr (.inl ⟨xs, SqT.of h, rfl⟩)
theorem tru_lst {p : Addr} {xs : List V} (h : H p = some (.lst xs)) : TruV K (.ref p) H (!xs.isEmpty) := .inl ⟨xs, SqL.of h, rfl⟩
end
end Z
namespace Z
open PySem PySem.Spec PyProof.Rows L2 Evl
section
variable {K : PySem.W.Frag} {H : Hp} {Q : VK}
theorem cutV_take (xs : List V) {m : Int} (h : 0 ≤ m) : cutV xs none (some m) = xs.take m.toNat := by
  have e1 : HT.sIx xs.length 0 none = 0 := rfl
  have e2 : HT.sIx xs.length xs.length (some m) = min m.toNat xs.length := by
    unfold HT.sIx
    show (if m < 0 then _ else _) = _
    rw [if_neg (by omega)]
  unfold cutV
  rw [e1, e2, List.drop_zero, Nat.sub_zero]
  rcases Nat.le_total m.toNat xs.length with q | q
  · rw [Nat.min_eq_left q]
  · rw [Nat.min_eq_right q, List.take_length, List.take_of_length_le q]
theorem cutV_drop (xs : List V) {m : Int} (h : 0 ≤ m) : cutV xs (some m) none = xs.drop m.toNat := by
  have e1 : HT.sIx xs.length xs.length none = xs.length := rfl
  have e2 : HT.sIx xs.length 0 (some m) = min m.toNat xs.length := by
    unfold HT.sIx
    show (if m < 0 then _ else _) = _
    rw [if_neg (by omega)]
  unfold cutV
  rw [e1, e2]
  rcases Nat.le_total m.toNat xs.length with q | q
  · rw [Nat.min_eq_left q, List.take_of_length_le (by rw [List.length_drop]; omega)]
  · rw [Nat.min_eq_right q, List.drop_length, List.drop_of_length_le q]
    simp
theorem s_slL {a : Addr} {xs : List V} {lo hi : Option Int} (h : H a = some (.lst xs)) (q : ∀ p, H p = none → Q (.ref p) (upd H p (.lst (cutV xs lo hi)))) : Z.rSlA K (.ref a) lo hi H Q := .inr (.inl ⟨a, xs, rfl, SqL.of h, q⟩)
theorem s_slT {a : Addr} {xs : List V} {lo hi : Option Int} (h : H a = some (.tup xs)) (q0 : HT.sIx xs.length 0 lo = 0 ∧ HT.sIx xs.length xs.length hi = xs.length → Q (.ref a) H)
    (q : ¬ (HT.sIx xs.length 0 lo = 0 ∧ HT.sIx xs.length xs.length hi = xs.length) → ∀ p, H p = none → Q (.ref p) (upd H p (.tup (cutV xs lo hi)))) : Z.rSlA K (.ref a) lo hi H Q := .inr (.inr ⟨a, xs, rfl, SqT.of h, q0, q⟩)
end
end Z
namespace Z
open PySem PySem.Spec PyProof.Rows L2 Evl
theorem s_par3 {i j l : Nat} {t : TA} {D : Ends} {σ : L2.St} {H : Hp} (h : t σ H fun vs H1 => ∃ u v w, vs = [u, v, w] ∧ D.nx (((σ.set i (some u)).set j (some v)).set l (some w)) H1) : tPar3 i j l t D σ H := h
end Z
namespace Z
open PySem PySem.Spec PyProof.Rows L2 Evl
/-! dicts of the module, keys texts -/
def rIxK (K : PySem.W.Frag) (d : Addr) : R2 := fun x y H Q => ∃ (z : Str) (u0 : Value) (v0 : V), x = .ref d ∧ y = .str z ∧ PySem.W.nsIn K d z = some (some u0) ∧ RelV v0 u0 ∧ Q v0 H
def rInK (K : PySem.W.Frag) (d : Addr) : R2 := fun x y H Q => ∃ (z : Str) (r : Option Value), x = .str z ∧ y = .ref d ∧ PySem.W.nsIn K d z = some r ∧ Q (.bl r.isSome) H
def rNinK (K : PySem.W.Frag) (d : Addr) : R2 := fun x y H Q => ∃ (z : Str) (r : Option Value), x = .str z ∧ y = .ref d ∧ PySem.W.nsIn K d z = some r ∧ Q (.bl (!r.isSome)) H
section
variable {X : Cx} {d : Addr}
theorem ix_K (D : ∃ es n, KDict X.K X.w d es n) : IxR X (rIxK X.K d) := by
  obtain ⟨es, n, D⟩ := D
  intro value slice pins s σ H x y v u Q I rx ry h hs
  obtain ⟨z, u0, v0, rfl, rfl, e, r, q⟩ := h
  have rr := rx
  cases rx
  exact tail_any (kd_type D I) PySem.F.slot_dict_getitem.lookup (op_item_kd D pins s σ H _ _ _ u Q I rr ry ⟨z, u0, v0, rfl, rfl, e, r, q⟩) hs
theorem op_inK (D : ∃ es n, KDict X.K X.w d es n) : OpR X (compareOp .In) (rInK X.K d) := by
  obtain ⟨es, n, D⟩ := D
  exact op_in_kd D
theorem op_ninK (D : ∃ es n, KDict X.K X.w d es n) : OpR X (compareOp .NotIn) (rNinK X.K d) := by
  obtain ⟨es, n, D⟩ := D
  exact op_notIn_kd D
end
end Z

/-! L6: methods and len of dicts that may be locked -/
namespace Z
open PySem PySem.Spec PyProof.Rows L2 Evl
def tyW (K : PySem.W.Frag) (T : String) (x : V) (H : Hp) : Prop := tyV K T x H ∨ ∃ p kvs, T = "dict" ∧ x = .ref p ∧ Rd H p (.dK kvs)
theorem tyW_is {X : Cx} {pins : List (Addr × Obj)} {σ : L2.St} {H : Hp} {s : Shared} {T : String} {x : V} {v : Value} (I : Inv X pins σ H s) (r : RelV x v) (ty : tyW X.K T x H) :
    s.TypeIs v T ∧ ∀ a, v = .ref a → ∃ ob, s.heap.get? a = some ob ∧ ob.dict = none := by
  rcases ty with ty | ⟨p, kvs, rfl, rfl, h⟩
  · exact tyV_is I r ty
  · cases r
    obtain ⟨_, _, vs, _, dd⟩ := dk_rd I.hok h
    refine ⟨dd.typeIs, fun a e => ?_⟩
    cases e
    obtain ⟨ob, _, _, h1, h2, _⟩ := dd
    exact ⟨ob, h1, h2.2.1⟩
def tBM0W (K : PySem.W.Frag) (T : String) (r : V → List V → Hp → VK → Prop) (to : TE) : TE := fun σ H Q => to σ H fun x H1 => tyW K T x H1 ∧ r x [] H1 Q
def tBMW (K : PySem.W.Frag) (T : String) (r : V → List V → Hp → VK → Prop) (to : TE) (t : TA) : TE := fun σ H Q => to σ H fun x H1 => tyW K T x H1 ∧ t σ H1 fun xs H2 => r x xs H2 Q
section
variable {X : Cx} {o e : Expr} {es : List Expr} {to : TE} {t : TA} {name : Str} {apos cpos : Pos} {T id : String} {r : V → List V → Hp → VK → Prop}
theorem pe_bm0W (pa : PlainAttrs T) (slot : Slot T name id) (hty : typeOf (.builtin id) = pure (.type "method_descriptor")) (hm : MtR X id r) (ho : PE X o to)
    (hbase : attributeBase o name X.env (eval o X.env) = eval o X.env := by rfl) (hline : (apos.endLine == cpos.line) = true := by rfl) : PE X (.Call (.Attribute o name apos) [] [] cpos) (tBM0W X.K T r to) := by
  refine ⟨fun pins s σ H Q I h => ?_⟩
  refine wpAny_Call_method0_late hbase hline (thn (ho.run pins s σ H _ I h) fun v s1 ⟨x, H1, I1, r1, ty, q1⟩ => ?_)
  obtain ⟨h1, h2⟩ := tyW_is I1 r1 ty
  exact ⟨T, id, pa, slot, hty, h1, h2, Calls.callWith_builtin rfl (PySem.evalArgs_none (hm pins s1 σ H1 x [] v [] Q I1 r1 .nil q1))⟩
theorem pe_bmW (pa : PlainAttrs T) (slot : Slot T name id) (hty : typeOf (.builtin id) = pure (.type "method_descriptor")) (hm : MtR X id r) (ho : PE X o to) (ha : PA X (e :: es) t)
    (hbase : attributeBase o name X.env (eval o X.env) = eval o X.env := by rfl)
    (hfew : ((backTo cpos (starEach (e :: es) X.env)).all (fun x => !x.1) && (backToKw cpos (keywordEach [] X.env)).all (fun x => x.1.isSome)
      && decide ((e :: es).length + ([] : List Keyword).length + (if ([] : List Keyword).isEmpty then 0 else 1) < 30)) = true := by rfl)
    (hline : (apos.endLine == cpos.line) = true := by rfl) (hs : starEach (e :: es) X.env = (false, eval e X.env) :: starEach es X.env := by rfl) (hplain : (backTo cpos (starEach es X.env)).any (·.1) = false := by rfl) :
    PE X (.Call (.Attribute o name apos) (e :: es) [] cpos) (tBMW X.K T r to t) := by
  refine ⟨fun pins s σ H Q I h => ?_⟩
  refine wpAny_Call_method_late hbase hfew hline rfl (thn (ho.run pins s σ H _ I h) fun v s1 ⟨x, H1, I1, r1, ty, q1⟩ => ?_)
  obtain ⟨h1, h2⟩ := tyW_is I1 r1 ty
  refine ⟨T, id, pa, slot, hty, h1, h2, ?_⟩
  have hA := ha.run cpos pins s1 σ H1 _ I1 q1
  rw [hs] at hA ⊢
  refine Calls.callWith_builtin (by show (false || (backTo cpos (starEach es X.env)).any (·.1)) = false; rw [hplain] <;> rfl) (Calls.evalArgs_plain ?_)
  exact thn hA fun us s2 ⟨vs, H2, I2, r2, q2⟩ => hm pins s2 σ H2 x vs v us Q I2 r1 r2 q2
def rLenB (K : PySem.W.Frag) : List V → Hp → VK → Prop := fun xs H Q => rLenA K xs H Q ∨ ∃ a kvs, xs = [V.ref a] ∧ Rd H a (.dK kvs) ∧ Q (.int kvs.length) H
theorem call_lenDR : CallR X (.builtin "len") (fun xs H Q => ∃ a kvs, xs = [V.ref a] ∧ Rd H a (.dK kvs) ∧ Q (.int kvs.length) H) := by
  intro pins s σ H xs us Q I r h
  obtain ⟨a, kvs, rfl, ha, q⟩ := h
  obtain ⟨u, rfl, ru⟩ := vals1 r
  cases ru
  exact d_len I ha fun t s' I' => ⟨.int kvs.length, H, I', ⟨t, rfl⟩, q⟩
theorem call_lenB : CallR X (.builtin "len") (rLenB X.K) := call_lenA.or call_lenDR
end
end Z

namespace Z
open PySem PySem.Spec PyProof.Rows L2 Evl
/-- what a for walks: a list, a tuple, a text, told behind the expression -/
def iSeq (K : PySem.W.Frag) (te : TE) : TI := fun σ H R => te σ H fun x H1 => (∃ a, x = .ref a ∧ (∃ xs, SqL K H1 a xs) ∧ R (Itl K a) H1) ∨ (∃ a, x = .ref a ∧ (∃ xs, SqT K H1 a xs) ∧ R (Itt K a) H1) ∨ ∃ z, x = .str z ∧ R (Its z) H1
theorem pi_seq {X : Cx} {tg l : Expr} {tl : TE} (hl : PE X l tl) : PI X tg l (iSeq X.K tl) := by
  refine ⟨fun pins s σ H R I h => ?_⟩
  refine thn (hl.run pins s σ H _ I h) fun v s1 ⟨x, H1, I1, r1, q1⟩ => ?_
  rcases q1 with ⟨a, e, ⟨xs, hq⟩, q⟩ | ⟨a, e, ⟨xs, hq⟩, q⟩ | ⟨z, e, q⟩
  · subst e
    cases r1
    obtain ⟨its, rv, p, hz⟩ := I1.list hq
    refine wpAny_pyIter_list p.isList ?_
    refine ⟨s1.heap.objs.size, [s1.heap.objs.size], _, _, H1, rfl, I1.kept (t' := s1.toks) fun b o e => Heap.get?_push_of_some _ e, turn_list a _, ⟨_, Heap.get?_push_size _ rfl, rfl, rfl⟩, fun b hb => ?_, q⟩
    have e : b = s1.heap.objs.size := by simpa using hb
    subst e
    exact I1.fpOk (Nat.le_refl _) (I1.hok.fresh (Nat.le_refl _))
  · subst e
    cases r1
    obtain ⟨its, rv, p, hz⟩ := I1.tuple hq
    refine wpAny_pyIter_tuple (show s1.heap.IsTuple a its.toArray from p) ?_
    refine ⟨s1.heap.objs.size, [s1.heap.objs.size], _, _, H1, rfl, I1.kept (t' := s1.toks) fun b o e => Heap.get?_push_of_some _ e, turn_tuple a _, ⟨_, Heap.get?_push_size _ rfl, rfl, rfl⟩, fun b hb => ?_, q⟩
    have e : b = s1.heap.objs.size := by simpa using hb
    subst e
    exact I1.fpOk (Nat.le_refl _) (I1.hok.fresh (Nat.le_refl _))
  · subst e
    obtain ⟨t, rfl⟩ := r1
    cases ha : z.cps.all (· < 128)
    · exact wpAny_pyIter_wide ha (pi_one (tk := s1.toks) I1 _ (turn_str _ z t "str_iterator" (.inr rfl)) ⟨_, Heap.get?_push_size _ rfl, rfl, rfl⟩ q)
    · exact wpAny_pyIter_ascii ha (pi_one (tk := s1.toks) I1 _ (turn_str _ z t "str_ascii_iterator" (.inl rfl)) ⟨_, Heap.get?_push_size _ rfl, rfl, rfl⟩ q)
end Z

/-! L7: list.count, list.index at any depth -/
namespace Z
open PySem PySem.Spec PyProof.Rows L2 Evl
theorem count_vOf (g : V → Bool) : ∀ {xs : List V} {us : List Value}, Vals xs us → us.countP (fun u => g (vOf u)) = xs.countP g
  | _, _, .nil => rfl
  | _, _, .cons r t => by rw [List.countP_cons, List.countP_cons, vOf_rel r, count_vOf g t]
theorem find_vOf (g : V → Bool) : ∀ {xs : List V} {us : List Value}, Vals xs us → us.findIdx? (fun u => g (vOf u)) = xs.findIdx? g
  | _, _, .nil => rfl
  | _, _, .cons r t => by rw [List.findIdx?_cons, List.findIdx?_cons, vOf_rel r, find_vOf g t]
section
variable {X : Cx}
def rCountG (K : PySem.W.Frag) : V → List V → Hp → VK → Prop := fun x xs H Q => ∃ (p : Addr) (ys : List V) (y : V) (g : V → Bool), x = .ref p ∧ xs = [y] ∧ SqL K H p ys ∧ (∀ z ∈ ys, EqI K H 60 z y (g z)) ∧ Q (.int (ys.countP g : Nat)) H
theorem mt_countG (hu : X.A.units + 64 < cLine) : MtR X "list.count" (rCountG X.K) := by
  intro pins s σ H x xs v us Q I rx rxs h
  obtain ⟨p, ys, y, g, rfl, rfl, hs, he, q⟩ := h
  cases rx
  obtain ⟨u, rfl, ru⟩ := rxs.one
  obtain ⟨its, rv, ⟨⟨cls, dd, data, sl⟩, n, ho, hc, hdn, hd⟩, hlen⟩ := I.list hs
  simp only at hc hd
  subst hc hd
  refine call_meets PySem.F.slot_list_count ⟨_, ho, rfl⟩ PySem.F.entry_list_count (PySem.F.args_list_count_2 _ _)
    (SeqAt.list_countAt p its.toArray n dd sl u (fun w => g (vOf w))) ⟨ho, fun w hw => mem_vOf (x := y) rv (fun z hz w rw' => EqI.run I (by show X.A.units + 1 + 60 < cLine; omega) (he z hz) rw' ru) w (by simpa using hw), ?_⟩
  refine ⟨.int (ys.countP g : Nat), H, I.tok _, ⟨s.toks, ?_⟩, q⟩
  show Value.int ((its.toArray.toList.countP _ : Nat) : Int) s.toks = Value.int ((ys.countP g : Nat) : Int) s.toks
  rw [← count_vOf g rv]
def rIndexG (K : PySem.W.Frag) : V → List V → Hp → VK → Prop := fun x xs H Q => ∃ (p : Addr) (ys : List V) (y : V) (g : V → Bool) (j : Nat), x = .ref p ∧ xs = [y] ∧ SqL K H p ys ∧ (∀ z ∈ ys, EqI K H 60 z y (g z)) ∧ ys.findIdx? g = some j ∧ Q (.int (j : Nat)) H
theorem mt_indexG (hu : X.A.units + 64 < cLine) : MtR X "list.index" (rIndexG X.K) := by
  intro pins s σ H x xs v us Q I rx rxs h
  obtain ⟨p, ys, y, g, j, rfl, rfl, hs, he, hj, q⟩ := h
  cases rx
  obtain ⟨u, rfl, ru⟩ := rxs.one
  obtain ⟨its, rv, ⟨⟨cls, dd, data, sl⟩, n, ho, hc, hdn, hd⟩, hlen⟩ := I.list hs
  simp only at hc hd
  subst hc hd
  rw [← find_vOf g rv] at hj
  have hj := hj
  rw [List.findIdx?_eq_some_iff_getElem] at hj
  obtain ⟨hjl, h1, h2⟩ := hj
  have hsl := sizeLine_eq
  have hvl := rv.length
  refine call_meets PySem.F.slot_list_index ⟨_, ho, rfl⟩ PySem.F.entry_list_index (PySem.F.args_list_index_2 _ _)
    (SeqAt.list_indexAt p its.toArray n dd sl u (fun w => g (vOf w)) j (by simpa using hjl) (by omega) (by simpa using h1) (fun m hm hmj => by
      have := h2 m hmj
      simpa using this)) ⟨ho, fun w hw => mem_vOf (x := y) rv (fun z hz w rw' => EqI.run I (by show X.A.units + 1 + 60 < cLine; omega) (he z hz) rw' ru) w (by simpa using hw), ?_⟩
  exact ⟨.int (j : Nat), H, I.tok _, ⟨_, rfl⟩, q⟩
end
end Z

/-! L8: own classes: methods by places and keywords, new instances, properties, len, ==, in, str of instances -/
namespace Z
open PySem PySem.Spec PyProof.Rows L2 Evl
/-- a method of a class as it is called: n positional values behind the object, the keywords ks, the defaults dvs; pm: the parameters' order -/
structure FokM (P : Program) (w : World) (K : PySem.W.Frag) (mg : Str → Option Value) (base : Heap) (CX : CXT) (k : Nat) (C m : Str) (ps : List Str) (sp : Sp) (n : Nat) (ks : List Str) (dvs : List V) (pm : List Nat) : Prop where
  ex : ∃ fd ds, Vals dvs ds ∧ FnOk P w K mg base CX k (He.ma K (He.ga K C) m) fd ps sp ∧ ∀ (s : Shared) (us ws : List Value), K.In s.heap → us.length = n + 1 → ws.length = ks.length → BindsTo s fd ⟨us, ks.zip ws⟩ (ps.zip (perm pm (us ++ ws ++ ds)))
/-- o.m(e, .., k = v, ..) -/
def tMethP (K : PySem.W.Frag) (C m : Str) (pm : List Nat) (n mm : Nat) (sp : Sp) (dvs : List V) (E : L2.St → XK) (ta : TE) (t tk : TA) : TE := fun σ H Q => ta σ H fun x H1 => ∃ a dx fs, x = .ref a ∧ H1 a = some (.ins (He.ga K C) dx fs) ∧ fs.lookup m = none ∧
  t σ H1 fun vs H2 => tk σ H2 fun zs H3 => vs.length = n ∧ zs.length = mm ∧ sp (perm pm ((x :: vs) ++ zs ++ dvs)) H3 Q (E σ)
section
variable {X : Cx} {CX : CXT} {k n : Nat} {ps ks : List Str} {sp : Sp} {E : L2.St → XK} {C m : Str} {p pos apos : Pos} {o e : Expr} {es : List Expr} {kws : List Keyword} {ta : TE} {t tk : TA} {pm : List Nat} {dvs : List V}
theorem run_fnM {pins : List (Addr × Obj)} {σ : L2.St} {H : Hp} {s : Shared} {Q : VK} {a : Addr} {us ws : List Value} {vs zs : List V} (F : FokM X.prog X.w X.K X.mg X.base CX k C m ps sp n ks dvs pm) (hr : Room k X.A) (hx : PassesAt CX X σ (E σ))
    (I : Inv X pins σ H s) (r : Vals vs us) (rz : Vals zs ws) (l1 : vs.length = n) (l2 : zs.length = ks.length) (h : sp (perm pm ((V.ref a :: vs) ++ zs ++ dvs)) H Q (E σ)) : wpAny (model X.prog X.w) X.A (call (.ref (He.ma X.K (He.ga X.K C) m)) (Value.ref a :: us) (ks.zip ws)) (EP X pins σ Q) X.xe s := by
  obtain ⟨fd, ds, rd, F1, b⟩ := F.ex
  have r1 : Vals (V.ref a :: vs) (Value.ref a :: us) := .cons rfl r
  have n1 : (Value.ref a :: us).length = n + 1 := by rw [List.length_cons, ← r.length, l1]
  refine wpAny_call (codeAny_mono (F1.run X.A X.stack s H ⟨Value.ref a :: us, ks.zip ws⟩ (perm pm ((Value.ref a :: us) ++ ws ++ ds)) (perm pm ((V.ref a :: vs) ++ zs ++ dvs)) Q (E σ) hr I.env0 (b s _ ws I.kIn n1 (rz.length.symm.trans l2)) (perm_rel ((r1.append rz).append rd) pm) h) fun r s' hq => ?_)
  cases r with
  | error e => exact hx pins H s e s' I hq
  | ok fl =>
    cases fl with
    | ret u => exact I.after hq
    | next => exact False.elim hq
    | brk => exact False.elim hq
    | cont => exact False.elim hq
theorem pe_methP {pl : Sem Bool} (he : PE X o ta) (c : Cls X.K (He.ga X.K C)) (hm : Meth X.K (He.ga X.K C) m (He.ma X.K (He.ga X.K C) m)) (F : FokM X.prog X.w X.K X.mg X.base CX k C m ps sp n ks dvs pm) (hr : Room k X.A) (hx : ∀ σ, PassesAt CX X σ (E σ))
    (ha : PA X (e :: es) t) (hkw : PK X kws tk) (hall : (backToKw pos (keywordEach kws X.env)).all (·.1.isSome) = true := by rfl) (hks : (backToKw pos (keywordEach kws X.env)).filterMap (·.1) = ks := by rfl)
    (hst : starEach (e :: es) X.env = (false, eval e X.env) :: starEach es X.env := by rfl)
    (hpl : ((backTo pos (starEach (e :: es) X.env)).any (·.1) || (backToKw pos (keywordEach kws X.env)).any (·.1.isNone)) = false := by rfl)
    (ht : eval (.Call (.Attribute o m apos) (e :: es) kws pos) X.env = (do
      let ov ← eval o X.env
      standAt apos.atName
      let (f, first) ← holding [ov] (getMethod ov m pl)
      callWith pos f first (backTo pos (starEach (e :: es) X.env)) (backToKw pos (keywordEach kws X.env))) := by rfl) {mm : Nat} (hmm : ks.length = mm := by rfl) :
    PE X (.Call (.Attribute o m apos) (e :: es) kws pos) (tMethP X.K C m pm n mm sp dvs E ta t tk) := by
  subst hmm
  refine ⟨fun pins s σ H Q I h => ?_⟩
  refine PySem.W.methodCall_KW (pl := pl) (thn (he.run pins s σ H _ I h) fun u s1 ⟨x, H1, I1, rx, a, dx, fs, ex, ea, l, q⟩ => ?_) ht
  subst ex
  obtain rfl : u = Value.ref a := rx
  refine getmeth_ok I1 ea c hm l ?_
  refine PySem.W.callWith_KW (first := [.ref a]) (h₀ := X.base) I.ok.mod.kin hm.kp hall (thn (ha.run pos pins s1 σ H1 _ I1 q) fun us s2 ⟨vs, H2, I2, r, q2⟩ => ?_) hpl hst
  refine thn (hkw.run pos pins s2 σ H2 _ I2 q2) fun ws s3 ⟨zs, H3, I3, rz, l1, l2, q3⟩ => ⟨I3.kIn, ?_⟩
  rw [hks]
  exact run_fnM F hr (hx σ) I3 r rz l1 l2 q3
/-- o.m(k = v, ..), o.m() -/
theorem pe_methP0 {pl : Sem Bool} (he : PE X o ta) (c : Cls X.K (He.ga X.K C)) (hm : Meth X.K (He.ga X.K C) m (He.ma X.K (He.ga X.K C) m)) (F : FokM X.prog X.w X.K X.mg X.base CX k C m ps sp 0 ks dvs pm) (hr : Room k X.A) (hx : ∀ σ, PassesAt CX X σ (E σ))
    (hkw : PK X kws tk) (hall : (backToKw pos (keywordEach kws X.env)).all (·.1.isSome) = true := by rfl) (hks : (backToKw pos (keywordEach kws X.env)).filterMap (·.1) = ks := by rfl)
    (hpl : ((backTo pos (starEach [] X.env)).any (·.1) || (backToKw pos (keywordEach kws X.env)).any (·.1.isNone)) = false := by rfl)
    (ht : eval (.Call (.Attribute o m apos) [] kws pos) X.env = (do
      let ov ← eval o X.env
      standAt apos.atName
      let (f, first) ← holding [ov] (getMethod ov m pl)
      callWith pos f first (backTo pos (starEach [] X.env)) (backToKw pos (keywordEach kws X.env))) := by rfl) {mm : Nat} (hmm : ks.length = mm := by rfl) :
    PE X (.Call (.Attribute o m apos) [] kws pos) (tMethP X.K C m pm 0 mm sp dvs E ta tNil tk) := by
  subst hmm
  refine ⟨fun pins s σ H Q I h => ?_⟩
  refine PySem.W.methodCall_KW (pl := pl) (thn (he.run pins s σ H _ I h) fun u s1 ⟨x, H1, I1, rx, a, dx, fs, ex, ea, l, q⟩ => ?_) ht
  subst ex
  obtain rfl : u = Value.ref a := rx
  refine getmeth_ok I1 ea c hm l ?_
  refine PySem.W.callWith_KW0 (first := [.ref a]) (h₀ := X.base) I.ok.mod.kin hm.kp hall ?_ hpl
  have q' : tk σ H1 fun zs H3 => ([] : List V).length = 0 ∧ zs.length = ks.length ∧ sp (perm pm ((V.ref a :: []) ++ zs ++ dvs)) H3 Q (E σ) := q
  refine thn (hkw.run pos pins s1 σ H1 _ I1 q') fun ws s3 ⟨zs, H3, I3, rz, l1, l2, q3⟩ => ⟨I3.kIn, ?_⟩
  rw [hks]
  exact run_fnM F hr (hx σ) I3 .nil rz l1 l2 q3
/-! ### new instances -/
/-- C(e, .., k = v, ..) -/
def tMakeP (K : PySem.W.Frag) (C : Str) (pm : List Nat) (n mm : Nat) (sp : Sp) (dvs : List V) (E : L2.St → XK) (t tk : TA) : TE := fun σ H Q => t σ H fun vs H1 => tk σ H1 fun zs H2 => vs.length = n ∧ zs.length = mm ∧ ∀ x dx, H2 x = none → H2 dx = none → dx ≠ x →
  sp (perm pm ((.ref x :: vs) ++ zs ++ dvs)) (upd (upd H2 dx (.own x)) x (.ins (He.ga K C) dx [])) (fun v H3 => v = .non ∧ Q (.ref x) H3) (E σ)
theorem run_makeP {pins : List (Addr × Obj)} {σ : L2.St} {H : Hp} {s : Shared} {Q : VK} {us ws : List Value} {vs zs : List V} (M : Mk X.K (He.ga X.K C) (He.ma X.K (He.ga X.K C) "__init__")) (F : FokM X.prog X.w X.K X.mg X.base CX k C "__init__" ps sp n ks dvs pm) (hr : Room (k + 1) X.A) (hx : PassesAt CX X σ (E σ))
    (I : Inv X pins σ H s) (r : Vals vs us) (rz : Vals zs ws) (l1 : vs.length = n) (l2 : zs.length = ks.length)
    (h : ∀ x dx, H x = none → H dx = none → dx ≠ x → sp (perm pm ((V.ref x :: vs) ++ zs ++ dvs)) (upd (upd H dx (.own x)) x (.ins (He.ga X.K C) dx [])) (fun v H2 => v = .non ∧ Q (.ref x) H2) (E σ)) :
    wpAny (model X.prog X.w) X.A (call (.ref (He.ga X.K C)) us (ks.zip ws)) (EP X pins σ Q) X.xe s := by
  obtain ⟨fd, ds, rd, F1, b⟩ := F.ex
  have hq := h (s.heap.objs.size + 1) s.heap.objs.size (I.hok.fresh (Nat.le_succ _)) (I.hok.fresh (Nat.le_refl _)) (Nat.ne_of_lt (Nat.lt_succ_self _))
  have I2 := Inv.made (C := He.ga X.K C) I
  have r1 : Vals (V.ref (s.heap.objs.size + 1) :: vs) (Value.ref (s.heap.objs.size + 1) :: us) := .cons rfl r
  have n1 : (Value.ref (s.heap.objs.size + 1) :: us).length = n + 1 := by
    rw [List.length_cons, ← r.length, l1]
  refine wpAny_call (make_map (f := He.ma X.K (He.ga X.K C) "__init__") I.kIn M.makes M.init (beq_iff_eq.mp M.fn) (codeAny_mono (F1.run _ X.stack _ _ ⟨Value.ref (s.heap.objs.size + 1) :: us, ks.zip ws⟩ (perm pm ((Value.ref (s.heap.objs.size + 1) :: us) ++ ws ++ ds)) _ _ (E σ) (hr.make (He.ga X.K C) us (ks.zip ws))
    (I2.env0.make (He.ga X.K C) us (ks.zip ws)) (b _ _ ws I2.kIn n1 (rz.length.symm.trans l2)) (perm_rel ((r1.append rz).append rd) pm) hq) fun r s' hq' => ?_))
  cases r with
  | error e => exact hx pins _ _ e s' I2 hq'
  | ok fl =>
    cases fl with
    | ret u =>
      obtain ⟨v, H', I3, rv, ev, q3⟩ := I2.after hq'
      subst ev
      exact ⟨rv, ⟨V.ref (s.heap.objs.size + 1), H', I3, rfl, q3⟩⟩
    | next => exact False.elim hq'
    | brk => exact False.elim hq'
    | cont => exact False.elim hq'
theorem pe_makeP0 (M : Mk X.K (He.ga X.K C) (He.ma X.K (He.ga X.K C) "__init__")) (F : FokM X.prog X.w X.K X.mg X.base CX k C "__init__" ps sp 0 ks dvs pm) (hr : Room (k + 1) X.A) (hg : Gl X C) (hm : X.mg C = some (.ref (He.ga X.K C))) (hx : ∀ σ, PassesAt CX X σ (E σ)) (hkw : PK X kws tk)
    (hall : (backToKw pos (keywordEach kws X.env)).all (·.1.isSome) = true := by rfl) (hks : (backToKw pos (keywordEach kws X.env)).filterMap (·.1) = ks := by rfl) (hdb : (C == ("__debug__" : Str)) = false := by decide)
    (hpl : ((backTo pos (starEach [] X.env)).any (·.1) || (backToKw pos (keywordEach kws X.env)).any (·.1.isNone)) = false := by rfl) {mm : Nat} (hmm : ks.length = mm := by rfl) :
    PE X (.Call (.Name C p) [] kws pos) (tMakeP X.K C pm 0 mm sp dvs E tNil tk) := by
  subst hmm
  refine ⟨fun pins s σ H Q I h => ?_⟩
  refine wpAny_Call_Name_kw (ld_glob I hg hm ?_ hdb)
  refine PySem.W.callWith_KW0 (h₀ := X.base) I.ok.mod.kin M.kp hall ?_ hpl
  refine thn (hkw.run pos pins s σ H _ I h) fun ws s2 ⟨zs, H2, I2, rz, l1, l2, q2⟩ => ⟨I2.kIn, ?_⟩
  rw [hks]
  exact run_makeP (us := []) (vs := []) M F hr (hx σ) I2 .nil rz rfl l2 q2
theorem pe_makeP (M : Mk X.K (He.ga X.K C) (He.ma X.K (He.ga X.K C) "__init__")) (F : FokM X.prog X.w X.K X.mg X.base CX k C "__init__" ps sp n ks dvs pm) (hr : Room (k + 1) X.A) (hg : Gl X C) (hm : X.mg C = some (.ref (He.ga X.K C))) (hx : ∀ σ, PassesAt CX X σ (E σ)) (ha : PA X (e :: es) t) (hkw : PK X kws tk)
    (hall : (backToKw pos (keywordEach kws X.env)).all (·.1.isSome) = true := by rfl) (hks : (backToKw pos (keywordEach kws X.env)).filterMap (·.1) = ks := by rfl) (hdb : (C == ("__debug__" : Str)) = false := by decide)
    (he : starEach (e :: es) X.env = (false, eval e X.env) :: starEach es X.env := by rfl) (hpl : ((backTo pos (starEach (e :: es) X.env)).any (·.1) || (backToKw pos (keywordEach kws X.env)).any (·.1.isNone)) = false := by rfl) {mm : Nat} (hmm : ks.length = mm := by rfl) :
    PE X (.Call (.Name C p) (e :: es) kws pos) (tMakeP X.K C pm n mm sp dvs E t tk) := by
  subst hmm
  refine ⟨fun pins s σ H Q I h => ?_⟩
  refine wpAny_Call_Name_kw (ld_glob I hg hm ?_ hdb)
  refine PySem.W.callWith_KW (h₀ := X.base) I.ok.mod.kin M.kp hall (thn (ha.run pos pins s σ H _ I h) fun us s1 ⟨vs, H1, I1, r, q⟩ => ?_) hpl he
  refine thn (hkw.run pos pins s1 σ H1 _ I1 q) fun ws s2 ⟨zs, H2, I2, rz, l1, l2, q2⟩ => ⟨I2.kIn, ?_⟩
  rw [hks]
  exact run_makeP M F hr (hx σ) I2 r rz l1 l2 q2
end
end Z
namespace Z
open PySem PySem.Spec PyProof.Rows L2 Evl
section
variable {X : Cx} {k n : Nat} {ps : List Str} {sp : Sp} {C m : Str} {pm : List Nat} {dvs : List V}
/-- a method that lets nothing out, run one step further in -/
theorem run_in1 {pins : List (Addr × Obj)} {σ : L2.St} {H : Hp} {s : Shared} {Q : VK} {a : Addr} {us : List Value} {vs : List V} {E' : Value → Shared → Prop} (F : FokM X.prog X.w X.K X.mg X.base CX0 k C m ps sp n [] dvs pm) (hr : Room (k + 1) X.A)
    (I : Inv X pins σ H s) (r : Vals vs us) (l1 : vs.length = n) (h : sp (perm pm ((V.ref a :: vs) ++ dvs)) H Q E0) : wpAny (model X.prog X.w) X.A.in1 (call (.ref (He.ma X.K (He.ga X.K C) m)) (Value.ref a :: us)) (EP X pins σ Q) E' s := by
  obtain ⟨fd, ds, rd, F1, b⟩ := F.ex
  have r1 : Vals (V.ref a :: vs) (Value.ref a :: us) := .cons rfl r
  have n1 : (Value.ref a :: us).length = n + 1 := by rw [List.length_cons, ← r.length, l1]
  have b1 := b s (Value.ref a :: us) [] I.kIn n1 rfl
  rw [List.append_nil] at b1
  refine wpAny_call (codeAny_mono (F1.run X.A.in1 X.stack s H ⟨Value.ref a :: us, []⟩ (perm pm ((Value.ref a :: us) ++ ds)) (perm pm ((V.ref a :: vs) ++ dvs)) Q E0 hr.in1 I.env0.in1 b1 (perm_rel (r1.append rd) pm) h) fun r s' hq => ?_)
  cases r with
  | error e => exact hq.elim
  | ok fl =>
    cases fl with
    | ret u => exact I.after hq
    | next => exact False.elim hq
    | brk => exact False.elim hq
    | cont => exact False.elim hq
theorem run_at {pins : List (Addr × Obj)} {σ : L2.St} {H : Hp} {s : Shared} {Q : VK} {a : Addr} {us : List Value} {vs : List V} {E' : Value → Shared → Prop} (F : FokM X.prog X.w X.K X.mg X.base CX0 k C m ps sp n [] dvs pm) (hr : Room k X.A)
    (I : Inv X pins σ H s) (r : Vals vs us) (l1 : vs.length = n) (h : sp (perm pm ((V.ref a :: vs) ++ dvs)) H Q E0) : wpAny (model X.prog X.w) X.A (call (.ref (He.ma X.K (He.ga X.K C) m)) (Value.ref a :: us)) (EP X pins σ Q) E' s := by
  obtain ⟨fd, ds, rd, F1, b⟩ := F.ex
  have r1 : Vals (V.ref a :: vs) (Value.ref a :: us) := .cons rfl r
  have n1 : (Value.ref a :: us).length = n + 1 := by rw [List.length_cons, ← r.length, l1]
  have b1 := b s (Value.ref a :: us) [] I.kIn n1 rfl
  rw [List.append_nil] at b1
  refine wpAny_call (codeAny_mono (F1.run X.A X.stack s H ⟨Value.ref a :: us, []⟩ (perm pm ((Value.ref a :: us) ++ ds)) (perm pm ((V.ref a :: vs) ++ dvs)) Q E0 hr I.env0 b1 (perm_rel (r1.append rd) pm) h) fun r s' hq => ?_)
  cases r with
  | error e => exact hq.elim
  | ok fl =>
    cases fl with
    | ret u => exact I.after hq
    | next => exact False.elim hq
    | brk => exact False.elim hq
    | cont => exact False.elim hq
/-- len(o) by an own __len__ -/
def rLenO (K : PySem.W.Frag) (C : Str) (pm : List Nat) (sp : Sp) (dvs : List V) : List V → Hp → VK → Prop := fun xs H Q => ∃ a dx fs, xs = [.ref a] ∧ H a = some (.ins (He.ga K C) dx fs) ∧ sp (perm pm ([V.ref a] ++ dvs)) H (fun v H' => ∃ i : Int, v = .int i ∧ 0 ≤ i ∧ i < 2 ^ 63 ∧ Q (.int i) H') E0
theorem call_lenO (hm : Meth X.K (He.ga X.K C) "__len__" (He.ma X.K (He.ga X.K C) "__len__")) (F : FokM X.prog X.w X.K X.mg X.base CX0 k C "__len__" ps sp 0 [] dvs pm) (hr : Room (k + 1) X.A) : CallR X (.builtin "len") (rLenO X.K C pm sp dvs) := by
  intro pins s σ H xs us Q I r h
  obtain ⟨a, dx, fs, rfl, ha, hq⟩ := h
  obtain ⟨u, rfl, ru⟩ := vals1 r
  cases ru
  obtain ⟨mA, O, _⟩ := ins_get I.hok ha
  obtain ⟨od, J, _⟩ := O.look
  obtain ⟨m, hF⟩ := I.fr
  refine PySem.W.len_K hF I.ok.mod.kin J hm.at_ hm.fn (wpAny_mono (run_in1 (us := []) F hr I .nil rfl hq) (fun v s' hv => ?_) fun _ _ z => z)
  obtain ⟨w, H', I', rw_, i, rfl, h0, h1, q⟩ := hv
  obtain ⟨t, rfl⟩ := rw_
  exact ⟨⟨h0, h1⟩, ⟨.int i, H', I'.tok _, ⟨_, rfl⟩, q⟩⟩
/-- o == p, two instances of a class, by an own __eq__ -/
def rEqO (K : PySem.W.Frag) (C : Str) (pm : List Nat) (sp : Sp) (dvs : List V) : R2 := fun x y H Q => ∃ a b dx dy fs gs, x = .ref a ∧ y = .ref b ∧ H a = some (.ins (He.ga K C) dx fs) ∧ H b = some (.ins (He.ga K C) dy gs) ∧ sp (perm pm ([V.ref a, V.ref b] ++ dvs)) H (fun v H' => ∃ i : Bool, v = .bl i ∧ Q (.bl i) H') E0
theorem op_eqO (hm : Meth X.K (He.ga X.K C) "__eq__" (He.ma X.K (He.ga X.K C) "__eq__")) (F : FokM X.prog X.w X.K X.mg X.base CX0 k C "__eq__" ps sp 1 [] dvs pm) (hr : Room k X.A) : OpR X (compareOp .Eq) (rEqO X.K C pm sp dvs) := by
  intro pins s σ H x y v u Q I rx ry h
  obtain ⟨a, b, dx, dy, fs, gs, rfl, rfl, ha, hb, hq⟩ := h
  cases rx
  cases ry
  obtain ⟨mA, O, _⟩ := ins_get I.hok ha
  obtain ⟨od, J, _⟩ := O.look
  obtain ⟨mB, O', _⟩ := ins_get I.hok hb
  obtain ⟨od', J', _⟩ := O'.look
  obtain ⟨m, hF⟩ := I.fr
  refine PySem.W.cmp_ofEq (PySem.W.cmp_K (op := .Eq) (tb := .ref (He.ga X.K C)) hr.units0 hF I.ok.mod.kin J J'.type (by simp [PySem.W.notFirst]) hm.at_ hm.fn (wpAny_mono (run_at (us := [.ref b]) (vs := [.ref b]) F hr I (.cons rfl .nil) rfl hq) (fun v s' hv => ?_) fun _ _ z => z))
  obtain ⟨w, H', I', rw_, i, rfl, q⟩ := hv
  cases rw_
  exact ⟨.bl i, H', I', rfl, q⟩
/-- x in o, by an own __contains__ -/
def rInO (K : PySem.W.Frag) (C : Str) (pm : List Nat) (sp : Sp) (dvs : List V) : R2 := fun x y H Q => ∃ a dx fs, y = .ref a ∧ H a = some (.ins (He.ga K C) dx fs) ∧ sp (perm pm ([V.ref a, x] ++ dvs)) H (fun v H' => ∃ i : Bool, v = .bl i ∧ Q (.bl i) H') E0
def rNinO (K : PySem.W.Frag) (C : Str) (pm : List Nat) (sp : Sp) (dvs : List V) : R2 := fun x y H Q => ∃ a dx fs, y = .ref a ∧ H a = some (.ins (He.ga K C) dx fs) ∧ sp (perm pm ([V.ref a, x] ++ dvs)) H (fun v H' => ∃ i : Bool, v = .bl i ∧ Q (.bl (!i)) H') E0
theorem op_inO (hm : Meth X.K (He.ga X.K C) "__contains__" (He.ma X.K (He.ga X.K C) "__contains__")) (F : FokM X.prog X.w X.K X.mg X.base CX0 k C "__contains__" ps sp 1 [] dvs pm) (hr : Room k X.A) : OpR X (compareOp .In) (rInO X.K C pm sp dvs) := by
  intro pins s σ H x y v u Q I rx ry h
  obtain ⟨a, dx, fs, rfl, ha, hq⟩ := h
  cases ry
  obtain ⟨mA, O, _⟩ := ins_get I.hok ha
  obtain ⟨od, J, _⟩ := O.look
  obtain ⟨m, hF⟩ := I.fr
  refine PySem.W.in_K hF I.ok.mod.kin J hm.at_ hm.fn (wpAny_mono (run_at (us := [v]) (vs := [x]) F hr I (.cons rx .nil) rfl hq) (fun v s' hv => ?_) fun _ _ z => z)
  obtain ⟨w, H', I', rw_, i, rfl, q⟩ := hv
  cases rw_
  exact wpAny_truthy_bool ⟨.bl i, H', I', rfl, q⟩
theorem op_ninO (hm : Meth X.K (He.ga X.K C) "__contains__" (He.ma X.K (He.ga X.K C) "__contains__")) (F : FokM X.prog X.w X.K X.mg X.base CX0 k C "__contains__" ps sp 1 [] dvs pm) (hr : Room k X.A) : OpR X (compareOp .NotIn) (rNinO X.K C pm sp dvs) := by
  intro pins s σ H x y v u Q I rx ry h
  obtain ⟨a, dx, fs, rfl, ha, hq⟩ := h
  cases ry
  obtain ⟨mA, O, _⟩ := ins_get I.hok ha
  obtain ⟨od, J, _⟩ := O.look
  obtain ⟨m, hF⟩ := I.fr
  refine PySem.W.notIn_K hF I.ok.mod.kin J hm.at_ hm.fn (wpAny_mono (run_at (us := [v]) (vs := [x]) F hr I (.cons rx .nil) rfl hq) (fun v s' hv => ?_) fun _ _ z => z)
  obtain ⟨w, H', I', rw_, i, rfl, q⟩ := hv
  cases rw_
  exact wpAny_truthy_bool ⟨.bl (!i), H', I', rfl, q⟩
end
/-! ### isinstance with an own class -/
structure IsO (K : PySem.W.Frag) (C : Str) : Prop where
  cl : Cls K (He.ga K C)
  ha : PySem.W.findIn K (.ref (He.ga K C)) "__class__" = some (some (.builtin "object.__class__"))
  hn : PySem.W.specialIn K (.builtin "object.__class__") "__get__" = some (some (.builtin "getset_descriptor.__get__"))
  htk : PySem.W.takesIn K (.builtin "object.__class__") = some true
  hm : PySem.W.mroIn K (He.ga K C) (.type "object") = some true
  me : PySem.W.kitOne K (.ref (He.ga K C)) (.ref (He.ga K C)) = some true
  ty : ∀ T ∈ (["NoneType", "bool", "int", "str", "tuple", "list", "dict"] : List String), PySem.W.kitOne K (.type T) (.ref (He.ga K C)) = some false
theorem IsO.tyX {K : PySem.W.Frag} {C : Str} (c : IsO K C) {H : Hp} {a dx : Addr} {fs : List (Str × V)} (h : H a = some (.ins (He.ga K C) dx fs)) : TyX K H (.ref a) (.ref (He.ga K C)) := .base (TyOf.ins h c.cl c.ha c.hn c.htk c.hm)
def isoB (K : PySem.W.Frag) (C : Addr) : Bool := eqB (PySem.W.findIn K (.ref C) "__class__") (some (some (.builtin "object.__class__"))) && (eqB (PySem.W.specialIn K (.builtin "object.__class__") "__get__") (some (some (.builtin "getset_descriptor.__get__"))) &&
  (eqB (PySem.W.takesIn K (.builtin "object.__class__")) (some true) && (eqB (PySem.W.mroIn K C (.type "object")) (some true) && (eqB (PySem.W.kitOne K (.ref C) (.ref C)) (some true) && (["NoneType", "bool", "int", "str", "tuple", "list", "dict"] : List String).all fun T => eqB (PySem.W.kitOne K (.type T) (.ref C)) (some false)))))
theorem isoB_ok {K : PySem.W.Frag} {C : Str} (cl : Cls K (He.ga K C)) (h : isoB K (He.ga K C) = true) : IsO K C := by
  obtain ⟨h1, h⟩ := He.ba h
  obtain ⟨h2, h⟩ := He.ba h
  obtain ⟨h3, h⟩ := He.ba h
  obtain ⟨h4, h⟩ := He.ba h
  obtain ⟨h5, h6⟩ := He.ba h
  exact ⟨cl, eqB_ok h1, eqB_ok h2, eqB_ok h3, eqB_ok h4, eqB_ok h5, fun T hT => eqB_ok (List.all_eq_true.mp h6 T hT)⟩
/-! ### == of dicts, values by identity or == -/
section
variable {X : Cx} {pins : List (Addr × Obj)} {σ : L2.St} {H : Hp} {s : Shared}
/-- key by key -/
inductive KHit (E : V → V → Bool → Prop) (ls : List (Key × V)) : List (Key × V) → Bool → Prop
  | nil : KHit E ls [] true
  | miss {k : Key} {v : V} {r : List (Key × V)} : valV ls k = none → KHit E ls ((k, v) :: r) false
  | hit {k : Key} {v u : V} {r : List (Key × V)} {e b : Bool} : valV ls k = some u → E v u e → KHit E ls r b → KHit E ls ((k, v) :: r) (e && b)
theorem KHit.run {P : Program} {w : World} {A : Around} {E : V → V → Bool → Prop} (ih : ∀ {x y : V} {b : Bool} {v u : Value}, E x y b → RelV x v → RelV y u → SeqAt.EqAt A s v u b) {ls : List (Key × V)} {vb : List (Key × Value)} (rb : KV ls vb) {ks : List (Key × V)} {r : Bool} (h : KHit E ls ks r) :
    ∀ {va : List (Key × Value)}, KV ks va → PySem.W.KeqHitsP P w A s vb va r := by
  induction h with
  | nil =>
    intro va ra
    unfold KV at ra
    cases ra
    exact .nil
  | @miss k v r e =>
    intro va ra
    unfold KV at ra
    cases ra with
    | @cons p q ps qs h t =>
      obtain ⟨h1, h2⟩ := h
      obtain ⟨key, w'⟩ := q
      have h1 : k = key := h1
      subst h1
      have rr : RelO none (valueAt vb k) := by rw [← e]; exact rb.val k
      exact .miss (RelO.none_of rr)
  | @hit k v u r e b hu hE _ ihr =>
    intro va ra
    unfold KV at ra
    cases ra with
    | @cons p q ps qs h t =>
      obtain ⟨h1, h2⟩ := h
      obtain ⟨key, w'⟩ := q
      have h1 : k = key := h1
      subst h1
      have rr : RelO (some u) (valueAt vb k) := by rw [← hu]; exact rb.val k
      obtain ⟨y, hy, ry⟩ := rr.some_of
      exact .hit hy (ih hE h2 ry).eqP (ihr t)
def rEqK (K : PySem.W.Frag) : R2 := fun x y H Q => ∃ a b ks ls r, x = .ref a ∧ y = .ref b ∧ Rd H a (.dK ks) ∧ Rd H b (.dK ls) ∧ (ks.length = ls.length → KHit (EqI K H 60) ls ks r) ∧ Q (.bl (decide (ks.length = ls.length) && r)) H
theorem op_eqK {X : Cx} (hu : X.A.units + 64 < cLine) : OpR X (compareOp .Eq) (rEqK X.K) := by
  intro pins s σ H x y v u Q I rx ry h
  obtain ⟨a, b, ks, ls, r, rfl, rfl, ha, hb, hh, q⟩ := h
  cases rx
  cases ry
  obtain ⟨_, ya, va, ra, da⟩ := dk_rd I.hok ha
  obtain ⟨_, yb, vb, rb, db⟩ := dk_rd I.hok hb
  have la := ra.length
  have lb := rb.length
  refine PySem.W.cmp_ofEq (PySem.W.rcP_dicts (knd := mixKind X.prog X.w) (r := r) ya yb da db (by omega) (fun hl => (hh (by omega)).run (fun h1 r1 r2 => EqI.run I (n := 60) (A := X.A.in1) (by show X.A.units + 1 + 60 < cLine; omega) h1 r1 r2) rb ra) _ _ ?_)
  refine ⟨.bl (va.length == vb.length && r), H, I, rfl, ?_⟩
  have e : (va.length == vb.length) = decide (ks.length = ls.length) := by
    rw [Bool.beq_eq_decide_eq, ← la, ← lb]
  rw [e]
  exact q
end
end Z
namespace Z
open PySem PySem.Spec PyProof.Rows L2 Evl
theorem mbinds {K : PySem.W.Frag} {x qual : Str} {params : Arguments} {body : List Stmt} {scope : Scope} {kws : List (Str × V)} {f : Addr} {fd : FuncData} {ps ks : List Str} {n : Nat} {p : List Nat} (F : FunD K x qual params body scope [] kws f fd)
    (h : ∀ (kV doc pm : Value) (an : Option Addr) (cdv ct : Value) (us ws : List Value), us.length = n + 1 → ws.length = ks.length → bindArgs (PySem.W.fnOf x qual params body scope .none kV doc pm an cdv ct) ⟨us, ks.zip ws⟩ = pure (ps.zip (perm p (us ++ ws)))) :
    ∀ (s : Shared) (us ws : List Value), K.In s.heap → us.length = n + 1 → ws.length = ks.length → BindsTo s fd ⟨us, ks.zip ws⟩ (ps.zip (perm p (us ++ ws ++ []))) := fun s us ws _ h1 h2 => by
  rw [List.append_nil]
  exact kbinds F h s us ws h1 h2
end Z

/-! L9: enumerate of a tuple -/
namespace Z
open PySem PySem.Spec PyProof.Rows L2 Evl
set_option maxHeartbeats 4000000 in
theorem meets_enum1 {v : Value} {o : Obj} {G : Heap → Prop} (B : Begins v o G) :
    Meets (Builtin.«enumerate.__new__» ⟨[.type "enumerate", v], []⟩) (fun _ R s => G s.heap ∧
      R (.ok (.ret (.ref (s.heap.push o).objs.size))) { s with heap := (s.heap.push o).push { cls := .type "enumerate", data := .fields #[.none, .bool false, .ref s.heap.objs.size, rawInt 0, .none, .none] } }) :=
  .of_wp fun prog w A R s h => by
    obtain ⟨hp, g, d, tk, os⟩ := s
    obtain ⟨h1, h⟩ := h
    have hsub := sub_enumerate
    have q1 : ∀ {A' : Around} {E : Value → Shared → Prop} {Q : Value → Shared → Prop}, Q (.ref hp.objs.size) ⟨hp.push o, g, d, tk, os⟩ → wpAny (model prog w) A' (pyIter v) Q E ⟨hp, g, d, tk, os⟩ :=
      fun q => B.iter prog w _ _ ⟨hp, g, d, tk, os⟩ _ h1 q
    wp_walk using q1
    refine wpAny_stack_any fun st => wpAny_pure ?_
    split
    · rename_i c _ _ _ _ _
      cases (c == Value.type "enumerate")
      · wp_walk using q1
        exact ⟨_, rfl, h⟩
      · wp_walk using q1
        exact ⟨_, rfl, h⟩
    · wp_walk using q1
      exact ⟨_, rfl, h⟩
section
variable {prog : Program} {w : World} {A : Around} {E : Value → Shared → Prop} {s : Shared}
theorem call_enum1 {v : Value} {o : Obj} {G : Heap → Prop} {Q : Value → Shared → Prop} (B : Begins v o G) (h1 : G s.heap)
    (h : ∀ h', IsEnum h' (s.heap.objs.size + 1) s.heap.objs.size 0 .none → h'.get? s.heap.objs.size = some o →
      (∀ b o, s.heap.get? b = some o → h'.get? b = some o) → Q (.ref (s.heap.objs.size + 1)) { s with heap := h' }) :
    wpAny (model prog w) A (call (.type "enumerate") [v]) Q E s := by
  refine callType_new F.called_enumerate (by decide) (F.typeCall_enumerate_1 _) (F.newCall_enumerate_1 _) (fun obj => F.args_object_init_2 obj _) F.entry_enumerate_new
    (meets_enum1 B) ⟨h1, ?_⟩
  have hz : (s.heap.push o).objs.size = s.heap.objs.size + 1 := Heap.size_push ..
  show _ ∧ _
  rw [hz]
  have he : IsEnum ((s.heap.push o).push { cls := .type "enumerate", data := .fields #[.none, .bool false, .ref s.heap.objs.size, rawInt 0, .none, .none] }) (s.heap.objs.size + 1) s.heap.objs.size 0 .none := by
    have := Heap.get?_push_size (s.heap.push o) (o := { cls := .type "enumerate", data := .fields #[.none, .bool false, .ref s.heap.objs.size, rawInt 0, .none, .none] }) rfl
    rw [hz] at this
    exact this
  exact ⟨⟨_, he, rfl⟩, h _ he (Heap.get?_push_of_some _ (Heap.get?_push_size _ B.free)) fun b o x => Heap.get?_push_of_some _ (Heap.get?_push_of_some _ x)⟩
end
def IteT (K : PySem.W.Frag) (a : Addr) : It :=
  ⟨fun i H => ∃ (xs : List V) (x : V), SqT K H a xs ∧ xs[i]? = some x, fun i H v H' => ∃ T x, v = .ref T ∧ H T = none ∧ H' = upd H T (.tup [.int (i : Nat), x]) ∧ ∀ xs, SqT K H a xs → xs[i]? = some x, fun i H => ∃ xs : List V, SqT K H a xs ∧ xs.length ≤ i⟩
theorem turn_enumT {P : Program} {w : World} {K : PySem.W.Frag} {elts : List Expr} {kk : Nat} {tpos : Pos} (a e it : Addr) (hne : e ≠ it) (hea : e ≠ a) (hia : a ≠ it) :
    Turn P w K (.Tuple elts kk tpos) (IteT K a) [e, it] e (fun i h => (∃ old, IsEnum h e it ((i : Nat) : Int) old) ∧ h.IsTupleIter it a i) where
  mem := by simp
  obj := fun i h st b hb => by
    obtain ⟨⟨old, he⟩, ⟨o, ho, hc, hd⟩⟩ := st
    have e' : b = e ∨ b = it := by simpa using hb
    rcases e' with z | z
    · rw [z]; exact ⟨_, he, fun v q => nomatch q⟩
    · rw [z]; exact ⟨o, ho, fun v q => by rw [hd] at q; cases q⟩
  keep := fun i h h' st k => let ⟨⟨old, he⟩, hi⟩ := st; ⟨⟨old, k e (by simp) _ he⟩, hi.at fun o q => k it (by simp) o q⟩
  item := by
    intro X hP hw hK hc i pins s σ H E I hf st hg
    subst hP hw hK
    obtain ⟨⟨old, he⟩, hit⟩ := st
    obtain ⟨xs, x, hq, hx⟩ := hg
    obtain ⟨its, rv, p, hz⟩ := I.tuple hq
    obtain ⟨u, hu, ru⟩ := rv.get hx
    have hel : e < s.heap.objs.size := Heap.lt_size he
    have hil : it < s.heap.objs.size := by obtain ⟨_, q, _⟩ := hit; exact Heap.lt_size q
    have hlt : i < its.toArray.size := by
      have := (List.getElem?_eq_some_iff.1 hu).1
      simpa using this
    have hD := Draws.tuple (prog := X.prog) (w := X.w) (A := X.A.in1) (I.ok.hd hc) it a hia its.toArray
    refine wpAny_pyNext_enum_itemD hD he ⟨hit, show s.heap.IsTuple a its.toArray from p⟩ hlt hne (by simp [hne, hea]) fun y h' tk hy ho st' hT hsz hk => ?_
    have ey : y = u := by
      have h1 : its.toArray[i]? = some u := by simpa using hu
      exact Option.some.inj (hy.symm.trans h1)
    subst ey
    refine ⟨_, rfl, wpAny_letOwnedTupleGo_enum (s := { s with heap := h', toks := tk + 1 }) ho fun h'' he' sb => ?_⟩
    have hT2 : h''.get? s.heap.objs.size = some { cls := .type "tuple", data := .seq #[.int i tk, y] } := (sb.2 _ (Nat.ne_of_gt hel)).trans hT
    have new : ObjOk X.prog X.w (upd H s.heap.objs.size (.tup [.int (i : Nat), x])) h'' s.heap.objs.size (.tup [.int (i : Nat), x]) :=
      ⟨by show 2 ≤ sizeLine; decide, [.int i tk, y], .cons ⟨_, rfl⟩ (.cons ru .nil), ⟨_, hT2, rfl, _, rfl⟩⟩
    have I1 : Inv X pins σ (upd H s.heap.objs.size (.tup [.int (i : Nat), x])) { s with heap := h'', toks := tk + 1 } :=
      I.turnedNew (ch := [e, it]) (fun b ob hb q => (sb.2 b (fun z => hb (by simp [z]))).trans (hk b ob (fun z => hb (by simp [z])) (fun z => hb (by simp [z])) q)) hf (Nat.le_refl _) new
    refine ⟨.ref s.heap.objs.size, _, I1, rfl, ⟨_, x, rfl, I.hok.fresh (Nat.le_refl _), rfl, fun ys hy => by rw [I.tuple_inj hy hq]; exact hx⟩, ⟨⟨y, ?_⟩, st'.1.at fun o q => (sb.2 it (Ne.symm hne)).trans q⟩, fun b hb => ?_⟩
    · have e1 : ((i + 1 : Nat) : Int) = (i : Int) + 1 := by omega
      rw [e1]; exact he'
    · have hb' : b < s.heap.objs.size := by
        have e' : b = e ∨ b = it := by simpa using hb
        rcases e' with z | z
        · rw [z]; exact hel
        · rw [z]; exact hil
      rw [upd_ne (Nat.ne_of_lt hb')]
      exact (hf b hb).1
  done := by
    intro X hP hw hK hc i pins s σ H E I hf st hg
    subst hP hw hK
    obtain ⟨⟨old, he⟩, hit⟩ := st
    obtain ⟨xs, hq, hx⟩ := hg
    obtain ⟨its, rv, p, hz⟩ := I.tuple hq
    obtain ⟨f0, f1, f2, f3, f4, f5⟩ := hf it (by simp)
    have hl := rv.length
    have hm : s.heap.IsTupleIter it a i := hit
    have hh := I.ok.hd hc
    have hT : s.TypeIs (.ref e) "enumerate" := ⟨_, he, rfl⟩
    unfold pyNext
    refine wpAny_bind (wpAny_attempt (wpAny_callSpecial?_slot (name := Str.ofString "__next__") hT F.slot_enumerate_next
      (wpAny_call_entry F.slot_enumerate_next hT F.entry_enumerate_next ?_ (F.args_enumerate_next_1 _))))
    show wpAny _ _ (field (.ref e) 2 >>= _) _ _ _
    refine wpAny_bind (wpAny_field he rfl (x := .ref it) rfl ?_)
    refine wpAny_bind (wpAny_nextOf_tuple_end hh hm (show s.heap.IsTuple a its.toArray from p) (by simp; omega) fun h' x eb hx' => ?_)
    obtain ⟨o, ho, hc'⟩ := hx'
    refine wpAny_bind (wpAny_isInstance (T := "StopIteration") (b := true) ⟨o, ho, hc'⟩ isSubtype_stop ?_)
    exact wpAny_pure ⟨rfl, I.turned (t' := s.toks) (fun b o hb q => eb b o hb q) f0 f1 f3 f4 f5⟩
  self := fun A i s Q E st h => let ⟨⟨_, he⟩, _⟩ := st; wpAny_pyIter_enum he h
section
variable {X : Cx} {pins : List (Addr × Obj)} {σ : L2.St} {H : Hp} {s : Shared} {a : Addr} {xs : List V} {R : It → Hp → Prop} {E : Value → Shared → Prop} {elts : List Expr} {kk : Nat} {tpos : Pos}
theorem enum_list (I : Inv X pins σ H s) (hq : SqL X.K H a xs) (q : R (Ite X.K a) H) : wpAny (model X.prog X.w) X.A (call (.type "enumerate") [.ref a]) (fun o s1 => wpAny (model X.prog X.w) X.A (pyIter o) (PIE X pins σ (.Tuple elts kk tpos) R) X.xe s1) X.xe s := by
  obtain ⟨its, rv, p', hz⟩ := I.list hq
  refine call_enumerate_list p'.isList fun h' he hit hsz hk => wpAny_pyIter_enum he ?_
  have I2 : Inv X pins σ H { s with heap := h' } := I.kept (t' := s.toks) hk
  refine ⟨s.heap.objs.size + 1, [s.heap.objs.size + 1, s.heap.objs.size], _, _, H, rfl, I2, turn_enum a (s.heap.objs.size + 1) s.heap.objs.size, ⟨⟨.none, he⟩, hit, Nat.succ_ne_self _⟩, fun b hb => ?_, q⟩
  have e' : b = s.heap.objs.size + 1 ∨ b = s.heap.objs.size := by simpa using hb
  have hle : s.heap.objs.size ≤ b := by
    rcases e' with z | z
    · rw [z]; exact Nat.le_add_right _ _
    · rw [z]; exact Nat.le_refl _
  exact I.fpOk hle (I.hok.fresh hle)
theorem enum_tup (I : Inv X pins σ H s) (hq : SqT X.K H a xs) (q : R (IteT X.K a) H) : wpAny (model X.prog X.w) X.A (call (.type "enumerate") [.ref a]) (fun o s1 => wpAny (model X.prog X.w) X.A (pyIter o) (PIE X pins σ (.Tuple elts kk tpos) R) X.xe s1) X.xe s := by
  obtain ⟨its, rv, p', hz⟩ := I.tuple hq
  have hal : a < s.heap.objs.size := by
    obtain ⟨o, ho, _⟩ := (show s.heap.IsTuple a its.toArray from p')
    exact Heap.lt_size ho
  refine call_enum1 (begins_tuple a its.toArray) p' fun h' he ho hk => wpAny_pyIter_enum he ?_
  have I2 : Inv X pins σ H { s with heap := h' } := I.kept (t' := s.toks) hk
  have hit : h'.IsTupleIter s.heap.objs.size a 0 := ⟨_, ho, rfl, rfl⟩
  refine ⟨s.heap.objs.size + 1, [s.heap.objs.size + 1, s.heap.objs.size], _, _, H, rfl, I2, turn_enumT a (s.heap.objs.size + 1) s.heap.objs.size (Nat.succ_ne_self _) (Nat.ne_of_gt (Nat.lt_succ_of_lt hal)) (Nat.ne_of_lt hal), ⟨⟨.none, he⟩, hit⟩, fun b hb => ?_, q⟩
  have e' : b = s.heap.objs.size + 1 ∨ b = s.heap.objs.size := by simpa using hb
  have hle : s.heap.objs.size ≤ b := by
    rcases e' with z | z
    · rw [z]; exact Nat.le_add_right _ _
    · rw [z]; exact Nat.le_refl _
  exact I.fpOk hle (I.hok.fresh hle)
end
end Z

/-! L10: == and != of data with dicts within -/
namespace Z
open PySem PySem.Spec PyProof.Rows L2 Evl
open PySem.SeqAt PySem.AutoSeq1 PySem.MeetsSeq PySem.MeetsSeq2 PySem.MeetsSeq3
section
variable {prog : Program} {w : World} {A : Around} {s : Shared}
def RcP (prog : Program) (w : World) (A : Around) (s : Shared) (v u : Value) (b : Bool) : Prop := ∀ E Q : Value → Shared → Prop, Q (.bool b) s → wpAny (model prog w) A (richCompare .Eq v u) Q E s
def NeP (prog : Program) (w : World) (A : Around) (s : Shared) (v u : Value) (b : Bool) : Prop := ∀ E Q : Value → Shared → Prop, Q (.bool b) s → wpAny (model prog w) A (richCompare .NotEq v u) Q E s
theorem ne_loopP (l b : Addr) (items items2 : Array Value) (n n2 : Nat) (dd dd2 : Option Addr) (sl sl2 : Array (Option Value)) (hsz : items.size = items2.size) (e : Nat → Bool) (k : Nat) :
    ∀ i : Nat, items.size - i = k → ∀ (A : Around) (R : Result → Shared → Prop) (s : Shared), (s.heap.get? l = some { cls := .type "list", dict := dd, data := .seq items n, slots := sl } ∧ s.heap.get? b = some { cls := .type "list", dict := dd2, data := .seq items2 n2, slots := sl2 } ∧
        (∀ j (h1 : j < items.size) (h2 : j < items2.size), EqP prog w A.in1 s items[j] items2[j] (e j)) ∧
        R (.ok (.ret (.bool (!((List.range items.size).drop i).all e)))) s) →
      wpAny (model prog w) A.in1 (Builtin.«list.__eq__.loop» ⟨[.ref l, .ref b, rawInt i, rawInt 3], []⟩) (GQ.FinOf prog w A R) (fun e s' => R (.error e) s') s := by
  induction k with
  | zero =>
    intro i hk A R s h
    obtain ⟨hp, g, d, tk, os⟩ := s
    obtain ⟨hl, hb, he, h⟩ := h
    wp_walk using wpAny_loadPart' hl, wpAny_loadPart' hb
    have hi1 : items[((i : Nat) : Int).toNat]? = none := by simp; omega
    have hi2 : items2[((i : Nat) : Int).toNat]? = none := by simp; omega
    have hd : (List.range items.size).drop i = [] := by simp; omega
    rw [hd] at h
    rw [hi1, hi2]
    wp_walk using wpAny_loadPart' hl, wpAny_loadPart' hb
    show R (.ok (.ret (.bool (items.size != items2.size)))) _
    rw [hsz]
    simpa using h
  | succ k ih =>
    intro i hk A R s h
    obtain ⟨hp, g, d, tk, os⟩ := s
    obtain ⟨hl, hb, he, h⟩ := h
    wp_walk using wpAny_loadPart' hl, wpAny_loadPart' hb
    have hlt : i < items.size := by omega
    have hlt2 : i < items2.size := by omega
    have hi1 : items[((i : Nat) : Int).toNat]? = some items[i] := by simp [hlt]
    have hi2 : items2[((i : Nat) : Int).toNat]? = some items2[i] := by simp [hlt2]
    have hd : (List.range items.size).drop i = i :: (List.range items.size).drop (i + 1) := by simp [List.drop_eq_getElem_cons, hlt]
    have hc : ((i : Int) + 1) = ((i + 1 : Nat) : Int) := by omega
    rw [hd, List.all_cons] at h
    rw [hi1, hi2]
    refine wpAny_bind (he i hlt hlt2 _ _ ?_)
    cases hb' : e i with
    | true =>
      rw [hb'] at h
      wp_walk
      rw [hc]
      exact ⟨plainId_quiet plain_eq_loop _, codeAny_builtin entry_eq_loop (by
        rw [Around.under_plainId plain_eq_loop _]
        exact ih (i + 1) (by omega) A R _ ⟨hl, hb, he, by simpa using h⟩)⟩
    | false =>
      rw [hb'] at h
      wp_walk using wpAny_loadPart' hl, wpAny_loadPart' hb
      rw [hi1, hi2]
      wp_walk
      simpa using h
theorem neP_lists {l b : Addr} {items items2 : Array Value} {e : Nat → Bool} (hl : s.heap.IsList l items) (hb : s.heap.IsList b items2) (hsz : items.size = items2.size) (hu : A.units < cLine)
    (he : ∀ j (h1 : j < items.size) (h2 : j < items2.size), EqP prog w A.in1 s items[j] items2[j] (e j)) : NeP prog w A s (.ref l) (.ref b) (!(List.range items.size).all e) := fun E Q h => by
  obtain ⟨⟨cls, dd, data, sl⟩, ho, hc, n, hd⟩ := id hl
  obtain ⟨⟨cls2, dd2, data2, sl2⟩, ho2, hc2, n2, hd2⟩ := id hb
  simp only at hc hd hc2 hd2
  subst hc hd hc2 hd2
  refine wpAny_richCompare_same_room (op := .NotEq) ⟨_, ho, rfl⟩ ⟨_, ho2, rfl⟩ F.slot_list_ne (GQ.call_here F.slot_list_ne ⟨_, ho, rfl⟩ F.entry_list_ne (F.args_list_ne_2 _ _) ?_) hu
  obtain ⟨hp, g, d, tk, os⟩ := s
  have f3 := AutoSeq1.sub_list_list
  have hne : ¬ (items.size != items2.size) = true := by simp [hsz]
  wp_walk using wpAny_loadPart' ho, wpAny_loadPart' ho2
  exact ⟨plainId_quiet plain_eq_loop _, codeAny_builtin entry_eq_loop (by
    rw [Around.under_plainId plain_eq_loop _]
    exact ne_loopP l b items items2 n n2 dd dd2 sl sl2 hsz e _ 0 rfl A _ _ ⟨ho, ho2, he, ⟨(fun x => nomatch x), by simpa using h⟩⟩)⟩
theorem neP_dicts {K : Type} [DecidableEq K] {knd : KeyKind prog w K} {a b : Addr} {ka kb : List (K × Value)} {r : Bool} (ha : (a == sysModules) = false) (hb : (b == sysModules) = false)
    (da : s.heap.DictOf knd a ka) (db : s.heap.DictOf knd b kb) (hu : A.units < cLine) (hits : ka.length = kb.length → PySem.W.KeqHitsP prog w A.in1 s kb ka r) : NeP prog w A s (.ref a) (.ref b) (!(ka.length == kb.length && r)) := fun E Q h => by
  refine wpAny_richCompare_same_room (op := .NotEq) da.typeIs db.typeIs PySem.F.slot_dict_ne (wpAny_call_entry PySem.F.slot_dict_ne da.typeIs PySem.F.entry_dict_ne ?_ (PySem.F.args_dict_ne_2 _ _)) hu
  show wpAny _ _ (Builtin.Dict.dictSlotArgs "__ne__" ⟨[.ref a, .ref b], []⟩ >>= _) _ _ s
  refine wpAny_bind ?_
  unfold Builtin.Dict.dictSlotArgs
  refine wpAny_bind (wpAny_notOrdered_dict da.typeIs ?_)
  show wpAny _ _ (pure (Value.ref a, Value.ref b)) _ _ s
  refine wpAny_pure ?_
  refine wpAny_bind (wpAny_isInstance (T := "dict") db.typeIs PySem.F.sub_dict_dict ?_)
  simp only [Bool.not_true, Bool.false_eq_true, if_false]
  refine wpAny_bind (wpAny_pure (wpAny_bind (wpAny_pure ?_)))
  refine wpAny_bind (PySem.W.samePairsP ha hb da db hits ?_)
  refine wpAny_pure ⟨_, rfl, ?_, ?_⟩
  · exact fun x => nomatch x
  · simpa using h
theorem neP_tuples {l b : Addr} {items items2 : Array Value} {e : Nat → Bool} (hl : s.heap.IsTuple l items) (hb : s.heap.IsTuple b items2) (hu : A.units < cLine)
    (he : ∀ j (h1 : j < items.size) (h2 : j < items2.size), EqP prog w A.in1 s items[j] items2[j] (e j)) : NeP prog w A s (.ref l) (.ref b) (!((List.range (min items.size items2.size)).all e && items.size == items2.size)) := fun E Q h => by
  obtain ⟨⟨cls, dd, data, sl⟩, ho, hc, n, hd⟩ := id hl
  obtain ⟨⟨cls2, dd2, data2, sl2⟩, ho2, hc2, n2, hd2⟩ := id hb
  simp only at hc hd hc2 hd2
  subst hc hd hc2 hd2
  refine wpAny_richCompare_same_room (op := .NotEq) ⟨_, ho, rfl⟩ ⟨_, ho2, rfl⟩ F.slot_tuple_ne (GQ.call_here F.slot_tuple_ne ⟨_, ho, rfl⟩ F.entry_tuple_ne (F.args_tuple_ne_2 _ _) ?_) hu
  obtain ⟨hp, g, d, tk, os⟩ := s
  have f2 := AutoSeq1.sub_tuple_tuple
  have hZ : (items.toList.zip items2.toList).length = min items.size items2.size := by simp
  wp_walk using wpAny_loadPart' ho, wpAny_loadPart' ho2, wpAny_forIn_list _ (fun rest b s' => b.1 = none ∧ s' = ⟨hp, g, d, tk, os⟩ ∧ ∃ i, rest = (items.toList.zip items2.toList).drop i ∧
    Q (.bool (!(((List.range (min items.size items2.size)).drop i).all e && items.size == items2.size))) ⟨hp, g, d, tk, os⟩) _
  case turn =>
    rintro ⟨y, x⟩ rest b s' ⟨hb', rfl, i, hz, hR⟩
    have hlt : i < (items.toList.zip items2.toList).length := by
      rcases Nat.lt_or_ge i (items.toList.zip items2.toList).length with h' | h'
      · exact h'
      · rw [List.drop_of_length_le h'] at hz; cases hz
    have hm : i < min items.size items2.size := hZ ▸ hlt
    have h1 : i < items.size := Nat.lt_of_lt_of_le hm (Nat.min_le_left _ _)
    have h2 : i < items2.size := Nat.lt_of_lt_of_le hm (Nat.min_le_right _ _)
    rw [List.drop_eq_getElem_cons hlt] at hz
    injection hz with hyx hrest
    have hy : y = items[i] := by have := congrArg Prod.fst hyx; simpa using this
    have hx : x = items2[i] := by have := congrArg Prod.snd hyx; simpa using this
    subst hy hx
    have hd : (List.range (min items.size items2.size)).drop i = i :: (List.range (min items.size items2.size)).drop (i + 1) := by simp [List.drop_eq_getElem_cons, hm]
    rw [hd, List.all_cons] at hR
    refine wpAny_bind (he i h1 h2 _ _ ?_)
    cases hy : e i with
    | true =>
      rw [hy] at hR
      wp_walk
      exact ⟨rfl, rfl, i + 1, hrest, by simpa using hR⟩
    | false =>
      rw [hy] at hR
      wp_walk
      exact ⟨(fun x => nomatch x), by simpa using hR⟩
  case fin =>
    rintro ⟨b1, b2⟩ s' ⟨hb', rfl, i, hz, hR⟩
    simp only at hb'
    subst hb'
    have hge : min items.size items2.size ≤ i := by
      rcases Nat.lt_or_ge i (items.toList.zip items2.toList).length with h' | h'
      · rw [List.drop_eq_getElem_cons h'] at hz; cases hz
      · exact hZ ▸ h'
    rw [List.drop_of_length_le (by simpa using hge)] at hR
    wp_walk
    exact ⟨(fun x => nomatch x), by simpa [Builtin.Tuple.tupleCompareSizes, bne] using hR⟩
  case h =>
    exact ⟨rfl, rfl, 0, rfl, by simpa using h⟩
end
end Z
namespace Z
open PySem PySem.Spec PyProof.Rows L2 Evl
open PySem.SeqAt
inductive EqD (K : PySem.W.Frag) (H : Hp) (E : V → V → Bool → Prop) : V → V → Bool → Prop
  | old {x y : V} {b : Bool} : EqR K H E x y b → EqD K H E x y b
  | dd {a b : Addr} {ks ls : List (Key × V)} {r : Bool} : Rd H a (.dK ks) → Rd H b (.dK ls) → (ks.length = ls.length → KHit E ls ks r) → EqD K H E (.ref a) (.ref b) (decide (ks.length = ls.length) && r)
def EqJ (K : PySem.W.Frag) (H : Hp) : Nat → V → V → Bool → Prop
  | 0 => fun _ _ _ => False
  | n + 1 => fun x y b => (∃ a, x = .ref a ∧ y = .ref a ∧ b = true) ∨ (EqD K H (EqJ K H n) x y b ∧ ∀ a, x = .ref a → y ≠ .ref a)
section
variable {X : Cx} {pins : List (Addr × Obj)} {σ : L2.St} {H : Hp} {s : Shared}
theorem EqZ.runP {P : Program} {w : World} {E : V → V → Bool → Prop} {A : Around} (ih : ∀ {x y : V} {b : Bool} {v u : Value}, E x y b → RelV x v → RelV y u → EqP P w A s v u b) {xs ys : List V} {e : List Bool} (h : EqZ E xs ys e) :
    ∀ {us ws : List Value}, Vals xs us → Vals ys ws → ∀ j (h1 : j < us.length) (h2 : j < ws.length), EqP P w A s us[j] ws[j] (e.getD j false) := by
  induction h with
  | nil =>
    intro us ws r1 r2 j h1 h2
    cases r1
    exact absurd h1 (Nat.not_lt_zero j)
  | nilL =>
    intro us ws r1 r2 j h1 h2
    cases r1
    exact absurd h1 (Nat.not_lt_zero j)
  | nilR =>
    intro us ws r1 r2 j h1 h2
    cases r2
    exact absurd h2 (Nat.not_lt_zero j)
  | cons h _ k =>
    intro us ws r1 r2 j h1 h2
    cases r1 with
    | cons a1 b1 =>
      cases r2 with
      | cons a2 b2 =>
        cases j with
        | zero => exact ih h a1 a2
        | succ j => exact k b1 b2 j (Nat.lt_of_succ_lt_succ h1) (Nat.lt_of_succ_lt_succ h2)
theorem KHit.runP {P : Program} {w : World} {A : Around} {E : V → V → Bool → Prop} (ih : ∀ {x y : V} {b : Bool} {v u : Value}, E x y b → RelV x v → RelV y u → EqP P w A s v u b) {ls : List (Key × V)} {vb : List (Key × Value)} (rb : KV ls vb) {ks : List (Key × V)} {r : Bool} (h : KHit E ls ks r) :
    ∀ {va : List (Key × Value)}, KV ks va → PySem.W.KeqHitsP P w A s vb va r := by
  induction h with
  | nil =>
    intro va ra
    unfold KV at ra
    cases ra
    exact .nil
  | @miss k v r e =>
    intro va ra
    unfold KV at ra
    cases ra with
    | @cons p q ps qs h t =>
      obtain ⟨h1, h2⟩ := h
      obtain ⟨key, w'⟩ := q
      have h1 : k = key := h1
      subst h1
      have rr : RelO none (valueAt vb k) := by rw [← e]; exact rb.val k
      exact .miss (RelO.none_of rr)
  | @hit k v u r e b hu hE _ ihr =>
    intro va ra
    unfold KV at ra
    cases ra with
    | @cons p q ps qs h t =>
      obtain ⟨h1, h2⟩ := h
      obtain ⟨key, w'⟩ := q
      have h1 : k = key := h1
      subst h1
      have rr : RelO (some u) (valueAt vb k) := by rw [← hu]; exact rb.val k
      obtain ⟨y, hy, ry⟩ := rr.some_of
      exact .hit hy (ih hE h2 ry) (ihr t)
/-- what stands in no list, tuple or dict -/
def isLT (K : PySem.W.Frag) (H : Hp) (E : V → V → Bool → Prop) (x y : V) (b : Bool) : Prop :=
  (∃ p q xs ys e, x = .ref p ∧ y = .ref q ∧ SqL K H p xs ∧ SqL K H q ys ∧ xs.length = ys.length ∧ EqZ E xs ys e ∧ b = e.all id) ∨
  (∃ p q xs ys e, x = .ref p ∧ y = .ref q ∧ SqT K H p xs ∧ SqT K H q ys ∧ EqZ E xs ys e ∧ b = (e.all id && decide (xs.length = ys.length)))
theorem EqR.split {K : PySem.W.Frag} {E : V → V → Bool → Prop} {x y : V} {b : Bool} (h : EqR K H E x y b) : isLT K H E x y b ∨ EqR K H (fun _ _ _ => False) x y b := by
  cases h with
  | sc h => exact .inr (.sc h)
  | bi a j => exact .inr (.bi a j)
  | ib i b => exact .inr (.ib i b)
  | ll h1 h2 hn => exact .inr (.ll h1 h2 hn)
  | lst h1 h2 hl hz => exact .inl (.inl ⟨_, _, _, _, _, rfl, rfl, h1, h2, hl, hz, rfl⟩)
  | tup h1 h2 hz => exact .inl (.inr ⟨_, _, _, _, _, rfl, rfl, h1, h2, hz, rfl⟩)
  | lt h1 h2 => exact .inr (.lt h1 h2)
  | tl h1 h2 => exact .inr (.tl h1 h2)
  | ls h1 h2 => exact .inr (.ls h1 h2)
  | sl h1 h2 => exact .inr (.sl h1 h2)
  | ts h1 h2 => exact .inr (.ts h1 h2)
  | st h1 h2 => exact .inr (.st h1 h2)
theorem isLT.rc (I : Inv X pins σ H s) {E : V → V → Bool → Prop} {A : Around} (hu : A.units < cLine) (ih : ∀ {x y : V} {b : Bool} {v u : Value}, E x y b → RelV x v → RelV y u → EqP X.prog X.w A.in1 s v u b)
    {x y : V} {b : Bool} {v u : Value} (h : isLT X.K H E x y b) (rx : RelV x v) (ry : RelV y u) : RcP X.prog X.w A s v u b ∧ NeP X.prog X.w A s v u (!b) := by
  rcases h with ⟨p, q, xs, ys, e, rfl, rfl, h1, h2, hl, hz, rfl⟩ | ⟨p, q, xs, ys, e, rfl, rfl, h1, h2, hz, rfl⟩
  · cases rx; cases ry
    obtain ⟨i1, r1, p1, _⟩ := I.list h1
    obtain ⟨i2, r2, p2, _⟩ := I.list h2
    have e1 := r1.length
    have e2 := r2.length
    have el := hz.len
    have sz : i1.toArray.size = i2.toArray.size := by simp only [List.size_toArray]; omega
    have it : ∀ j (h1 : j < i1.toArray.size) (h2 : j < i2.toArray.size), EqP X.prog X.w A.in1 s i1.toArray[j] i2.toArray[j] (e.getD j false) := fun j h1 h2 => hz.runP ih r1 r2 j (by simpa using h1) (by simpa using h2)
    have rg : (List.range i1.toArray.size).all (fun i => e.getD i false) = e.all id := by
      rw [show i1.toArray.size = e.length by simp only [List.size_toArray]; omega, range_all]
    refine ⟨fun E' Q hq => rcP_lists (e := fun i => e.getD i false) p1.isList p2.isList sz hu it E' Q (by rw [rg]; exact hq), ?_⟩
    have n := neP_lists (e := fun i => e.getD i false) p1.isList p2.isList sz hu it
    rw [rg] at n
    exact n
  · cases rx; cases ry
    obtain ⟨i1, r1, p1, _⟩ := I.tuple h1
    obtain ⟨i2, r2, p2, _⟩ := I.tuple h2
    have e1 := r1.length
    have e2 := r2.length
    have el := hz.len
    have it : ∀ j (h1 : j < i1.toArray.size) (h2 : j < i2.toArray.size), EqP X.prog X.w A.in1 s i1.toArray[j] i2.toArray[j] (e.getD j false) := fun j h1 h2 => hz.runP ih r1 r2 j (by simpa using h1) (by simpa using h2)
    have rg : ((List.range (min i1.toArray.size i2.toArray.size)).all (fun i => e.getD i false) && i1.toArray.size == i2.toArray.size) = (e.all id && decide (xs.length = ys.length)) := by
      rw [show min i1.toArray.size i2.toArray.size = e.length by simp only [List.size_toArray]; omega, range_all]
      congr 1
      rw [Bool.beq_eq_decide_eq]
      simp only [List.size_toArray]
      rw [e1, e2]
    refine ⟨fun E' Q hq => rcIn_tuples (e := fun i => e.getD i false) p1 p2 hu it (by rw [rg]; exact hq), ?_⟩
    have n := neP_tuples (prog := X.prog) (w := X.w) (e := fun i => e.getD i false) p1 p2 hu it
    rw [rg] at n
    exact n
theorem EqD.rc (I : Inv X pins σ H s) {E : V → V → Bool → Prop} {A : Around} (hu : A.units < cLine) (ih : ∀ {x y : V} {b : Bool} {v u : Value}, E x y b → RelV x v → RelV y u → EqP X.prog X.w A.in1 s v u b)
    {x y : V} {b : Bool} {v u : Value} (h : EqD X.K H E x y b) (rx : RelV x v) (ry : RelV y u) : RcP X.prog X.w A s v u b ∧ NeP X.prog X.w A s v u (!b) := by
  cases h with
  | old h =>
    rcases h.split with h | h
    · exact h.rc I hu ih rx ry
    · exact ⟨fun E' Q q => EqR.run I hu (E := fun _ _ _ => False) (fun h => h.elim) h rx ry X.prog X.w E' Q q, fun E' Q q => EqR.runNe I hu (E := fun _ _ _ => False) (fun h => h.elim) h rx ry X.prog X.w E' Q q⟩
  | @dd p q ks ls r ha hb hh =>
    cases rx; cases ry
    obtain ⟨_, ya, va, ra, da⟩ := dk_rd I.hok ha
    obtain ⟨_, yb, vb, rb, db⟩ := dk_rd I.hok hb
    have la := ra.length
    have lb := rb.length
    have hits : va.length = vb.length → PySem.W.KeqHitsP X.prog X.w A.in1 s vb va r := fun hl => (hh (by omega)).runP ih rb ra
    have e : (va.length == vb.length) = decide (ks.length = ls.length) := by
      rw [Bool.beq_eq_decide_eq, ← la, ← lb]
    refine ⟨fun E' Q hq => PySem.W.rcP_dicts (knd := mixKind X.prog X.w) (r := r) ya yb da db hu hits E' Q (by rw [e]; exact hq), ?_⟩
    have n := neP_dicts (knd := mixKind X.prog X.w) (r := r) ya yb da db hu hits
    rw [e] at n
    exact n
theorem EqJ.run (I : Inv X pins σ H s) : ∀ {n : Nat} {A : Around}, A.units + n < cLine → ∀ {x y : V} {b : Bool} {v u : Value}, EqJ X.K H n x y b → RelV x v → RelV y u → EqP X.prog X.w A s v u b
  | 0, _, _, _, _, _, _, _, h, _, _ => h.elim
  | n + 1, A, hu, x, y, b, v, u, h, rx, ry => by
    rcases h with ⟨a, rfl, rfl, rfl⟩ | ⟨h, ne⟩
    · cases rx; cases ry
      exact (EqAt.same _).eqP
    · have ih := fun {x y : V} {b : Bool} {v u : Value} => EqJ.run (n := n) (A := A.in1) I (by show A.units + 1 + n < cLine; omega) (x := x) (y := y) (b := b) (v := v) (u := u)
      have step := h.rc I (A := A) (by omega) ih rx ry
      have refs : ∀ {p q : Addr}, x = .ref p → y = .ref q → EqP X.prog X.w A s v u b := by
        intro p q e1 e2
        subst e1 e2
        cases rx; cases ry
        exact eqP_refs (fun e => ne p rfl (by rw [e])) step.1
      cases h with
      | old h =>
        rcases h.split with (⟨p, q, xs, ys, e, rfl, rfl, _⟩ | ⟨p, q, xs, ys, e, rfl, rfl, _⟩) | h
        · exact refs rfl rfl
        · exact refs rfl rfl
        · have h1 : EqR X.K H (EqI X.K H 0) x y b := h
          exact (EqI.run I (n := 1) (A := A) (by omega) (x := x) (y := y) (b := b) (.inr ⟨h1, ne⟩) rx ry).eqP
      | dd ha hb hh => exact refs rfl rfl
end
def rEqE (K : PySem.W.Frag) : R2 := fun x y H Q => ∃ b, EqD K H (EqJ K H 60) x y b ∧ Q (.bl b) H
def rNeE (K : PySem.W.Frag) : R2 := fun x y H Q => ∃ b, EqD K H (EqJ K H 60) x y b ∧ Q (.bl (!b)) H
theorem op_eqE {X : Cx} (hu : X.A.units + 64 < cLine) : OpR X (compareOp .Eq) (rEqE X.K) := by
  intro pins s σ H x y v u Q I rx ry h
  obtain ⟨b, h, q⟩ := h
  exact PySem.W.cmp_ofEq ((h.rc I (A := X.A) (by omega) (fun h1 r1 r2 => EqJ.run I (n := 60) (A := X.A.in1) (by show X.A.units + 1 + 60 < cLine; omega) h1 r1 r2) rx ry).1 _ _ ⟨.bl b, H, I, rfl, q⟩)
theorem op_neE {X : Cx} (hu : X.A.units + 64 < cLine) : OpR X (compareOp .NotEq) (rNeE X.K) := by
  intro pins s σ H x y v u Q I rx ry h
  obtain ⟨b, h, q⟩ := h
  exact PySem.W.cmp_ofNotEq ((h.rc I (A := X.A) (by omega) (fun h1 r1 r2 => EqJ.run I (n := 60) (A := X.A.in1) (by show X.A.units + 1 + 60 < cLine; omega) h1 r1 r2) rx ry).2 _ _ ⟨.bl (!b), H, I, rfl, q⟩)
end Z

/-! T1: data without addresses. Da: a datum as a tree; a thing that is changed is a cell, its content stands in a memory. Rp tells which value a datum stands for. -/
namespace Z
open PySem PySem.Spec PyProof.Rows L2 Evl
inductive Da where
  | non | bl (b : Bool) | int (i : Int) | str (s : Str) | ty (n : String) | gl (x : Str)
  | tup (ds : List Da) | lst (ds : List Da) | dct (kds : List (Key × Da)) | obj (c : Str) (fds : List (Str × Da))
  | kl (ds : List Da) | kt (ds : List Da)
  | cell (n : Nat) | exv (a dd : Addr) (c : Str) (fds : List (Str × Da))
abbrev Mem := List Da
abbrev Sl := List (Option Da)
/-- a dict's entries, the dict locked or not -/
def coreD : HO → Option (List (Key × V))
  | .dK kvs => some kvs
  | .frz _ (.dK kvs) => some kvs
  | _ => none
mutual
inductive Rp (K : PySem.W.Frag) (H : Hp) (φ χ : List Addr) : V → Da → Prop
  | non : Rp K H φ χ .non .non
  | bl (b : Bool) : Rp K H φ χ (.bl b) (.bl b)
  | int (i : Int) : Rp K H φ χ (.int i) (.int i)
  | str {s : Str} : s.length ≤ sizeLine → Rp K H φ χ (.str s) (.str s)
  | ty (n : String) : Rp K H φ χ (.ty n) (.ty n)
  | gl (x : Str) : Rp K H φ χ (.ref (He.ga K x)) (.gl x)
  | tup {a : Addr} {vs : List V} {ds : List Da} : H a = some (.tup vs) → a ∉ φ → a ∉ χ → RpL K H φ χ vs ds → Rp K H φ χ (.ref a) (.tup ds)
  | lst {a : Addr} {vs : List V} {ds : List Da} : H a = some (.lst vs) → a ∉ φ → a ∉ χ → RpL K H φ χ vs ds → Rp K H φ χ (.ref a) (.lst ds)
  | dct {a : Addr} {o : HO} {kvs : List (Key × V)} {kds : List (Key × Da)} : H a = some o → coreD o = some kvs → a ∉ φ → a ∉ χ → RpK K H φ χ kvs kds → Rp K H φ χ (.ref a) (.dct kds)
  | obj {a dx : Addr} {c : Str} {fs : List (Str × V)} {fds : List (Str × Da)} : H a = some (.ins (He.ga K c) dx fs) → a ∉ φ → a ∉ χ → RpF K H φ χ fs fds → Rp K H φ χ (.ref a) (.obj c fds)
  | klR {a : Addr} {o : HO} {vs : List V} {ds : List Da} : H a = some o → (o = .lst vs ∨ ∃ ob, o = .frz ob (.lst vs)) → a ∉ φ → a ∉ χ → RpL K H φ χ vs ds → Rp K H φ χ (.ref a) (.kl ds)
  | klK {a : Addr} {vs : List V} {ds : List Da} : (∀ H', SqL K H' a vs) → RpL K H φ χ vs ds → Rp K H φ χ (.ref a) (.kl ds)
  | ktK {a : Addr} {vs : List V} {ds : List Da} : (∀ H', SqT K H' a vs) → RpL K H φ χ vs ds → Rp K H φ χ (.ref a) (.kt ds)
  | cell {n : Nat} {a : Addr} : φ[n]? = some a → Rp K H φ χ (.ref a) (.cell n)
  | exv {a dd : Addr} {c : Str} {vfs : List (Str × V)} {fds : List (Str × Da)} : H dd = some (.xd vfs) → dd ∉ φ → dd ∉ χ → RpF K H φ χ vfs fds → Rp K H φ χ (.ref a) (.exv a dd c fds)
inductive RpL (K : PySem.W.Frag) (H : Hp) (φ χ : List Addr) : List V → List Da → Prop
  | nil : RpL K H φ χ [] []
  | cons {v : V} {d : Da} {vs : List V} {ds : List Da} : Rp K H φ χ v d → RpL K H φ χ vs ds → RpL K H φ χ (v :: vs) (d :: ds)
inductive RpK (K : PySem.W.Frag) (H : Hp) (φ χ : List Addr) : List (Key × V) → List (Key × Da) → Prop
  | nil : RpK K H φ χ [] []
  | cons {k : Key} {v : V} {d : Da} {vs : List (Key × V)} {ds : List (Key × Da)} : Rp K H φ χ v d → RpK K H φ χ vs ds → RpK K H φ χ ((k, v) :: vs) ((k, d) :: ds)
inductive RpF (K : PySem.W.Frag) (H : Hp) (φ χ : List Addr) : List (Str × V) → List (Str × Da) → Prop
  | nil : RpF K H φ χ [] []
  | cons {k : Str} {v : V} {d : Da} {vs : List (Str × V)} {ds : List (Str × Da)} : Rp K H φ χ v d → RpF K H φ χ vs ds → RpF K H φ χ ((k, v) :: vs) ((k, d) :: ds)
end
/-- from one heap to a later one: what is no cell stays, new cells stand where nothing was -/
structure Adv (H : Hp) (φ : List Addr) (H' : Hp) (φ' : List Addr) : Prop where
  keep : ∀ a o, H a = some o → a ∉ φ → H' a = some o
  pre : ∃ ψ, φ' = φ ++ ψ ∧ ∀ a ∈ ψ, H a = none
  dom : ∀ a, H a ≠ none → H' a ≠ none
theorem nmc {α : Type} {a b : α} {l : List α} (h : a ≠ b ∧ a ∉ l) : a ∉ b :: l := fun m => (List.mem_cons.1 m).elim h.1 h.2
theorem upd_ni {H : Hp} {D a : Addr} {o : HO} {χ : List Addr} (e : D ∈ χ) (m : a ∉ χ) : upd H D o a = H a := upd_ne fun q => m (by rw [q]; exact e)
theorem Adv.refl {H : Hp} {φ : List Addr} : Adv H φ H φ := ⟨fun _ _ h _ => h, ⟨[], by simp, fun _ h => by cases h⟩, fun _ h => h⟩
theorem Adv.nin {H H' : Hp} {φ φ' : List Addr} (A : Adv H φ H' φ') {a : Addr} {o : HO} (h : H a = some o) (n : a ∉ φ) : a ∉ φ' := by
  obtain ⟨ψ, rfl, q⟩ := A.pre
  intro m
  rcases List.mem_append.1 m with m | m
  · exact n m
  · rw [q a m] at h
    cases h
theorem Adv.trans {H H1 H2 : Hp} {φ φ1 φ2 : List Addr} (A : Adv H φ H1 φ1) (B : Adv H1 φ1 H2 φ2) : Adv H φ H2 φ2 where
  keep := fun a o h n => B.keep a o (A.keep a o h n) (A.nin h n)
  pre := by
    obtain ⟨ψ, rfl, q⟩ := A.pre
    obtain ⟨ψ', rfl, q'⟩ := B.pre
    refine ⟨ψ ++ ψ', by simp, fun a m => ?_⟩
    rcases List.mem_append.1 m with m | m
    · exact q a m
    · cases e : H a with
      | none => rfl
      | some o => exact absurd (q' a m) (A.dom a (by rw [e]; simp))
  dom := fun a h => B.dom a (A.dom a h)
theorem Adv.at_ {H H' : Hp} {φ φ' : List Addr} (A : Adv H φ H' φ') {n : Nat} {a : Addr} (h : φ[n]? = some a) : φ'[n]? = some a := by
  obtain ⟨ψ, rfl, _⟩ := A.pre
  rw [List.getElem?_append_left (List.getElem?_eq_some_iff.1 h).1]
  exact h
theorem Adv.le {H H' : Hp} {φ φ' : List Addr} (A : Adv H φ H' φ') : φ.length ≤ φ'.length := by
  obtain ⟨ψ, rfl, _⟩ := A.pre
  simp
/-- a new object -/
theorem Adv.new {H : Hp} {φ : List Addr} {p : Addr} {o : HO} (h : H p = none) : Adv H φ (upd H p o) φ where
  keep := fun a u e _ => Ex.new h a u e
  pre := ⟨[], by simp, fun _ h => by cases h⟩
  dom := fun a e => by
    by_cases q : a = p
    · rw [q, upd_same]; simp
    · rw [upd_ne q]; exact e
/-- a new cell -/
theorem Adv.newC {H : Hp} {φ : List Addr} {p : Addr} {o : HO} (h : H p = none) : Adv H φ (upd H p o) (φ ++ [p]) where
  keep := (Adv.new h).keep
  pre := ⟨[p], rfl, fun a m => by rw [List.mem_singleton.1 m]; exact h⟩
  dom := (Adv.new (φ := φ) h).dom
/-- a cell changes -/
theorem Adv.mut {H : Hp} {φ : List Addr} {p : Addr} {o : HO} (h : p ∈ φ) : Adv H φ (upd H p o) φ where
  keep := fun a u e n => by
    rw [upd_ne (fun q => n (by rw [q]; exact h))]
    exact e
  pre := ⟨[], by simp, fun _ h => by cases h⟩
  dom := fun a e => by
    by_cases q : a = p
    · rw [q, upd_same]; simp
    · rw [upd_ne q]; exact e
/-- later cells are forgotten -/
theorem Adv.cut {H H' : Hp} {φ φ' : List Addr} (A : Adv H φ H' φ') {n : Nat} (h : φ.length ≤ n) : Adv H φ H' (φ'.take n) where
  keep := A.keep
  pre := by
    obtain ⟨ψ, rfl, q⟩ := A.pre
    refine ⟨ψ.take (n - φ.length), ?_, fun a m => q a (List.mem_of_mem_take m)⟩
    rw [List.take_append, List.take_of_length_le h]
  dom := A.dom
section
variable {K : PySem.W.Frag} {χ : List Addr}
mutual
theorem Rp.adv {H H' : Hp} {φ φ' : List Addr} (A : Adv H φ H' φ') : ∀ {v : V} {d : Da}, Rp K H φ χ v d → Rp K H' φ' χ v d
  | _, _, .non => .non
  | _, _, .bl b => .bl b
  | _, _, .int i => .int i
  | _, _, .str h => .str h
  | _, _, .ty n => .ty n
  | _, _, .gl x => .gl x
  | _, _, .tup h n m r => .tup (A.keep _ _ h n) (A.nin h n) m (RpL.adv A r)
  | _, _, .lst h n m r => .lst (A.keep _ _ h n) (A.nin h n) m (RpL.adv A r)
  | _, _, .dct h c n m r => .dct (A.keep _ _ h n) c (A.nin h n) m (RpK.adv A r)
  | _, _, .obj h n m r => .obj (A.keep _ _ h n) (A.nin h n) m (RpF.adv A r)
  | _, _, .klR h e n m r => .klR (A.keep _ _ h n) e (A.nin h n) m (RpL.adv A r)
  | _, _, .klK h r => .klK h (RpL.adv A r)
  | _, _, .ktK h r => .ktK h (RpL.adv A r)
  | _, _, .cell h => .cell (A.at_ h)
  | _, _, .exv h n m r => .exv (A.keep _ _ h n) (A.nin h n) m (RpF.adv A r)
theorem RpL.adv {H H' : Hp} {φ φ' : List Addr} (A : Adv H φ H' φ') : ∀ {v : List V} {d : List Da}, RpL K H φ χ v d → RpL K H' φ' χ v d
  | _, _, .nil => .nil
  | _, _, .cons h r => .cons (Rp.adv A h) (RpL.adv A r)
theorem RpK.adv {H H' : Hp} {φ φ' : List Addr} (A : Adv H φ H' φ') : ∀ {v : List (Key × V)} {d : List (Key × Da)}, RpK K H φ χ v d → RpK K H' φ' χ v d
  | _, _, .nil => .nil
  | _, _, .cons h r => .cons (Rp.adv A h) (RpK.adv A r)
theorem RpF.adv {H H' : Hp} {φ φ' : List Addr} (A : Adv H φ H' φ') : ∀ {v : List (Str × V)} {d : List (Str × Da)}, RpF K H φ χ v d → RpF K H' φ' χ v d
  | _, _, .nil => .nil
  | _, _, .cons h r => .cons (Rp.adv A h) (RpF.adv A r)
end
mutual
/-- addresses where nothing is may be hidden -/
theorem Rp.wide {H : Hp} {φ χ1 : List Addr} (e : ∀ a ∈ χ1, a ∈ χ ∨ H a = none) : ∀ {v : V} {d : Da}, Rp K H φ χ v d → Rp K H φ χ1 v d
  | _, _, .non => .non
  | _, _, .bl b => .bl b
  | _, _, .int i => .int i
  | _, _, .str h => .str h
  | _, _, .ty n => .ty n
  | _, _, .gl x => .gl x
  | _, _, .tup h n m r => .tup h n (fun q => (e _ q).elim m fun z => ne_of_none h z rfl) (RpL.wide e r)
  | _, _, .lst h n m r => .lst h n (fun q => (e _ q).elim m fun z => ne_of_none h z rfl) (RpL.wide e r)
  | _, _, .dct h c n m r => .dct h c n (fun q => (e _ q).elim m fun z => ne_of_none h z rfl) (RpK.wide e r)
  | _, _, .obj h n m r => .obj h n (fun q => (e _ q).elim m fun z => ne_of_none h z rfl) (RpF.wide e r)
  | _, _, .klR h q n m r => .klR h q n (fun q => (e _ q).elim m fun z => ne_of_none h z rfl) (RpL.wide e r)
  | _, _, .klK h r => .klK h (RpL.wide e r)
  | _, _, .ktK h r => .ktK h (RpL.wide e r)
  | _, _, .cell h => .cell h
  | _, _, .exv h n m r => .exv h n (fun q => (e _ q).elim m fun z => ne_of_none h z rfl) (RpF.wide e r)
theorem RpL.wide {H : Hp} {φ χ1 : List Addr} (e : ∀ a ∈ χ1, a ∈ χ ∨ H a = none) : ∀ {v : List V} {d : List Da}, RpL K H φ χ v d → RpL K H φ χ1 v d
  | _, _, .nil => .nil
  | _, _, .cons h r => .cons (Rp.wide e h) (RpL.wide e r)
theorem RpK.wide {H : Hp} {φ χ1 : List Addr} (e : ∀ a ∈ χ1, a ∈ χ ∨ H a = none) : ∀ {v : List (Key × V)} {d : List (Key × Da)}, RpK K H φ χ v d → RpK K H φ χ1 v d
  | _, _, .nil => .nil
  | _, _, .cons h r => .cons (Rp.wide e h) (RpK.wide e r)
theorem RpF.wide {H : Hp} {φ χ1 : List Addr} (e : ∀ a ∈ χ1, a ∈ χ ∨ H a = none) : ∀ {v : List (Str × V)} {d : List (Str × Da)}, RpF K H φ χ v d → RpF K H φ χ1 v d
  | _, _, .nil => .nil
  | _, _, .cons h r => .cons (Rp.wide e h) (RpF.wide e r)
end
theorem hidden {H : Hp} {D : Addr} (e : H D = none) : ∀ a ∈ D :: χ, a ∈ χ ∨ H a = none := fun a m => (List.mem_cons.1 m).elim (fun z => .inr (by rw [z]; exact e)) .inl
theorem Rp.hide {H : Hp} {φ : List Addr} {D : Addr} (e : H D = none) {v : V} {d : Da} (h : Rp K H φ χ v d) : Rp K H φ (D :: χ) v d := h.wide (hidden e)
theorem RpL.hide {H : Hp} {φ : List Addr} {D : Addr} (e : H D = none) {v : List V} {d : List Da} (h : RpL K H φ χ v d) : RpL K H φ (D :: χ) v d := h.wide (hidden e)
theorem RpK.hide {H : Hp} {φ : List Addr} {D : Addr} (e : H D = none) {v : List (Key × V)} {d : List (Key × Da)} (h : RpK K H φ χ v d) : RpK K H φ (D :: χ) v d := h.wide (hidden e)
theorem RpF.hide {H : Hp} {φ : List Addr} {D : Addr} (e : H D = none) {v : List (Str × V)} {d : List (Str × Da)} (h : RpF K H φ χ v d) : RpF K H φ (D :: χ) v d := h.wide (hidden e)
mutual
theorem Rp.bare {H : Hp} {φ : List Addr} {D : Addr} : ∀ {v : V} {d : Da}, Rp K H φ (D :: χ) v d → Rp K H φ χ v d
  | _, _, .non => .non
  | _, _, .bl b => .bl b
  | _, _, .int i => .int i
  | _, _, .str h => .str h
  | _, _, .ty n => .ty n
  | _, _, .gl x => .gl x
  | _, _, .tup h n m r => .tup h n (fun q => m (List.mem_cons_of_mem _ q)) (RpL.bare r)
  | _, _, .lst h n m r => .lst h n (fun q => m (List.mem_cons_of_mem _ q)) (RpL.bare r)
  | _, _, .dct h c n m r => .dct h c n (fun q => m (List.mem_cons_of_mem _ q)) (RpK.bare r)
  | _, _, .obj h n m r => .obj h n (fun q => m (List.mem_cons_of_mem _ q)) (RpF.bare r)
  | _, _, .klR h q n m r => .klR h q n (fun q => m (List.mem_cons_of_mem _ q)) (RpL.bare r)
  | _, _, .klK h r => .klK h (RpL.bare r)
  | _, _, .ktK h r => .ktK h (RpL.bare r)
  | _, _, .cell h => .cell h
  | _, _, .exv h n m r => .exv h n (fun q => m (List.mem_cons_of_mem _ q)) (RpF.bare r)
theorem RpL.bare {H : Hp} {φ : List Addr} {D : Addr} : ∀ {v : List V} {d : List Da}, RpL K H φ (D :: χ) v d → RpL K H φ χ v d
  | _, _, .nil => .nil
  | _, _, .cons h r => .cons (Rp.bare h) (RpL.bare r)
theorem RpK.bare {H : Hp} {φ : List Addr} {D : Addr} : ∀ {v : List (Key × V)} {d : List (Key × Da)}, RpK K H φ (D :: χ) v d → RpK K H φ χ v d
  | _, _, .nil => .nil
  | _, _, .cons h r => .cons (Rp.bare h) (RpK.bare r)
theorem RpF.bare {H : Hp} {φ : List Addr} {D : Addr} : ∀ {v : List (Str × V)} {d : List (Str × Da)}, RpF K H φ (D :: χ) v d → RpF K H φ χ v d
  | _, _, .nil => .nil
  | _, _, .cons h r => .cons (Rp.bare h) (RpF.bare r)
end
mutual
/-- a change at a hidden address -/
theorem Rp.at_ {H : Hp} {φ : List Addr} {D : Addr} {o : HO} (e : D ∈ χ) : ∀ {v : V} {d : Da}, Rp K H φ χ v d → Rp K (upd H D o) φ χ v d
  | _, _, .non => .non
  | _, _, .bl b => .bl b
  | _, _, .int i => .int i
  | _, _, .str h => .str h
  | _, _, .ty n => .ty n
  | _, _, .gl x => .gl x
  | _, _, .tup h n m r => .tup (by rw [upd_ni e m]; exact h) n m (RpL.at_ e r)
  | _, _, .lst h n m r => .lst (by rw [upd_ni e m]; exact h) n m (RpL.at_ e r)
  | _, _, .dct h c n m r => .dct (by rw [upd_ni e m]; exact h) c n m (RpK.at_ e r)
  | _, _, .obj h n m r => .obj (by rw [upd_ni e m]; exact h) n m (RpF.at_ e r)
  | _, _, .klR h q n m r => .klR (by rw [upd_ni e m]; exact h) q n m (RpL.at_ e r)
  | _, _, .klK h r => .klK h (RpL.at_ e r)
  | _, _, .ktK h r => .ktK h (RpL.at_ e r)
  | _, _, .cell h => .cell h
  | _, _, .exv h n m r => .exv (by rw [upd_ni e m]; exact h) n m (RpF.at_ e r)
theorem RpL.at_ {H : Hp} {φ : List Addr} {D : Addr} {o : HO} (e : D ∈ χ) : ∀ {v : List V} {d : List Da}, RpL K H φ χ v d → RpL K (upd H D o) φ χ v d
  | _, _, .nil => .nil
  | _, _, .cons h r => .cons (Rp.at_ e h) (RpL.at_ e r)
theorem RpK.at_ {H : Hp} {φ : List Addr} {D : Addr} {o : HO} (e : D ∈ χ) : ∀ {v : List (Key × V)} {d : List (Key × Da)}, RpK K H φ χ v d → RpK K (upd H D o) φ χ v d
  | _, _, .nil => .nil
  | _, _, .cons h r => .cons (Rp.at_ e h) (RpK.at_ e r)
theorem RpF.at_ {H : Hp} {φ : List Addr} {D : Addr} {o : HO} (e : D ∈ χ) : ∀ {v : List (Str × V)} {d : List (Str × Da)}, RpF K H φ χ v d → RpF K (upd H D o) φ χ v d
  | _, _, .nil => .nil
  | _, _, .cons h r => .cons (Rp.at_ e h) (RpF.at_ e r)
end
end
/-! ### cells below n alone -/
mutual
def cloD (n : Nat) : Da → Bool
  | .tup ds => cloL n ds
  | .lst ds => cloL n ds
  | .kl ds => cloL n ds
  | .kt ds => cloL n ds
  | .dct kds => cloK n kds
  | .obj _ fds => cloF n fds
  | .exv _ _ _ fds => cloF n fds
  | .cell m => decide (m < n)
  | .non => true
  | .bl _ => true
  | .int _ => true
  | .str _ => true
  | .ty _ => true
  | .gl _ => true
def cloL (n : Nat) : List Da → Bool
  | [] => true
  | d :: ds => cloD n d && cloL n ds
def cloK (n : Nat) : List (Key × Da) → Bool
  | [] => true
  | (_, d) :: ds => cloD n d && cloK n ds
def cloF (n : Nat) : List (Str × Da) → Bool
  | [] => true
  | (_, d) :: ds => cloD n d && cloF n ds
end
section
variable {K : PySem.W.Frag} {χ : List Addr} {H : Hp}
theorem take_at {α : Type} {l : List α} {n i : Nat} {a : α} (h : l[i]? = some a) (lt : i < n) : (l.take n)[i]? = some a := by
  rw [List.getElem?_take]
  simp [lt, h]
theorem nin_take {α : Type} {l : List α} {n : Nat} {a : α} (h : a ∉ l) : a ∉ l.take n := fun m => h (List.mem_of_mem_take m)
mutual
theorem Rp.cut {φ : List Addr} {n : Nat} : ∀ {v : V} {d : Da}, Rp K H φ χ v d → cloD n d = true → Rp K H (φ.take n) χ v d
  | _, _, .non, _ => .non
  | _, _, .bl b, _ => .bl b
  | _, _, .int i, _ => .int i
  | _, _, .str h, _ => .str h
  | _, _, .ty n, _ => .ty n
  | _, _, .gl x, _ => .gl x
  | _, _, .tup h a m r, c => .tup h (nin_take a) m (RpL.cut r (by unfold cloD at c; exact c))
  | _, _, .lst h a m r, c => .lst h (nin_take a) m (RpL.cut r (by unfold cloD at c; exact c))
  | _, _, .dct h q a m r, c => .dct h q (nin_take a) m (RpK.cut r (by unfold cloD at c; exact c))
  | _, _, .obj h a m r, c => .obj h (nin_take a) m (RpF.cut r (by unfold cloD at c; exact c))
  | _, _, .klR h q a m r, c => .klR h q (nin_take a) m (RpL.cut r (by unfold cloD at c; exact c))
  | _, _, .klK h r, c => .klK h (RpL.cut r (by unfold cloD at c; exact c))
  | _, _, .ktK h r, c => .ktK h (RpL.cut r (by unfold cloD at c; exact c))
  | _, _, .cell h, c => .cell (take_at h (by unfold cloD at c; exact of_decide_eq_true c))
  | _, _, .exv h a m r, c => .exv h (nin_take a) m (RpF.cut r (by unfold cloD at c; exact c))
theorem RpL.cut {φ : List Addr} {n : Nat} : ∀ {v : List V} {d : List Da}, RpL K H φ χ v d → cloL n d = true → RpL K H (φ.take n) χ v d
  | _, _, .nil, _ => .nil
  | _, _, .cons h r, c => by
    unfold cloL at c
    rw [Bool.and_eq_true] at c
    exact .cons (Rp.cut h c.1) (RpL.cut r c.2)
theorem RpK.cut {φ : List Addr} {n : Nat} : ∀ {v : List (Key × V)} {d : List (Key × Da)}, RpK K H φ χ v d → cloK n d = true → RpK K H (φ.take n) χ v d
  | _, _, .nil, _ => .nil
  | _, _, .cons h r, c => by
    unfold cloK at c
    rw [Bool.and_eq_true] at c
    exact .cons (Rp.cut h c.1) (RpK.cut r c.2)
theorem RpF.cut {φ : List Addr} {n : Nat} : ∀ {v : List (Str × V)} {d : List (Str × Da)}, RpF K H φ χ v d → cloF n d = true → RpF K H (φ.take n) χ v d
  | _, _, .nil, _ => .nil
  | _, _, .cons h r, c => by
    unfold cloF at c
    rw [Bool.and_eq_true] at c
    exact .cons (Rp.cut h c.1) (RpF.cut r c.2)
end
mutual
theorem Rp.clo {φ : List Addr} {n : Nat} (l : φ.length ≤ n) : ∀ {v : V} {d : Da}, Rp K H φ χ v d → cloD n d = true
  | _, _, .non => rfl
  | _, _, .bl b => rfl
  | _, _, .int i => rfl
  | _, _, .str h => rfl
  | _, _, .ty n => rfl
  | _, _, .gl x => rfl
  | _, _, .tup h a m r => by unfold cloD; exact RpL.clo l r
  | _, _, .lst h a m r => by unfold cloD; exact RpL.clo l r
  | _, _, .dct h q a m r => by unfold cloD; exact RpK.clo l r
  | _, _, .obj h a m r => by unfold cloD; exact RpF.clo l r
  | _, _, .klR h q a m r => by unfold cloD; exact RpL.clo l r
  | _, _, .klK h r => by unfold cloD; exact RpL.clo l r
  | _, _, .ktK h r => by unfold cloD; exact RpL.clo l r
  | _, _, .cell h => by
    unfold cloD
    exact decide_eq_true (Nat.lt_of_lt_of_le (List.getElem?_eq_some_iff.1 h).1 l)
  | _, _, .exv h a m r => by unfold cloD; exact RpF.clo l r
theorem RpL.clo {φ : List Addr} {n : Nat} (l : φ.length ≤ n) : ∀ {v : List V} {d : List Da}, RpL K H φ χ v d → cloL n d = true
  | _, _, .nil => rfl
  | _, _, .cons h r => by unfold cloL; rw [Rp.clo l h, RpL.clo l r]; rfl
theorem RpK.clo {φ : List Addr} {n : Nat} (l : φ.length ≤ n) : ∀ {v : List (Key × V)} {d : List (Key × Da)}, RpK K H φ χ v d → cloK n d = true
  | _, _, .nil => rfl
  | _, _, .cons h r => by unfold cloK; rw [Rp.clo l h, RpK.clo l r]; rfl
theorem RpF.clo {φ : List Addr} {n : Nat} (l : φ.length ≤ n) : ∀ {v : List (Str × V)} {d : List (Str × Da)}, RpF K H φ χ v d → cloF n d = true
  | _, _, .nil => rfl
  | _, _, .cons h r => by unfold cloF; rw [Rp.clo l h, RpF.clo l r]; rfl
end
/-! ### lists of data -/
theorem RpL.len {φ : List Addr} : ∀ {vs : List V} {ds : List Da}, RpL K H φ χ vs ds → vs.length = ds.length
  | _, _, .nil => rfl
  | _, _, .cons _ r => by rw [List.length_cons, List.length_cons, r.len]
theorem RpL.app {φ : List Addr} : ∀ {vs : List V} {ds : List Da} {ws : List V} {es : List Da}, RpL K H φ χ vs ds → RpL K H φ χ ws es → RpL K H φ χ (vs ++ ws) (ds ++ es)
  | _, _, _, _, .nil, r => r
  | _, _, _, _, .cons h l, r => .cons h (l.app r)
theorem RpL.get {φ : List Addr} : ∀ {vs : List V} {ds : List Da} {i : Nat} {d : Da}, RpL K H φ χ vs ds → ds[i]? = some d → ∃ v, vs[i]? = some v ∧ Rp K H φ χ v d
  | _, _, _, _, .nil, e => by simp at e
  | _, _, 0, _, .cons h _, e => by
    simp only [List.getElem?_cons_zero, Option.some.injEq] at e
    subst e
    exact ⟨_, rfl, h⟩
  | _, _, i + 1, _, .cons _ r, e => by
    obtain ⟨v, h1, h2⟩ := r.get (i := i) (by simpa using e)
    exact ⟨v, by simpa using h1, h2⟩
theorem RpL.get' {φ : List Addr} : ∀ {vs : List V} {ds : List Da} {i : Nat} {v : V}, RpL K H φ χ vs ds → vs[i]? = some v → ∃ d, ds[i]? = some d ∧ Rp K H φ χ v d
  | _, _, _, _, .nil, e => by simp at e
  | _, _, 0, _, .cons h _, e => by
    simp only [List.getElem?_cons_zero, Option.some.injEq] at e
    subst e
    exact ⟨_, rfl, h⟩
  | _, _, i + 1, _, .cons _ r, e => by
    obtain ⟨v, h1, h2⟩ := r.get' (i := i) (by simpa using e)
    exact ⟨v, by simpa using h1, h2⟩
theorem RpL.take {φ : List Addr} : ∀ {vs : List V} {ds : List Da} (n : Nat), RpL K H φ χ vs ds → RpL K H φ χ (vs.take n) (ds.take n)
  | _, _, 0, _ => .nil
  | _, _, _ + 1, .nil => .nil
  | _, _, n + 1, .cons h r => .cons h (r.take n)
theorem RpL.drop {φ : List Addr} : ∀ {vs : List V} {ds : List Da} (n : Nat), RpL K H φ χ vs ds → RpL K H φ χ (vs.drop n) (ds.drop n)
  | _, _, 0, r => r
  | _, _, _ + 1, .nil => .nil
  | _, _, n + 1, .cons _ r => r.drop n
theorem RpL.set {φ : List Addr} {v : V} {d : Da} (h : Rp K H φ χ v d) : ∀ {vs : List V} {ds : List Da} (i : Nat), RpL K H φ χ vs ds → RpL K H φ χ (vs.set i v) (ds.set i d)
  | _, _, _, .nil => .nil
  | _, _, 0, .cons _ r => .cons h r
  | _, _, i + 1, .cons q r => .cons q (RpL.set h i r)
theorem RpL.erase {φ : List Addr} : ∀ {vs : List V} {ds : List Da} (i : Nat), RpL K H φ χ vs ds → RpL K H φ χ (vs.eraseIdx i) (ds.eraseIdx i)
  | _, _, _, .nil => .nil
  | _, _, 0, .cons _ r => r
  | _, _, i + 1, .cons q r => .cons q (RpL.erase i r)
theorem RpL.mem {φ : List Addr} : ∀ {vs : List V} {ds : List Da}, RpL K H φ χ vs ds → ∀ v ∈ vs, ∃ d ∈ ds, Rp K H φ χ v d
  | _, _, .nil => fun v hv => by cases hv
  | _, _, .cons h r => fun v hv => by
    rcases List.mem_cons.mp hv with rfl | hv
    · exact ⟨_, List.mem_cons_self .., h⟩
    · obtain ⟨t, ht, q⟩ := r.mem v hv
      exact ⟨t, List.mem_cons_of_mem _ ht, q⟩
theorem RpK.len {φ : List Addr} : ∀ {vs : List (Key × V)} {ds : List (Key × Da)}, RpK K H φ χ vs ds → vs.length = ds.length
  | _, _, .nil => rfl
  | _, _, .cons _ r => by rw [List.length_cons, List.length_cons, r.len]
end
/-! ### the memory: what the cells hold -/
def CellAt (K : PySem.W.Frag) (H : Hp) (φ χ : List Addr) (a : Addr) : Da → Prop
  | .lst ds => ∃ vs, H a = some (.lst vs) ∧ RpL K H φ χ vs ds
  | .dct kds => ∃ kvs, H a = some (.dK kvs) ∧ RpK K H φ χ kvs kds
  | .obj c fds => ∃ dx fs, H a = some (.ins (He.ga K c) dx fs) ∧ RpF K H φ χ fs fds
  | .gl _ => H a ≠ none
  | _ => False
structure Mm (K : PySem.W.Frag) (H : Hp) (φ χ : List Addr) (M : Mem) : Prop where
  nd : φ.Nodup
  len : φ.length = M.length
  dis : ∀ a ∈ φ, a ∉ χ
  hid : ∀ a ∈ χ, H a ≠ none
  at_ : ∀ (n : Nat) (a : Addr) (d : Da), φ[n]? = some a → M[n]? = some d → CellAt K H φ χ a d
/-- the slots -/
structure Rs (K : PySem.W.Frag) (H : Hp) (φ χ : List Addr) (σ : L2.St) (ρ : Sl) : Prop where
  len : σ.length = ρ.length
  at_ : ∀ (i : Nat) (d : Da), ρ[i]? = some (some d) → ∃ v, σ[i]? = some (some v) ∧ Rp K H φ χ v d
section
variable {K : PySem.W.Frag} {χ φ : List Addr} {H : Hp} {M : Mem}
theorem upd_some {H : Hp} {p a : Addr} {o : HO} (e : H a ≠ none) : upd H p o a ≠ none := by
  by_cases q : a = p
  · rw [q, upd_same]; simp
  · rw [upd_ne q]; exact e
theorem CellAt.in_ {a : Addr} {d : Da} (h : CellAt K H φ χ a d) : H a ≠ none := by
  cases d with
  | lst ds => obtain ⟨_, e, _⟩ := h; rw [e]; simp
  | dct ds => obtain ⟨_, e, _⟩ := h; rw [e]; simp
  | obj c ds => obtain ⟨_, _, e, _⟩ := h; rw [e]; simp
  | gl x => exact h
  | _ => exact h.elim
theorem Mm.has (m : Mm K H φ χ M) {n : Nat} {a : Addr} (h : φ[n]? = some a) : ∃ d, M[n]? = some d ∧ CellAt K H φ χ a d := by
  have l := (List.getElem?_eq_some_iff.1 h).1
  have l2 : n < M.length := by rw [← m.len]; exact l
  exact ⟨M[n], by simp [l2], m.at_ n a _ h (by simp [l2])⟩
theorem Mm.has' (m : Mm K H φ χ M) {n : Nat} {d : Da} (h : M[n]? = some d) : ∃ a, φ[n]? = some a ∧ CellAt K H φ χ a d := by
  have l := (List.getElem?_eq_some_iff.1 h).1
  have l2 : n < φ.length := by rw [m.len]; exact l
  exact ⟨φ[n], by simp [l2], m.at_ n _ d (by simp [l2]) h⟩
theorem Mm.dom (m : Mm K H φ χ M) {a : Addr} (h : a ∈ φ) : H a ≠ none := by
  obtain ⟨n, l, e⟩ := List.getElem_of_mem h
  obtain ⟨d, _, c⟩ := m.has (n := n) (a := a) (by rw [List.getElem?_eq_getElem l, e])
  exact c.in_
theorem CellAt.adv {H' : Hp} {φ' : List Addr} {a : Addr} {d : Da} (A : Adv H φ H' φ') (e : H' a = H a) (h : CellAt K H φ χ a d) : CellAt K H' φ' χ a d := by
  cases d with
  | lst ds => obtain ⟨vs, q, r⟩ := h; exact ⟨vs, e.trans q, r.adv A⟩
  | dct ds => obtain ⟨vs, q, r⟩ := h; exact ⟨vs, e.trans q, r.adv A⟩
  | obj c ds => obtain ⟨dx, vs, q, r⟩ := h; exact ⟨dx, vs, e.trans q, r.adv A⟩
  | gl x => show H' a ≠ none; rw [e]; exact h
  | _ => exact h.elim
theorem Mm.new {p : Addr} {o : HO} (m : Mm K H φ χ M) (h : H p = none) : Mm K (upd H p o) φ χ M where
  nd := m.nd
  len := m.len
  dis := m.dis
  hid := fun a ha => upd_some (m.hid a ha)
  at_ := fun n a d e1 e2 => (m.at_ n a d e1 e2).adv (Adv.new h) (upd_ne fun q => m.dom (List.mem_of_getElem? e1) (by rw [q]; exact h))
theorem Mm.newC {p : Addr} {o : HO} {d : Da} (m : Mm K H φ χ M) (h : H p = none) (c : CellAt K (upd H p o) (φ ++ [p]) χ p d) : Mm K (upd H p o) (φ ++ [p]) χ (M ++ [d]) where
  nd := by
    rw [List.nodup_append]
    refine ⟨m.nd, by simp, fun a ha b hb q => ?_⟩
    rw [List.mem_singleton.1 hb] at q
    exact m.dom ha (by rw [q]; exact h)
  len := by rw [List.length_append, List.length_append, m.len]; rfl
  dis := fun a ha => by
    rcases List.mem_append.1 ha with ha | ha
    · exact m.dis a ha
    · rw [List.mem_singleton.1 ha]; exact fun q => m.hid p q h
  hid := fun a ha => upd_some (m.hid a ha)
  at_ := fun n a e e1 e2 => by
    by_cases l : n < φ.length
    · rw [List.getElem?_append_left l] at e1
      rw [List.getElem?_append_left (by rw [← m.len]; exact l)] at e2
      exact (m.at_ n a e e1 e2).adv (Adv.newC h) (upd_ne fun q => m.dom (List.mem_of_getElem? e1) (by rw [q]; exact h))
    · have l2 : φ.length ≤ n := Nat.le_of_not_lt l
      rw [List.getElem?_append_right l2] at e1
      rw [List.getElem?_append_right (by rw [← m.len]; exact l2)] at e2
      have z : n - φ.length = 0 := by
        have := (List.getElem?_eq_some_iff.1 e1).1
        simp at this
        omega
      rw [z] at e1
      rw [show n - M.length = 0 by rw [← m.len]; exact z] at e2
      simp at e1 e2
      rw [← e1, ← e2]
      exact c
theorem Mm.mut {n : Nat} {a : Addr} {o : HO} {d : Da} (m : Mm K H φ χ M) (h : φ[n]? = some a) (c : CellAt K (upd H a o) φ χ a d) : Mm K (upd H a o) φ χ (M.set n d) where
  nd := m.nd
  len := by rw [List.length_set]; exact m.len
  dis := m.dis
  hid := fun a ha => upd_some (m.hid a ha)
  at_ := fun k b e e1 e2 => by
    by_cases q : k = n
    · rw [q] at e1 e2
      have l : n < M.length := by rw [← m.len]; exact (List.getElem?_eq_some_iff.1 h).1
      rw [List.getElem?_set_self l] at e2
      cases e2
      rw [h] at e1
      cases e1
      exact c
    · rw [List.getElem?_set_ne (Ne.symm q)] at e2
      refine (m.at_ k b e e1 e2).adv (Adv.mut (List.mem_of_getElem? h)) (upd_ne fun z => q ?_)
      subst z
      have l1 := List.getElem?_eq_some_iff.1 e1
      exact (List.getElem?_inj l1.1 m.nd).1 (e1.trans h.symm)
theorem Mm.hideN {D : Addr} {o : HO} (m : Mm K H φ χ M) (h : H D = none) : Mm K (upd H D o) φ (D :: χ) M where
  nd := m.nd
  len := m.len
  dis := fun a ha => nmc ⟨fun q => m.dom ha (by rw [q]; exact h), m.dis a ha⟩
  hid := fun a ha => by
    rcases List.mem_cons.1 ha with rfl | ha
    · rw [upd_same]; simp
    · exact upd_some (m.hid a ha)
  at_ := fun n a d e1 e2 => by
    have c := m.at_ n a d e1 e2
    have ne : a ≠ D := fun q => m.dom (List.mem_of_getElem? e1) (by rw [q]; exact h)
    have hD : D ∈ D :: χ := List.mem_cons_self ..
    cases d with
    | lst ds => obtain ⟨vs, q, r⟩ := c; exact ⟨vs, by rw [upd_ne ne]; exact q, (r.hide h).at_ hD⟩
    | dct ds => obtain ⟨vs, q, r⟩ := c; exact ⟨vs, by rw [upd_ne ne]; exact q, (r.hide h).at_ hD⟩
    | obj c ds => obtain ⟨dx, vs, q, r⟩ := c; exact ⟨dx, vs, by rw [upd_ne ne]; exact q, (r.hide h).at_ hD⟩
    | gl x => show upd H D o a ≠ none; rw [upd_ne ne]; exact c
    | _ => exact c.elim
theorem Mm.bare {D : Addr} (m : Mm K H φ (D :: χ) M) : Mm K H φ χ M where
  nd := m.nd
  len := m.len
  dis := fun a ha => fun q => m.dis a ha (List.mem_cons_of_mem _ q)
  hid := fun a ha => m.hid a (List.mem_cons_of_mem _ ha)
  at_ := fun n a d e1 e2 => by
    have c := m.at_ n a d e1 e2
    cases d with
    | lst ds => obtain ⟨vs, q, r⟩ := c; exact ⟨vs, q, r.bare⟩
    | dct ds => obtain ⟨vs, q, r⟩ := c; exact ⟨vs, q, r.bare⟩
    | obj c ds => obtain ⟨dx, vs, q, r⟩ := c; exact ⟨dx, vs, q, r.bare⟩
    | gl x => exact c
    | _ => exact c.elim
theorem Mm.updH {D : Addr} {o : HO} (m : Mm K H φ χ M) (h : D ∈ χ) : Mm K (upd H D o) φ χ M where
  nd := m.nd
  len := m.len
  dis := m.dis
  hid := fun a ha => upd_some (m.hid a ha)
  at_ := fun n a d e1 e2 => by
    have c := m.at_ n a d e1 e2
    have ne : a ≠ D := fun q => m.dis a (List.mem_of_getElem? e1) (by rw [q]; exact h)
    cases d with
    | lst ds => obtain ⟨vs, q, r⟩ := c; exact ⟨vs, by rw [upd_ne ne]; exact q, r.at_ h⟩
    | dct ds => obtain ⟨vs, q, r⟩ := c; exact ⟨vs, by rw [upd_ne ne]; exact q, r.at_ h⟩
    | obj c ds => obtain ⟨dx, vs, q, r⟩ := c; exact ⟨dx, vs, by rw [upd_ne ne]; exact q, r.at_ h⟩
    | gl x => show upd H D o a ≠ none; rw [upd_ne ne]; exact c
    | _ => exact c.elim
theorem Mm.cut {n : Nat} (m : Mm K H φ χ M) (c : cloL n (M.take n) = true) : Mm K H (φ.take n) χ (M.take n) where
  nd := m.nd.sublist (List.take_sublist _ _)
  len := by rw [List.length_take, List.length_take, m.len]
  dis := fun a ha => m.dis a (List.mem_of_mem_take ha)
  hid := m.hid
  at_ := fun k a d e1 e2 => by
    have all : ∀ {l : List Da} {k : Nat} {d : Da}, cloL n l = true → l[k]? = some d → cloD n d = true := by
      intro l
      induction l with
      | nil => intro k d _ e; simp at e
      | cons x xs ih =>
        intro k d c e
        unfold cloL at c
        rw [Bool.and_eq_true] at c
        cases k with
        | zero => simp at e; rw [← e]; exact c.1
        | succ k => exact ih c.2 (by simpa using e)
    have cd := all c e2
    have e1' : φ[k]? = some a := by
      rw [List.getElem?_take] at e1
      split at e1
      · exact e1
      · cases e1
    have e2' : M[k]? = some d := by
      rw [List.getElem?_take] at e2
      split at e2
      · exact e2
      · cases e2
    have q := m.at_ k a d e1' e2'
    cases d with
    | lst ds => obtain ⟨vs, q, r⟩ := q; exact ⟨vs, q, r.cut (by unfold cloD at cd; exact cd)⟩
    | dct ds => obtain ⟨vs, q, r⟩ := q; exact ⟨vs, q, r.cut (by unfold cloD at cd; exact cd)⟩
    | obj c ds => obtain ⟨dx, vs, q, r⟩ := q; exact ⟨dx, vs, q, r.cut (by unfold cloD at cd; exact cd)⟩
    | gl x => exact q
    | _ => exact q.elim
theorem Mm.clo (m : Mm K H φ χ M) : cloL M.length M = true := by
  have all : ∀ (l : List Da), (∀ d ∈ l, cloD M.length d = true) → cloL M.length l = true := by
    intro l
    induction l with
    | nil => intro _; rfl
    | cons x xs ih =>
      intro h
      unfold cloL
      rw [h x (List.mem_cons_self ..), ih fun d hd => h d (List.mem_cons_of_mem _ hd)]
      rfl
  refine all M fun d hd => ?_
  obtain ⟨n, l, e⟩ := List.getElem_of_mem hd
  obtain ⟨a, _, c⟩ := m.has' (n := n) (d := d) (by rw [List.getElem?_eq_getElem l, e])
  have le : φ.length ≤ M.length := Nat.le_of_eq m.len
  cases d with
  | lst ds => obtain ⟨vs, _, r⟩ := c; unfold cloD; exact r.clo le
  | dct ds => obtain ⟨vs, _, r⟩ := c; unfold cloD; exact r.clo le
  | obj c ds => obtain ⟨dx, vs, _, r⟩ := c; unfold cloD; exact r.clo le
  | gl x => rfl
  | _ => exact c.elim
variable {σ : L2.St} {ρ : Sl}
theorem Rs.adv {H' : Hp} {φ' : List Addr} (A : Adv H φ H' φ') (r : Rs K H φ χ σ ρ) : Rs K H' φ' χ σ ρ := ⟨r.len, fun i d e => by
  obtain ⟨v, h, q⟩ := r.at_ i d e
  exact ⟨v, h, q.adv A⟩⟩
theorem Rs.set {i : Nat} {v : V} {d : Da} (r : Rs K H φ χ σ ρ) (h : Rp K H φ χ v d) : Rs K H φ χ (σ.set i (some v)) (ρ.set i (some d)) := ⟨by rw [List.length_set, List.length_set]; exact r.len, fun k e q => by
  by_cases z : k = i
  · subst z
    have l : k < ρ.length := by
      have := (List.getElem?_eq_some_iff.1 q).1
      rwa [List.length_set] at this
    rw [List.getElem?_set_self l] at q
    cases q
    exact ⟨v, List.getElem?_set_self (by rw [r.len]; exact l), h⟩
  · rw [List.getElem?_set_ne (Ne.symm z)] at q
    rw [List.getElem?_set_ne (Ne.symm z)]
    exact r.at_ k e q⟩
theorem Rs.gone {i : Nat} (r : Rs K H φ χ σ ρ) : Rs K H φ χ (σ.set i none) (ρ.set i none) := ⟨by rw [List.length_set, List.length_set]; exact r.len, fun k e q => by
  by_cases z : k = i
  · subst z
    have l : k < ρ.length := by
      have := (List.getElem?_eq_some_iff.1 q).1
      rwa [List.length_set] at this
    rw [List.getElem?_set_self l] at q
    cases q
  · rw [List.getElem?_set_ne (Ne.symm z)] at q
    rw [List.getElem?_set_ne (Ne.symm z)]
    exact r.at_ k e q⟩
theorem Rs.hideN {D : Addr} {o : HO} (r : Rs K H φ χ σ ρ) (h : H D = none) : Rs K (upd H D o) φ (D :: χ) σ ρ := ⟨r.len, fun i d e => by
  obtain ⟨v, q, p⟩ := r.at_ i d e
  exact ⟨v, q, (p.hide h).at_ (List.mem_cons_self ..)⟩⟩
theorem Rs.bare {D : Addr} (r : Rs K H φ (D :: χ) σ ρ) : Rs K H φ χ σ ρ := ⟨r.len, fun i d e => by
  obtain ⟨v, q, p⟩ := r.at_ i d e
  exact ⟨v, q, p.bare⟩⟩
theorem Rs.updH {D : Addr} {o : HO} (r : Rs K H φ χ σ ρ) (h : D ∈ χ) : Rs K (upd H D o) φ χ σ ρ := ⟨r.len, fun i d e => by
  obtain ⟨v, q, p⟩ := r.at_ i d e
  exact ⟨v, q, p.at_ h⟩⟩
/-- slots whose data have cells below n alone; the others are forgotten -/
def slClo (n : Nat) (ρ ρ' : Sl) : Prop := ρ'.length = ρ.length ∧ ∀ (i : Nat) (d : Da), ρ'[i]? = some (some d) → ρ[i]? = some (some d) ∧ cloD n d = true
theorem Rs.cut {n : Nat} {ρ' : Sl} (r : Rs K H φ χ σ ρ) (c : slClo n ρ ρ') : Rs K H (φ.take n) χ σ ρ' := ⟨by rw [c.1]; exact r.len, fun i d e => by
  obtain ⟨h, q⟩ := c.2 i d e
  obtain ⟨v, h2, p⟩ := r.at_ i d h
  exact ⟨v, h2, p.cut q⟩⟩
end
end Z

/-! T2: readings over data. For each construct the data's reading (n.., m..) and a theorem (O_.., E_..) that it carries the machine's. -/
namespace Z
open PySem PySem.Spec PyProof.Rows L2 Evl
abbrev TK := Da → Mem → Prop
abbrev WD := Str → List (Str × Da) → Sl → Mem → Prop
abbrev ME := Sl → Mem → TK → Prop
abbrev MA := Sl → Mem → (List Da → Mem → Prop) → Prop
abbrev MT := Sl → Mem → (Bool → Mem → Prop) → Prop
abbrev MO := Da → Da → Mem → TK → Prop
structure En where
  nx : Sl → Mem → Prop
  rt : TK
  bk : Sl → Mem → Prop := fun _ _ => False
  ct : Sl → Mem → Prop := fun _ _ => False
abbrev MS := En → Sl → Mem → Prop
abbrev MG := Da → Sl → Mem → (Sl → Mem → Prop) → Prop
abbrev MGs := List Da → Sl → Mem → (Sl → Mem → Prop) → Prop
def look (M : Mem) : Da → Da
  | .cell n => M.getD n (.gl "")
  | .kl ds => .lst ds
  | .kt ds => .tup ds
  | d => d
def lookE (M : Mem) : Da → Da
  | .cell n => M.getD n (.gl "")
  | .kl _ => .gl ""
  | .kt _ => .gl ""
  | d => d
/-! ### the ends carried -/
def FE (K : PySem.W.Frag) (χ : List Addr) (H : Hp) (φ : List Addr) (Q' : TK) (Q : VK) : Prop := ∀ v d H' φ' M', Adv H φ H' φ' → Mm K H' φ' χ M' → Rp K H' φ' χ v d → Q' d M' → Q v H'
def FA (K : PySem.W.Frag) (χ : List Addr) (H : Hp) (φ : List Addr) (Q' : List Da → Mem → Prop) (Q : List V → Hp → Prop) : Prop := ∀ v d H' φ' M', Adv H φ H' φ' → Mm K H' φ' χ M' → RpL K H' φ' χ v d → Q' d M' → Q v H'
def FT (K : PySem.W.Frag) (χ : List Addr) (H : Hp) (φ : List Addr) (Q' : Bool → Mem → Prop) (Q : Bool → Hp → Prop) : Prop := ∀ b H' φ' M', Adv H φ H' φ' → Mm K H' φ' χ M' → Q' b M' → Q b H'
def FN (K : PySem.W.Frag) (χ : List Addr) (H : Hp) (φ : List Addr) (Q' : Sl → Mem → Prop) (Q : L2.St → Hp → Prop) : Prop := ∀ σ' H' φ' ρ' M', Adv H φ H' φ' → Rs K H' φ' χ σ' ρ' → Mm K H' φ' χ M' → Q' ρ' M' → Q σ' H'
def FW (K : PySem.W.Frag) (χ : List Addr) (H : Hp) (φ : List Addr) (W' : WD) (W : WX) : Prop := ∀ c fs vfs dd σ' H' φ' ρ' M', Adv H φ H' φ' → Rs K H' φ' χ σ' ρ' → Mm K H' φ' χ M' → H' dd = some (.xd vfs) → dd ∉ φ' → dd ∉ χ → RpF K H' φ' χ vfs fs →
  W' c fs ρ' M' → W (.ref (He.ga K c)) (some dd) σ' H'
section
variable {K : PySem.W.Frag} {χ : List Addr} {H H1 : Hp} {φ φ1 : List Addr}
theorem FE.adv {Q' : TK} {Q : VK} (f : FE K χ H φ Q' Q) (A : Adv H φ H1 φ1) : FE K χ H1 φ1 Q' Q := fun v d H' φ' M' B => f v d H' φ' M' (A.trans B)
theorem FA.adv {Q' : List Da → Mem → Prop} {Q : List V → Hp → Prop} (f : FA K χ H φ Q' Q) (A : Adv H φ H1 φ1) : FA K χ H1 φ1 Q' Q := fun v d H' φ' M' B => f v d H' φ' M' (A.trans B)
theorem FT.adv {Q' : Bool → Mem → Prop} {Q : Bool → Hp → Prop} (f : FT K χ H φ Q' Q) (A : Adv H φ H1 φ1) : FT K χ H1 φ1 Q' Q := fun b H' φ' M' B => f b H' φ' M' (A.trans B)
theorem FN.adv {Q' : Sl → Mem → Prop} {Q : L2.St → Hp → Prop} (f : FN K χ H φ Q' Q) (A : Adv H φ H1 φ1) : FN K χ H1 φ1 Q' Q := fun σ' H' φ' ρ' M' B => f σ' H' φ' ρ' M' (A.trans B)
theorem FW.adv {W' : WD} {W : WX} (f : FW K χ H φ W' W) (A : Adv H φ H1 φ1) : FW K χ H1 φ1 W' W := fun c fs vfs dd σ' H' φ' ρ' M' B => f c fs vfs dd σ' H' φ' ρ' M' (A.trans B)
end
/-! ### what carries -/
structure SE (K : PySem.W.Frag) (te : WX → TE) (me : WD → ME) : Prop where
  run : ∀ {χ W W' σ H φ ρ M Q Q'}, Rs K H φ χ σ ρ → Mm K H φ χ M → FW K χ H φ W' W → FE K χ H φ Q' Q → me W' ρ M Q' → te W σ H Q
structure SA (K : PySem.W.Frag) (te : WX → TA) (me : WD → MA) : Prop where
  run : ∀ {χ W W' σ H φ ρ M Q Q'}, Rs K H φ χ σ ρ → Mm K H φ χ M → FW K χ H φ W' W → FA K χ H φ Q' Q → me W' ρ M Q' → te W σ H Q
structure ST (K : PySem.W.Frag) (te : WX → TT) (me : WD → MT) : Prop where
  run : ∀ {χ W W' σ H φ ρ M Q Q'}, Rs K H φ χ σ ρ → Mm K H φ χ M → FW K χ H φ W' W → FT K χ H φ Q' Q → me W' ρ M Q' → te W σ H Q
structure SS (K : PySem.W.Frag) (ts : WX → TS) (ms : WD → MS) : Prop where
  run : ∀ {χ W W' σ H φ ρ M D D'}, Rs K H φ χ σ ρ → Mm K H φ χ M → FW K χ H φ W' W → FN K χ H φ D'.nx D.nx → FE K χ H φ D'.rt D.rt → FN K χ H φ D'.bk D.bk → FN K χ H φ D'.ct D.ct → ms W' D' ρ M → ts W D σ H
structure SG (K : PySem.W.Frag) (g : WX → TG) (mg : WD → MG) : Prop where
  run : ∀ {χ W W' σ H φ ρ M v d Q Q'}, Rs K H φ χ σ ρ → Mm K H φ χ M → FW K χ H φ W' W → Rp K H φ χ v d → FN K χ H φ Q' Q → mg W' d ρ M Q' → g W v σ H Q
structure SGs (K : PySem.W.Frag) (g : WX → TGs) (mg : WD → MGs) : Prop where
  run : ∀ {χ W W' σ H φ ρ M v d Q Q'}, Rs K H φ χ σ ρ → Mm K H φ χ M → FW K χ H φ W' W → RpL K H φ χ v d → FN K χ H φ Q' Q → mg W' d ρ M Q' → g W v σ H Q
/-- operators -/
def SO (K : PySem.W.Frag) (r : R2) (n : MO) : Prop := ∀ {χ H φ M x y dx dy Q Q'}, Mm K H φ χ M → Rp K H φ χ x dx → Rp K H φ χ y dy → FE K χ H φ Q' Q → n dx dy M Q' → r x y H Q
/-- calls of builtins -/
def SC (K : PySem.W.Frag) (r : List V → Hp → VK → Prop) (n : List Da → Mem → TK → Prop) : Prop := ∀ {χ H φ M x dx Q Q'}, Mm K H φ χ M → RpL K H φ χ x dx → FE K χ H φ Q' Q → n dx M Q' → r x H Q
/-- methods -/
def SM (K : PySem.W.Frag) (T : String) (r : V → List V → Hp → VK → Prop) (n : Da → List Da → Mem → TK → Prop) (ok : Da → Mem → Prop) : Prop :=
  (∀ {χ H φ M x dx}, Mm K H φ χ M → Rp K H φ χ x dx → ok dx M → tyV K T x H) ∧ ∀ {χ H φ M x dx xs dxs Q Q'}, Mm K H φ χ M → Rp K H φ χ x dx → RpL K H φ χ xs dxs → FE K χ H φ Q' Q → n dx dxs M Q' → r x xs H Q
section
variable {K : PySem.W.Frag} {χ φ : List Addr} {H : Hp} {M : Mem} {v : V} {d : Da}
theorem Mm.look (m : Mm K H φ χ M) {n : Nat} {a : Addr} (h : φ[n]? = some a) : ∃ d, M.getD n (.gl "") = d ∧ M[n]? = some d ∧ CellAt K H φ χ a d := by
  obtain ⟨d, e, c⟩ := m.has h
  exact ⟨d, by rw [List.getD_eq_getElem?_getD, e]; rfl, e, c⟩
theorem vL (m : Mm K H φ χ M) (h : Rp K H φ χ v d) {ds : List Da} (e : look M d = .lst ds) : ∃ a vs, v = .ref a ∧ SqL K H a vs ∧ RpL K H φ χ vs ds := by
  cases h with
  | lst h n m r => cases e; exact ⟨_, _, rfl, SqL.of h, r⟩
  | klR h q n m r =>
    cases e
    rcases q with rfl | ⟨ob, rfl⟩
    · exact ⟨_, _, rfl, SqL.of h, r⟩
    · exact ⟨_, _, rfl, .inl (.inr ⟨ob, h⟩), r⟩
  | klK h r => cases e; exact ⟨_, _, rfl, h H, r⟩
  | cell h =>
    obtain ⟨d, e1, _, c⟩ := m.look h
    have e2 : M.getD _ (.gl "") = Da.lst ds := e
    rw [e1] at e2
    subst e2
    obtain ⟨vs, q, r⟩ := c
    exact ⟨_, vs, rfl, SqL.of q, r⟩
  | _ => cases e
theorem vT (m : Mm K H φ χ M) (h : Rp K H φ χ v d) {ds : List Da} (e : look M d = .tup ds) : ∃ a vs, v = .ref a ∧ SqT K H a vs ∧ RpL K H φ χ vs ds := by
  cases h with
  | tup h n m r => cases e; exact ⟨_, _, rfl, SqT.of h, r⟩
  | ktK h r => cases e; exact ⟨_, _, rfl, h H, r⟩
  | cell h =>
    obtain ⟨d, e1, _, c⟩ := m.look h
    have e2 : M.getD _ (.gl "") = Da.tup ds := e
    rw [e1] at e2
    subst e2
    exact c.elim
  | _ => cases e
theorem vLE (m : Mm K H φ χ M) (h : Rp K H φ χ v d) {ds : List Da} (e : lookE M d = .lst ds) : ∃ a vs, v = .ref a ∧ H a = some (.lst vs) ∧ RpL K H φ χ vs ds := by
  cases h with
  | lst h n m r => cases e; exact ⟨_, _, rfl, h, r⟩
  | cell h =>
    obtain ⟨d, e1, _, c⟩ := m.look h
    have e2 : M.getD _ (.gl "") = Da.lst ds := e
    rw [e1] at e2
    subst e2
    obtain ⟨vs, q, r⟩ := c
    exact ⟨_, vs, rfl, q, r⟩
  | _ => cases e
theorem vTE (m : Mm K H φ χ M) (h : Rp K H φ χ v d) {ds : List Da} (e : lookE M d = .tup ds) : ∃ a vs, v = .ref a ∧ H a = some (.tup vs) ∧ RpL K H φ χ vs ds := by
  cases h with
  | tup h n m r => cases e; exact ⟨_, _, rfl, h, r⟩
  | cell h =>
    obtain ⟨d, e1, _, c⟩ := m.look h
    have e2 : M.getD _ (.gl "") = Da.tup ds := e
    rw [e1] at e2
    subst e2
    exact c.elim
  | _ => cases e
theorem rd_of {a : Addr} {o : HO} {kvs : List (Key × V)} (h : H a = some o) (c : coreD o = some kvs) : Rd H a (.dK kvs) := by
  cases o with
  | dK k => cases c; exact .inl h
  | frz ob u =>
    cases u with
    | dK k => cases c; exact .inr ⟨ob, h⟩
    | _ => cases c
  | _ => cases c
theorem vD (m : Mm K H φ χ M) (h : Rp K H φ χ v d) {ds : List (Key × Da)} (e : look M d = .dct ds) : ∃ a kvs, v = .ref a ∧ Rd H a (.dK kvs) ∧ RpK K H φ χ kvs ds := by
  cases h with
  | dct h c n m r => cases e; exact ⟨_, _, rfl, rd_of h c, r⟩
  | cell h =>
    obtain ⟨d, e1, _, c⟩ := m.look h
    have e2 : M.getD _ (.gl "") = Da.dct ds := e
    rw [e1] at e2
    subst e2
    obtain ⟨vs, q, r⟩ := c
    exact ⟨_, vs, rfl, .inl q, r⟩
  | _ => cases e
theorem vInt (h : Rp K H φ χ v (.int i)) : v = .int i := by cases h; rfl
theorem vBl (h : Rp K H φ χ v (.bl i)) : v = .bl i := by cases h; rfl
theorem vStr (h : Rp K H φ χ v (.str i)) : v = .str i ∧ i.length ≤ sizeLine := by cases h; exact ⟨rfl, by assumption⟩
theorem vNon (h : Rp K H φ χ v .non) : v = .non := by cases h; rfl
theorem FE.pure {Q' : TK} {Q : VK} (f : FE K χ H φ Q' Q) (m : Mm K H φ χ M) (r : Rp K H φ χ v d) (q : Q' d M) : Q v H := f v d H φ M Adv.refl m r q
theorem RpL.newObj {p : Addr} {o : HO} {vs : List V} {ds : List Da} (h : H p = none) (r : RpL K H φ χ vs ds) : RpL K (upd H p o) φ χ vs ds := r.adv (Adv.new h)
theorem Mm.nin (m : Mm K H φ χ M) {p : Addr} (h : H p = none) : p ∉ φ := fun q => m.dom q h
theorem FE.lst {Q' : TK} {Q : VK} (f : FE K χ H φ Q' Q) (m : Mm K H φ χ M) {vs : List V} {ds : List Da} (r : RpL K H φ χ vs ds) {p : Addr} (h : H p = none) (q : Q' (.lst ds) M) : Q (.ref p) (upd H p (.lst vs)) :=
  f _ _ _ _ M (Adv.new h) (m.new h) (.lst upd_same (m.nin h) (fun c => m.hid p c h) (r.newObj h)) q
theorem FE.tup {Q' : TK} {Q : VK} (f : FE K χ H φ Q' Q) (m : Mm K H φ χ M) {vs : List V} {ds : List Da} (r : RpL K H φ χ vs ds) {p : Addr} (h : H p = none) (q : Q' (.tup ds) M) : Q (.ref p) (upd H p (.tup vs)) :=
  f _ _ _ _ M (Adv.new h) (m.new h) (.tup upd_same (m.nin h) (fun c => m.hid p c h) (r.newObj h)) q
end
end Z

/-! T3: == of data, operators, calls of builtins, methods -/
namespace Z
open PySem PySem.Spec PyProof.Rows L2 Evl
mutual
def eqD : Da → Da → Bool
  | .non, .non => true
  | .bl a, .bl b => decide (a = b)
  | .bl a, .int j => (if a then 1 else 0) == j
  | .int i, .bl b => i == (if b then 1 else 0)
  | .int i, .int j => decide (i = j)
  | .str a, .str b => decide (a = b)
  | .tup a, .tup b => eqL a b
  | .lst a, .lst b => eqL a b
  | _, _ => false
def eqL : List Da → List Da → Bool
  | [], [] => true
  | x :: xs, y :: ys => eqD x y && eqL xs ys
  | _, _ => false
end
/-! plain: None, truths, ints, texts, tuples and lists of such -/
mutual
def plD : Da → Bool
  | .non => true
  | .bl _ => true
  | .int _ => true
  | .str _ => true
  | .tup ds => plL ds
  | .lst ds => plL ds
  | _ => false
def plL : List Da → Bool
  | [] => true
  | d :: ds => plD d && plL ds
end
mutual
def dpD : Da → Nat
  | .tup ds => dpL ds + 1
  | .lst ds => dpL ds + 1
  | _ => 0
def dpL : List Da → Nat
  | [] => 0
  | d :: ds => max (dpD d) (dpL ds)
end
section
variable {K : PySem.W.Frag} {χ φ : List Addr} {H : Hp}
mutual
theorem Rp.det : ∀ {x y : Da} {v : V}, plD x = true → plD y = true → Rp K H φ χ v x → Rp K H φ χ v y → x = y
  | .non, y, v, _, py, hx, hy => by cases hx; cases hy <;> first | rfl | cases py
  | .bl b, y, v, _, py, hx, hy => by cases hx; cases hy <;> first | rfl | cases py
  | .int b, y, v, _, py, hx, hy => by cases hx; cases hy <;> first | rfl | cases py
  | .str b, y, v, _, py, hx, hy => by cases hx; cases hy <;> first | rfl | cases py
  | .tup ds, y, v, px, py, hx, hy => by
    cases hx with
    | tup h1 n1 m1 r1 =>
      cases hy with
      | tup h2 n2 m2 r2 =>
        rw [h1] at h2
        cases h2
        unfold plD at px py
        rw [RpL.det px py r1 r2]
      | lst h2 n2 m2 r2 => rw [h1] at h2; cases h2
      | _ => cases py
  | .lst ds, y, v, px, py, hx, hy => by
    cases hx with
    | lst h1 n1 m1 r1 =>
      cases hy with
      | lst h2 n2 m2 r2 =>
        rw [h1] at h2
        cases h2
        unfold plD at px py
        rw [RpL.det px py r1 r2]
      | tup h2 n2 m2 r2 => rw [h1] at h2; cases h2
      | _ => cases py
  | .ty _, _, _, px, _, _, _ => by cases px
  | .gl _, _, _, px, _, _, _ => by cases px
  | .dct _, _, _, px, _, _, _ => by cases px
  | .obj _ _, _, _, px, _, _, _ => by cases px
  | .kl _, _, _, px, _, _, _ => by cases px
  | .kt _, _, _, px, _, _, _ => by cases px
  | .cell _, _, _, px, _, _, _ => by cases px
  | .exv _ _ _ _, _, _, px, _, _, _ => by cases px
theorem RpL.det : ∀ {xs ys : List Da} {vs : List V}, plL xs = true → plL ys = true → RpL K H φ χ vs xs → RpL K H φ χ vs ys → xs = ys
  | [], ys, vs, _, _, hx, hy => by cases hx; cases hy; rfl
  | x :: xs, ys, vs, px, py, hx, hy => by
    cases hx with
    | cons h1 r1 =>
      cases hy with
      | cons h2 r2 =>
        unfold plL at px py
        rw [Bool.and_eq_true] at px py
        rw [Rp.det px.1 py.1 h1 h2, RpL.det px.2 py.2 r1 r2]
end
mutual
theorem eqD_refl : ∀ {x : Da}, plD x = true → eqD x x = true
  | .non, _ => rfl
  | .bl b, _ => by simp [eqD]
  | .int b, _ => by simp [eqD]
  | .str b, _ => by simp [eqD]
  | .tup ds, p => by unfold plD at p; unfold eqD; exact eqL_refl p
  | .lst ds, p => by unfold plD at p; unfold eqD; exact eqL_refl p
  | .ty _, p => by cases p
  | .gl _, p => by cases p
  | .dct _, p => by cases p
  | .obj _ _, p => by cases p
  | .kl _, p => by cases p
  | .kt _, p => by cases p
  | .cell _, p => by cases p
  | .exv _ _ _ _, p => by cases p
theorem eqL_refl : ∀ {xs : List Da}, plL xs = true → eqL xs xs = true
  | [], _ => rfl
  | x :: xs, p => by
    unfold plL at p
    rw [Bool.and_eq_true] at p
    unfold eqL
    rw [eqD_refl p.1, eqL_refl p.2]
    rfl
end
theorem eqL_len : ∀ {xs ys : List Da}, xs.length ≠ ys.length → eqL xs ys = false
  | [], [], h => absurd rfl h
  | [], _ :: _, _ => rfl
  | _ :: _, [], _ => rfl
  | x :: xs, y :: ys, h => by
    unfold eqL
    rw [eqL_len (xs := xs) (ys := ys) (fun e => h (by rw [List.length_cons, List.length_cons, e])), Bool.and_false]
def eqZs : List Da → List Da → List Bool
  | x :: xs, y :: ys => eqD x y :: eqZs xs ys
  | _, _ => []
theorem eqZs_all : ∀ {xs ys : List Da}, ((eqZs xs ys).all id && decide (xs.length = ys.length)) = eqL xs ys
  | [], [] => rfl
  | [], _ :: _ => rfl
  | _ :: _, [] => rfl
  | x :: xs, y :: ys => by
    unfold eqZs eqL
    rw [← eqZs_all (xs := xs) (ys := ys), List.all_cons, List.length_cons, List.length_cons]
    rw [Bool.and_assoc]
    congr 2
    simp
theorem eqZs_run {E : V → V → Bool → Prop} : ∀ {xs ys : List Da} {vs ws : List V}, RpL K H φ χ vs xs → RpL K H φ χ ws ys → (∀ x ∈ xs, ∀ y ∈ ys, ∀ v w, Rp K H φ χ v x → Rp K H φ χ w y → E v w (eqD x y)) → EqZ E vs ws (eqZs xs ys)
  | [], [], _, _, hx, hy, _ => by cases hx; cases hy; exact .nil
  | [], _ :: _, _, _, hx, hy, _ => by cases hx; cases hy; exact .nilL
  | _ :: _, [], _, _, hx, hy, _ => by cases hx; cases hy; exact .nilR
  | x :: xs, y :: ys, _, _, .cons h1 r1, .cons h2 r2, h => .cons (h x (List.mem_cons_self ..) y (List.mem_cons_self ..) _ _ h1 h2) (eqZs_run r1 r2 fun a ha b hb => h a (List.mem_cons_of_mem _ ha) b (List.mem_cons_of_mem _ hb))
theorem plL_mem : ∀ {xs : List Da}, plL xs = true → ∀ x ∈ xs, plD x = true
  | [], _, _, h => by cases h
  | x :: xs, p, y, h => by
    unfold plL at p
    rw [Bool.and_eq_true] at p
    rcases List.mem_cons.1 h with rfl | h
    · exact p.1
    · exact plL_mem p.2 y h
theorem dpL_mem : ∀ {xs : List Da} {x : Da}, x ∈ xs → dpD x ≤ dpL xs
  | [], _, h => by cases h
  | y :: ys, x, h => by
    unfold dpL
    rcases List.mem_cons.1 h with rfl | h
    · exact Nat.le_max_left ..
    · exact Nat.le_trans (dpL_mem h) (Nat.le_max_right ..)
theorem scR {E : V → V → Bool → Prop} {v w : V} {b : Bool} (h : scB v w = true) (e : decide (v = w) = b) : EqR K H E v w b := by
  rw [← e]
  exact .sc h
theorem eqR_of : ∀ (n : Nat) {x y : Da} {v w : V}, plD x = true → plD y = true → dpD x ≤ n → dpD y ≤ n → Rp K H φ χ v x → Rp K H φ χ w y → EqR K H (EqI K H n) v w (eqD x y) := by
  intro n
  induction n with
  | zero =>
    intro x y v w px py dx dy hx hy
    have bi : ∀ (a b : Bool), decide (V.bl a = V.bl b) = decide (a = b) := fun a b => by simp
    cases hx <;> first | (exfalso; unfold dpD at dx; omega) | (cases px; done) | skip
    all_goals cases hy <;> first | (exfalso; unfold dpD at dy; omega) | (cases py; done) | skip
    all_goals unfold eqD
    all_goals first
      | exact .bi _ _
      | exact .ib _ _
      | exact scR rfl (by simp)
  | succ n ih =>
    have item : ∀ {x y : Da} {v w : V}, plD x = true → plD y = true → dpD x ≤ n → dpD y ≤ n → Rp K H φ χ v x → Rp K H φ χ w y → EqI K H (n + 1) v w (eqD x y) := by
      intro x y v w px py dx dy hx hy
      by_cases same : ∃ a, v = .ref a ∧ w = .ref a
      · obtain ⟨a, rfl, rfl⟩ := same
        have e := Rp.det px py hx hy
        subst e
        exact .inl ⟨a, rfl, rfl, eqD_refl px⟩
      · exact .inr ⟨ih px py dx dy hx hy, fun a e1 e2 => same ⟨a, e1, e2⟩⟩
    have items : ∀ {xs ys : List Da} {vs ws : List V}, plL xs = true → plL ys = true → dpL xs ≤ n → dpL ys ≤ n → RpL K H φ χ vs xs → RpL K H φ χ ws ys → EqZ (EqI K H (n + 1)) vs ws (eqZs xs ys) := by
      intro xs ys vs ws px py dx dy hx hy
      exact eqZs_run hx hy fun x h1 y h2 v w h3 h4 => item (plL_mem px x h1) (plL_mem py y h2) (Nat.le_trans (dpL_mem h1) dx) (Nat.le_trans (dpL_mem h2) dy) h3 h4
    intro x y v w px py dx dy hx hy
    cases hx <;> first | (cases px; done) | skip
    all_goals cases hy <;> first | (cases py; done) | skip
    all_goals unfold eqD
    all_goals first
      | exact .bi _ _
      | exact .ib _ _
      | exact scR rfl (by simp)
      | skip
    all_goals first
      | exact .ts (SqT.of (by assumption)) rfl
      | exact .st (SqT.of (by assumption)) rfl
      | exact .ls (SqL.of (by assumption)) rfl
      | exact .sl (SqL.of (by assumption)) rfl
      | exact .lt (SqL.of (by assumption)) (SqT.of (by assumption))
      | exact .tl (SqT.of (by assumption)) (SqL.of (by assumption))
      | skip
    · rename_i a vs ds h1 n1 m1 r1 b ws es h2 n2 m2 r2
      unfold plD at px py
      unfold dpD at dx dy
      rw [← eqZs_all, ← r1.len, ← r2.len]
      exact .tup (SqT.of h1) (SqT.of h2) (items px py (by omega) (by omega) r1 r2)
    · rename_i a vs ds h1 n1 m1 r1 b ws es h2 n2 m2 r2
      unfold plD at px py
      unfold dpD at dx dy
      by_cases l : vs.length = ws.length
      · have q := EqR.lst (K := K) (H := H) (SqL.of h1) (SqL.of h2) l (items px py (by omega) (by omega) r1 r2)
        rw [← eqZs_all, decide_eq_true (by rw [← r1.len, ← r2.len]; exact l), Bool.and_true]
        exact q
      · rw [eqL_len (by rw [← r1.len, ← r2.len]; exact l)]
        exact .ll (SqL.of h1) (SqL.of h2) l
theorem eqI_of {n : Nat} {x y : Da} {v w : V} (px : plD x = true) (py : plD y = true) (dx : dpD x ≤ n) (dy : dpD y ≤ n) (hx : Rp K H φ χ v x) (hy : Rp K H φ χ w y) : EqI K H (n + 1) v w (eqD x y) := by
  by_cases same : ∃ a, v = .ref a ∧ w = .ref a
  · obtain ⟨a, rfl, rfl⟩ := same
    have e := Rp.det px py hx hy
    subst e
    exact .inl ⟨a, rfl, rfl, eqD_refl px⟩
  · exact .inr ⟨eqR_of n px py dx dy hx hy, fun a e1 e2 => same ⟨a, e1, e2⟩⟩
end
end Z

/-! T4: operators, builtins, methods -/
namespace Z
open PySem PySem.Spec PyProof.Rows L2 Evl
section
variable {K : PySem.W.Frag} {χ φ : List Addr} {H : Hp} {M : Mem} {v : V} {d : Da}
mutual
theorem Rp.weak : ∀ {v : V} {d : Da}, plD d = true → Rp K H φ χ v d → Rp K H [] [] v d
  | _, .non, _, h => by cases h; exact .non
  | _, .bl b, _, h => by cases h; exact .bl b
  | _, .int b, _, h => by cases h; exact .int b
  | _, .str b, _, h => by cases h with | str h => exact .str h
  | _, .tup ds, p, h => by
    cases h with
    | tup h n m r => unfold plD at p; exact .tup h (by simp) (by simp) (RpL.weak p r)
  | _, .lst ds, p, h => by
    cases h with
    | lst h n m r => unfold plD at p; exact .lst h (by simp) (by simp) (RpL.weak p r)
  | _, .ty _, p, _ => by cases p
  | _, .gl _, p, _ => by cases p
  | _, .dct _, p, _ => by cases p
  | _, .obj _ _, p, _ => by cases p
  | _, .kl _, p, _ => by cases p
  | _, .kt _, p, _ => by cases p
  | _, .cell _, p, _ => by cases p
  | _, .exv _ _ _ _, p, _ => by cases p
theorem RpL.weak : ∀ {v : List V} {d : List Da}, plL d = true → RpL K H φ χ v d → RpL K H [] [] v d
  | _, [], _, h => by cases h; exact .nil
  | _, d :: ds, p, h => by
    cases h with
    | cons h r =>
      unfold plL at p
      rw [Bool.and_eq_true] at p
      exact .cons (Rp.weak p.1 h) (RpL.weak p.2 r)
end
theorem weakE (m : Mm K H φ χ M) (h : Rp K H φ χ v d) (p : plD (lookE M d) = true) : Rp K H [] [] v (lookE M d) := by
  cases h with
  | cell h =>
    obtain ⟨d, e1, _, c⟩ := m.look h
    have e2 : lookE M (.cell _) = d := e1
    rw [e2] at p ⊢
    cases d with
    | lst ds =>
      obtain ⟨vs, q, r⟩ := c
      unfold plD at p
      exact .lst q (by simp) (by simp) (RpL.weak p r)
    | dct _ => cases p
    | obj _ _ => cases p
    | gl _ => cases p
    | _ => exact c.elim
  | klR h q n m r => cases p
  | klK h r => cases p
  | ktK h r => cases p
  | non => exact .non
  | bl b => exact .bl b
  | int i => exact .int i
  | str h => exact .str h
  | tup h n m r => exact Rp.weak p (.tup h n m r)
  | lst h n m r => exact Rp.weak p (.lst h n m r)
  | _ => cases p

/-- plain and not too deep -/
def pd (d : Da) : Prop := plD d = true ∧ dpD d ≤ 59
def pdL (ds : List Da) : Prop := plL ds = true ∧ dpL ds ≤ 59
def nEq : MO := fun x y M Q => pd (lookE M x) ∧ pd (lookE M y) ∧ Q (.bl (eqD (lookE M x) (lookE M y))) M
def nNe : MO := fun x y M Q => pd (lookE M x) ∧ pd (lookE M y) ∧ Q (.bl (!eqD (lookE M x) (lookE M y))) M
theorem O_eq : SO K (rEqA K) nEq := by
  intro χ H φ M x y dx dy Q Q' m hx hy f ⟨p1, p2, q⟩
  exact .inr (.inl ⟨_, eqR_of 60 p1.1 p2.1 (by have := p1.2; omega) (by have := p2.2; omega) (weakE m hx p1.1) (weakE m hy p2.1), f.pure m (.bl _) q⟩)
theorem O_ne : SO K (rNeA K) nNe := by
  intro χ H φ M x y dx dy Q Q' m hx hy f ⟨p1, p2, q⟩
  exact .inr (.inl ⟨_, eqR_of 60 p1.1 p2.1 (by have := p1.2; omega) (by have := p2.2; omega) (weakE m hx p1.1) (weakE m hy p2.1), f.pure m (.bl _) q⟩)
theorem strApp (a b : Str) : (a ++ b).length = a.length + b.length := by
  show (a.cps ++ b.cps).size = _
  rw [Array.size_append]
  rfl
def nAdd : MO := fun x y M Q => match x, y with
  | .int i, .int j => Q (.int (i + j)) M
  | .str a, .str b => a.length + b.length ≤ sizeLine ∧ Q (.str (a ++ b)) M
  | x, y => match lookE M x, lookE M y with
    | .lst a, .lst b => a.length + b.length ≤ sizeLine ∧ Q (.lst (a ++ b)) M
    | .tup a, .tup b => a.length + b.length ≤ sizeLine ∧ a ≠ [] ∧ b ≠ [] ∧ Q (.tup (a ++ b)) M
    | _, _ => False
theorem O_add : SO K (rAddA K) nAdd := by
  intro χ H φ M x y dx dy Q Q' m hx hy f h
  unfold nAdd at h
  split at h
  · obtain rfl := vInt hx
    obtain rfl := vInt hy
    exact .inl ⟨_, _, rfl, rfl, f.pure m (.int _) h⟩
  · obtain ⟨rfl, _⟩ := vStr hx
    obtain ⟨rfl, _⟩ := vStr hy
    exact .inr (.inl ⟨_, _, rfl, rfl, h.1, f.pure m (.str (by rw [strApp]; exact h.1)) h.2⟩)
  · split at h
    · rename_i a b e1 e2
      obtain ⟨p, vs, rfl, h1, r1⟩ := vLE m hx e1
      obtain ⟨q, ws, rfl, h2, r2⟩ := vLE m hy e2
      refine .inr (.inr (.inl ⟨p, q, vs, ws, rfl, rfl, h1, h2, by rw [r1.len, r2.len]; exact h.1, fun n hn => f.lst m (r1.app r2) hn h.2⟩))
    · rename_i a b e1 e2
      obtain ⟨p, vs, rfl, h1, r1⟩ := vTE m hx e1
      obtain ⟨q, ws, rfl, h2, r2⟩ := vTE m hy e2
      refine .inr (.inr (.inr ⟨p, q, vs, ws, rfl, rfl, SqT.of h1, SqT.of h2, by rw [r1.len, r2.len]; exact h.1, fun e => ?_, fun _ e => ?_, fun _ _ n hn => f.tup m (r1.app r2) hn h.2.2.2⟩))
      · subst e
        cases r1
        exact absurd rfl h.2.1
      · subst e
        cases r2
        exact absurd rfl h.2.2.1
    · exact h.elim
def nSub : MO := fun x y M Q => match x, y with
  | .int i, .int j => Q (.int (i - j)) M
  | _, _ => False
theorem O_sub : SO K rSubA nSub := by
  intro χ H φ M x y dx dy Q Q' m hx hy f h
  unfold nSub at h
  split at h
  · obtain rfl := vInt hx
    obtain rfl := vInt hy
    exact ⟨_, _, rfl, rfl, f.pure m (.int _) h⟩
  · exact h.elim
def nMul : MO := fun x y M Q => match x, y with
  | .int i, .int j => CMulW i j ∧ Q (.int (i * j)) M
  | .str z, .int n => MulOk z n ∧ (Txt.mul z n).length ≤ sizeLine ∧ Q (.str (Txt.mul z n)) M
  | .lst es, .int n => -(2 ^ 63) ≤ n ∧ n < 2 ^ 63 ∧ es.length * n.toNat ≤ 1000000 ∧ Q (.lst (List.replicate n.toNat es).flatten) M
  | _, _ => False
theorem RpL.rep {vs : List V} {ds : List Da} (r : RpL K H φ χ vs ds) : ∀ n : Nat, RpL K H φ χ (List.replicate n vs).flatten (List.replicate n ds).flatten
  | 0 => .nil
  | n + 1 => by
    rw [List.replicate_succ, List.replicate_succ, List.flatten_cons, List.flatten_cons]
    exact r.app (r.rep n)
theorem O_mul : SO K rMulA nMul := by
  intro χ H φ M x y dx dy Q Q' m hx hy f h
  unfold nMul at h
  split at h
  · obtain rfl := vInt hx
    obtain rfl := vInt hy
    exact .inl ⟨_, _, rfl, rfl, h.1, f.pure m (.int _) h.2⟩
  · obtain ⟨rfl, _⟩ := vStr hx
    obtain rfl := vInt hy
    exact .inr (.inl ⟨_, _, rfl, rfl, h.1, f.pure m (.str h.2.1) h.2.2⟩)
  · obtain rfl := vInt hy
    cases hx with
    | lst h1 h2 h3 r =>
      exact .inr (.inr ⟨_, _, _, rfl, rfl, h1, h.1, h.2.1, by rw [r.len, sizeLine_eq]; omega, fun p hp => f.lst m (r.rep _) hp h.2.2.2⟩)
  · exact h.elim
def nDiv : MO := fun x y M Q => match x, y with
  | .int i, .int j => CDivW i j ∧ Q (.int (i / j)) M
  | _, _ => False
theorem O_div : SO K rDivA nDiv := by
  intro χ H φ M x y dx dy Q Q' m hx hy f h
  unfold nDiv at h
  split at h
  · obtain rfl := vInt hx
    obtain rfl := vInt hy
    exact ⟨_, _, rfl, rfl, h.1, f.pure m (.int _) h.2⟩
  · exact h.elim
def nMod : MO := fun x y M Q => match x, y with
  | .int i, .int j => 0 < j ∧ Q (.int (i % j)) M
  | _, _ => False
theorem O_mod : SO K rModA nMod := by
  intro χ H φ M x y dx dy Q Q' m hx hy f h
  unfold nMod at h
  split at h
  · obtain rfl := vInt hx
    obtain rfl := vInt hy
    exact ⟨_, _, rfl, rfl, h.1, f.pure m (.int _) h.2⟩
  · exact h.elim
def nPow : MO := fun x y M Q => match x, y with
  | .int i, .int j => CPow i j ∧ Q (.int (i ^ j.toNat)) M
  | _, _ => False
theorem O_pow : SO K rPowA nPow := by
  intro χ H φ M x y dx dy Q Q' m hx hy f h
  unfold nPow at h
  split at h
  · obtain rfl := vInt hx
    obtain rfl := vInt hy
    exact ⟨_, _, rfl, rfl, h.1, f.pure m (.int _) h.2⟩
  · exact h.elim
def ltS (i j : Str) : Bool := decide (i.cps.toList < j.cps.toList)
def nLt : MO := fun x y M Q => match x, y with
  | .int i, .int j => Q (.bl (decide (i < j))) M
  | .str i, .str j => Q (.bl (ltS i j)) M
  | _, _ => False
def nLe : MO := fun x y M Q => match x, y with
  | .int i, .int j => Q (.bl (decide (i ≤ j))) M
  | .str i, .str j => Q (.bl (!ltS j i)) M
  | _, _ => False
def nGt : MO := fun x y M Q => match x, y with
  | .int i, .int j => Q (.bl (decide (j < i))) M
  | .str i, .str j => Q (.bl (ltS j i)) M
  | _, _ => False
def nGe : MO := fun x y M Q => match x, y with
  | .int i, .int j => Q (.bl (decide (j ≤ i))) M
  | .str i, .str j => Q (.bl (!ltS i j)) M
  | _, _ => False
theorem O_lt : SO K rLtA nLt := by
  intro χ H φ M x y dx dy Q Q' m hx hy f h
  unfold nLt at h
  split at h
  · obtain rfl := vInt hx
    obtain rfl := vInt hy
    exact .inl ⟨_, _, rfl, rfl, f.pure m (.bl _) h⟩
  · obtain ⟨rfl, _⟩ := vStr hx
    obtain ⟨rfl, _⟩ := vStr hy
    exact .inr ⟨_, _, rfl, rfl, f.pure m (.bl _) h⟩
  · exact h.elim
theorem O_le : SO K rLeA nLe := by
  intro χ H φ M x y dx dy Q Q' m hx hy f h
  unfold nLe at h
  split at h
  · obtain rfl := vInt hx
    obtain rfl := vInt hy
    exact .inl ⟨_, _, rfl, rfl, f.pure m (.bl _) h⟩
  · obtain ⟨rfl, _⟩ := vStr hx
    obtain ⟨rfl, _⟩ := vStr hy
    exact .inr ⟨_, _, rfl, rfl, f.pure m (.bl _) h⟩
  · exact h.elim
theorem O_gt : SO K rGtA nGt := by
  intro χ H φ M x y dx dy Q Q' m hx hy f h
  unfold nGt at h
  split at h
  · obtain rfl := vInt hx
    obtain rfl := vInt hy
    exact .inl ⟨_, _, rfl, rfl, f.pure m (.bl _) h⟩
  · obtain ⟨rfl, _⟩ := vStr hx
    obtain ⟨rfl, _⟩ := vStr hy
    exact .inr ⟨_, _, rfl, rfl, f.pure m (.bl _) h⟩
  · exact h.elim
theorem O_ge : SO K rGeA nGe := by
  intro χ H φ M x y dx dy Q Q' m hx hy f h
  unfold nGe at h
  split at h
  · obtain rfl := vInt hx
    obtain rfl := vInt hy
    exact .inl ⟨_, _, rfl, rfl, f.pure m (.bl _) h⟩
  · obtain ⟨rfl, _⟩ := vStr hx
    obtain ⟨rfl, _⟩ := vStr hy
    exact .inr ⟨_, _, rfl, rfl, f.pure m (.bl _) h⟩
  · exact h.elim
def nonD : Da → Bool
  | .non => true
  | _ => false
theorem Rp.nonD (h : Rp K H φ χ v d) : decide (v = .non) = nonD d := by
  cases h <;> rfl
def nIs : MO := fun x y M Q => match y with
  | .non => Q (.bl (nonD x)) M
  | .bl b => match x with
    | .bl a => Q (.bl (decide (a = b))) M
    | _ => False
  | _ => False
def nIsnt : MO := fun x y M Q => match y with
  | .non => Q (.bl (!nonD x)) M
  | .bl b => match x with
    | .bl a => Q (.bl (!decide (a = b))) M
    | _ => False
  | _ => False
theorem O_is : SO K rIsA nIs := by
  intro χ H φ M x y dx dy Q Q' m hx hy f h
  unfold nIs at h
  split at h
  · obtain rfl := vNon hy
    exact .inl ⟨rfl, by rw [hx.nonD]; exact f.pure m (.bl _) h⟩
  · split at h
    · obtain rfl := vBl hx
      obtain rfl := vBl hy
      exact .inr (.inl ⟨_, _, rfl, rfl, f.pure m (.bl _) h⟩)
    · exact h.elim
  · exact h.elim
theorem O_isnt : SO K rNotA nIsnt := by
  intro χ H φ M x y dx dy Q Q' m hx hy f h
  unfold nIsnt at h
  split at h
  · obtain rfl := vNon hy
    exact .inl ⟨rfl, by rw [hx.nonD]; exact f.pure m (.bl _) h⟩
  · split at h
    · obtain rfl := vBl hx
      obtain rfl := vBl hy
      exact .inr (.inl ⟨_, _, rfl, rfl, f.pure m (.bl _) h⟩)
    · exact h.elim
  · exact h.elim
/-! dicts -/
def keyD : Da → Option Key
  | .int i => some (.inl i)
  | .str s => some (.inr s)
  | _ => none
def valD {κ : Type} [DecidableEq κ] (kds : List (κ × Da)) (k : κ) : Option Da := (kds.find? fun kv => decide (kv.1 = k)).map (·.2)
def putD (kds : List (Key × Da)) (k : Key) (d : Da) : List (Key × Da) := if (kds.any fun kv => decide (kv.1 = k)) = true then kds.map (fun kv => if kv.1 = k then (kv.1, d) else kv) else kds ++ [(k, d)]
theorem keyD_of {k : Key} (h : Rp K H φ χ v d) (e : keyD d = some k) : v = kV k := by
  cases h <;> cases e <;> rfl
theorem RpK.val {k : Key} : ∀ {kvs : List (Key × V)} {kds : List (Key × Da)}, RpK K H φ χ kvs kds → (valV kvs k = none ∧ valD kds k = none) ∨ ∃ v d, valV kvs k = some v ∧ valD kds k = some d ∧ Rp K H φ χ v d
  | _, _, .nil => .inl ⟨rfl, rfl⟩
  | _, _, .cons (k := j) (v := v) (d := d) h r => by
    by_cases e : j = k
    · exact .inr ⟨v, d, by simp [valV, e], by simp [valD, e], h⟩
    · have := r.val (k := k)
      simpa [valV, valD, e] using this
theorem RpK.any {k : Key} : ∀ {kvs : List (Key × V)} {kds : List (Key × Da)}, RpK K H φ χ kvs kds → (kvs.any fun kv => decide (kv.1 = k)) = (kds.any fun kv => decide (kv.1 = k))
  | _, _, .nil => rfl
  | _, _, .cons _ r => by rw [List.any_cons, List.any_cons, r.any]
theorem RpK.snoc {k : Key} (h : Rp K H φ χ v d) : ∀ {kvs : List (Key × V)} {kds : List (Key × Da)}, RpK K H φ χ kvs kds → RpK K H φ χ (kvs ++ [(k, v)]) (kds ++ [(k, d)])
  | _, _, .nil => .cons h .nil
  | _, _, .cons q r => .cons q (RpK.snoc h r)
theorem RpK.map {k : Key} (h : Rp K H φ χ v d) : ∀ {kvs : List (Key × V)} {kds : List (Key × Da)}, RpK K H φ χ kvs kds → RpK K H φ χ (kvs.map (fun kv => if kv.1 = k then (kv.1, v) else kv)) (kds.map (fun kv => if kv.1 = k then (kv.1, d) else kv))
  | _, _, .nil => .nil
  | _, _, .cons (k := j) q r => by
    by_cases e : j = k
    · simp only [List.map_cons, e, if_true]
      exact .cons h (RpK.map h r)
    · simp only [List.map_cons, e, if_false]
      exact .cons q (RpK.map h r)
theorem RpK.put {k : Key} {kvs : List (Key × V)} {kds : List (Key × Da)} (r : RpK K H φ χ kvs kds) (h : Rp K H φ χ v d) : RpK K H φ χ (putK kvs k v) (putD kds k d) := by
  unfold putK putD
  rw [r.any (k := k)]
  split
  · exact r.map h
  · exact r.snoc h
/-! membership -/
def inS (a z : Str) : Bool := match a.cps.toList with
  | [c] => decide (c ∈ z.cps.toList)
  | _ => !(Builtin.Str.occurrences z a 0 z.length 1).isEmpty
def anyEq (x : Da) (ds : List Da) : Bool := ds.any fun z => eqD z x
def nInR (x y : Da) (M : Mem) (R : Bool → Prop) : Prop := match look M y with
  | .lst ds => pdL ds ∧ pd (lookE M x) ∧ R (anyEq (lookE M x) ds)
  | .tup ds => pdL ds ∧ pd (lookE M x) ∧ R (anyEq (lookE M x) ds)
  | .dct kds => ∃ k, keyD x = some k ∧ R (valD kds k).isSome
  | .str z => match x with
    | .str a => R (inS a z)
    | _ => False
  | _ => False
def nIn : MO := fun x y M Q => nInR x y M fun b => Q (.bl b) M
def nNin : MO := fun x y M Q => nInR x y M fun b => Q (.bl (!b)) M
theorem anyEq_of {x : V} {dx : Da} (hx : Rp K H [] [] x dx) (px : pd dx) : ∀ {vs : List V} {ds : List Da}, pdL ds → RpL K H φ χ vs ds → ∃ g : V → Bool, (∀ z ∈ vs, EqI K H 60 z x (g z)) ∧ vs.any g = anyEq dx ds := by
  have item : ∀ {z : V} {d : Da}, plD d = true → dpD d ≤ 59 → Rp K H φ χ z d → EqI K H 60 z x (eqD d dx) := fun p1 p2 r => eqI_of p1 px.1 p2 px.2 (Rp.weak p1 r) hx
  intro vs ds p r
  -- one answer an address
  have one : ∀ {z : V} {d e : Da}, plD d = true → plD e = true → Rp K H φ χ z d → Rp K H φ χ z e → d = e := fun p1 p2 r1 r2 => Rp.det p1 p2 r1 r2
  classical
  refine ⟨fun z => if h : ∃ d ∈ ds, Rp K H φ χ z d then eqD h.choose dx else false, fun z hz => ?_, ?_⟩
  · obtain ⟨d, hd, rd⟩ := r.mem z hz
    have h : ∃ d ∈ ds, Rp K H φ χ z d := ⟨d, hd, rd⟩
    show EqI K H 60 z x (if h : ∃ d ∈ ds, Rp K H φ χ z d then eqD h.choose dx else false)
    rw [dif_pos h]
    exact item (plL_mem p.1 _ h.choose_spec.1) (Nat.le_trans (dpL_mem h.choose_spec.1) p.2) h.choose_spec.2
  · have go : ∀ {us : List V} {es : List Da}, (∀ e ∈ es, e ∈ ds) → RpL K H φ χ us es → (us.any fun z => if h : ∃ d ∈ ds, Rp K H φ χ z d then eqD h.choose dx else false) = anyEq dx es := by
      intro us es hs r
      induction us generalizing es with
      | nil => cases r; rfl
      | cons u us ih =>
        cases r with
        | cons h1 r1 =>
          rename_i d es
          unfold anyEq
          rw [List.any_cons, List.any_cons]
          have h : ∃ d ∈ ds, Rp K H φ χ u d := ⟨d, hs d (List.mem_cons_self ..), h1⟩
          rw [dif_pos h, one (plL_mem p.1 _ h.choose_spec.1) (plL_mem p.1 _ (hs d (List.mem_cons_self ..))) h.choose_spec.2 h1]
          congr 1
          exact ih (fun e he => hs e (List.mem_cons_of_mem _ he)) r1
    exact go (fun e he => he) r
theorem vS (m : Mm K H φ χ M) (h : Rp K H φ χ v d) {z : Str} (e : look M d = .str z) : v = .str z ∧ z.length ≤ sizeLine := by
  cases h with
  | str h => cases e; exact ⟨rfl, h⟩
  | cell h =>
    obtain ⟨d, e1, _, c⟩ := m.look h
    have e2 : M.getD _ (.gl "") = Da.str z := e
    rw [e1] at e2
    subst e2
    exact c.elim
  | _ => cases e
theorem nInR_run {x y : V} {dx dy : Da} {R : Bool → Prop} (m : Mm K H φ χ M) (hx : Rp K H φ χ x dx) (hy : Rp K H φ χ y dy) (h : nInR dx dy M R) :
    ∃ b, R b ∧ ((∃ (p : Addr) (xs : List V) (g : V → Bool), y = .ref p ∧ (SqL K H p xs ∨ SqT K H p xs) ∧ (∀ z ∈ xs, EqI K H 60 z x (g z)) ∧ b = xs.any g) ∨ (∃ a o, y = .ref a ∧ DGet H a x o ∧ b = o.isSome) ∨
      (∃ (c : Nat) (z : Str), x = .str ⟨#[c]⟩ ∧ y = .str z ∧ b = decide (c ∈ z.cps.toList)) ∨ ∃ i j, x = .str i ∧ y = .str j ∧ b = !(Builtin.Str.occurrences j i 0 j.length 1).isEmpty) := by
  unfold nInR at h
  split at h
  · rename_i ds e
    obtain ⟨p1, p2, q⟩ := h
    obtain ⟨a, vs, rfl, hs, r⟩ := vL m hy e
    obtain ⟨g, g1, g2⟩ := anyEq_of (weakE m hx p2.1) p2 p1 r
    exact ⟨_, q, .inl ⟨a, vs, g, rfl, .inl hs, g1, g2.symm⟩⟩
  · rename_i ds e
    obtain ⟨p1, p2, q⟩ := h
    obtain ⟨a, vs, rfl, hs, r⟩ := vT m hy e
    obtain ⟨g, g1, g2⟩ := anyEq_of (weakE m hx p2.1) p2 p1 r
    exact ⟨_, q, .inl ⟨a, vs, g, rfl, .inr hs, g1, g2.symm⟩⟩
  · rename_i kds e
    obtain ⟨k, hk, q⟩ := h
    obtain ⟨a, kvs, rfl, hs, r⟩ := vD m hy e
    refine ⟨_, q, .inr (.inl ⟨a, valV kvs k, rfl, .inl ⟨kvs, k, hs, keyD_of hx hk, rfl⟩, ?_⟩)⟩
    rcases r.val (k := k) with ⟨e1, e2⟩ | ⟨v, d, e1, e2, _⟩
    · rw [e1, e2]; rfl
    · rw [e1, e2]; rfl
  · rename_i z e
    obtain ⟨rfl, _⟩ := vS m hy e
    split at h
    · rename_i a
      obtain ⟨rfl, _⟩ := vStr hx
      refine ⟨_, h, .inr (.inr ?_)⟩
      unfold inS
      split
      · rename_i c hc
        refine .inl ⟨c, z, ?_, rfl, rfl⟩
        congr 1
        cases a with
        | mk cps => simp at hc ⊢; cases cps; simp_all
      · exact .inr ⟨a, z, rfl, rfl, rfl⟩
    · exact h.elim
  · exact h.elim
theorem O_in : SO K (rInB K) nIn := by
  intro χ H φ M x y dx dy Q Q' m hx hy f h
  obtain ⟨b, q, h⟩ := nInR_run m hx hy h
  have qq := f.pure m (.bl _) q
  rcases h with ⟨p, xs, g, rfl, hs, he, rfl⟩ | ⟨a, o, rfl, g, rfl⟩ | ⟨c, z, rfl, rfl, rfl⟩ | ⟨i, j, rfl, rfl, rfl⟩
  · exact .inr (.inl ⟨p, xs, g, rfl, hs, he, qq⟩)
  · exact .inr (.inr ⟨a, o, rfl, g, qq⟩)
  · exact .inl (.inl ⟨c, z, rfl, rfl, qq⟩)
  · exact .inl (.inr (.inr ⟨i, j, rfl, rfl, qq⟩))
theorem O_nin : SO K (rNinB K) nNin := by
  intro χ H φ M x y dx dy Q Q' m hx hy f h
  obtain ⟨b, q, h⟩ := nInR_run m hx hy h
  have qq := f.pure m (.bl _) q
  rcases h with ⟨p, xs, g, rfl, hs, he, rfl⟩ | ⟨a, o, rfl, g, rfl⟩ | ⟨c, z, rfl, rfl, rfl⟩ | ⟨i, j, rfl, rfl, rfl⟩
  · exact .inr (.inl ⟨p, xs, g, rfl, hs, he, qq⟩)
  · exact .inr (.inr ⟨a, o, rfl, g, qq⟩)
  · exact .inl (.inl ⟨c, z, rfl, rfl, qq⟩)
  · exact .inl (.inr (.inr ⟨i, j, rfl, rfl, qq⟩))
/-! items -/
theorem RpL.atI {vs : List V} {ds : List Da} {i : Int} (r : RpL K H φ χ vs ds) (e : atI ds i = some d) : ∃ v, L2.atI vs i = some v ∧ Rp K H φ χ v d := by
  unfold L2.atI at e ⊢
  rw [r.len]
  cases q : ixN ds.length i with
  | none => rw [q] at e; cases e
  | some j =>
    rw [q] at e
    obtain ⟨v, h1, h2⟩ := r.get (i := j) (d := d) e
    exact ⟨v, h1, h2⟩
def chS (c : Nat) : Da := .str ⟨#[c]⟩
def nIx : MO := fun x y M Q => match look M x with
  | .lst ds => match y with
    | .int i => match atI ds i with
      | some d => Q d M
      | none => False
    | _ => False
  | .tup ds => match y with
    | .int i => match atI ds i with
      | some d => Q d M
      | none => False
    | _ => False
  | .str z => match y with
    | .int i => match atI z.cps.toList i with
      | some c => Q (chS c) M
      | none => False
    | _ => False
  | .dct kds => ∃ k d, keyD y = some k ∧ valD kds k = some d ∧ Q d M
  | _ => False
theorem one_le : (1 : Nat) ≤ sizeLine := by rw [sizeLine_eq]; decide
theorem Rp.ch (c : Nat) : Rp K H φ χ (.str ⟨#[c]⟩) (chS c) := .str one_le
theorem O_ix : SO K (rIxB K) nIx := by
  intro χ H φ M x y dx dy Q Q' m hx hy f h
  unfold nIx at h
  split at h
  · rename_i ds e
    split at h
    · rename_i i
      split at h
      · rename_i d ed
        obtain ⟨a, vs, rfl, hs, r⟩ := vL m hx e
        obtain rfl := vInt hy
        obtain ⟨v, e1, r1⟩ := r.atI ed
        exact .inl (.inl ⟨a, vs, i, v, rfl, rfl, hs, e1, f.pure m r1 h⟩)
      · exact h.elim
    · exact h.elim
  · rename_i ds e
    split at h
    · rename_i i
      split at h
      · rename_i d ed
        obtain ⟨a, vs, rfl, hs, r⟩ := vT m hx e
        obtain rfl := vInt hy
        obtain ⟨v, e1, r1⟩ := r.atI ed
        exact .inl (.inr (.inl ⟨a, vs, i, v, rfl, rfl, hs, e1, f.pure m r1 h⟩))
      · exact h.elim
    · exact h.elim
  · rename_i z e
    split at h
    · rename_i i
      split at h
      · rename_i c ec
        obtain ⟨rfl, hz⟩ := vS m hx e
        obtain rfl := vInt hy
        exact .inl (.inr (.inr ⟨z, i, c, rfl, rfl, hz, ec, f.pure m (.ch c) h⟩))
      · exact h.elim
    · exact h.elim
  · rename_i kds e
    obtain ⟨k, d, hk, hd, q⟩ := h
    obtain ⟨a, kvs, rfl, hs, r⟩ := vD m hx e
    rcases r.val (k := k) with ⟨e1, e2⟩ | ⟨v, d', e1, e2, rd⟩
    · rw [e2] at hd; cases hd
    · rw [e2] at hd
      cases hd
      exact .inr ⟨a, v, rfl, .inl ⟨kvs, k, hs, keyD_of hy hk, e1.symm⟩, f.pure m rd q⟩
  · exact h.elim
/-! slices -/
def cutL {α : Type} (xs : List α) (lo hi : Option Int) : List α := (xs.drop (HT.sIx xs.length 0 lo)).take (HT.sIx xs.length xs.length hi - HT.sIx xs.length 0 lo)
theorem cutS_le (z : Str) (lo hi : Option Int) : (cutS z lo hi).length ≤ z.length := by
  unfold cutS
  show List.length _ ≤ _
  rw [List.length_take, List.length_drop]
  show _ ≤ z.cps.size
  have : z.cps.toList.length = z.cps.size := Array.length_toList
  omega
abbrev MO3 := Da → Option Int → Option Int → Mem → TK → Prop
def nSl : MO3 := fun x lo hi M Q => match look M x with
  | .str z => Q (.str (cutS z lo hi)) M
  | .lst ds => Q (.lst (cutL ds lo hi)) M
  | .tup ds => match x with
    | .tup _ => Q (.tup (cutL ds lo hi)) M
    | _ => False
  | _ => False
def SO3 (K : PySem.W.Frag) (r : V → Option Int → Option Int → Hp → VK → Prop) (n : MO3) : Prop := ∀ {χ H φ M x dx lo hi Q Q'}, Mm K H φ χ M → Rp K H φ χ x dx → FE K χ H φ Q' Q → n dx lo hi M Q' → r x lo hi H Q
theorem O_sl : SO3 K (Z.rSlA K) nSl := by
  intro χ H φ M x dx lo hi Q Q' m hx f h
  unfold nSl at h
  split at h
  · rename_i z e
    obtain ⟨rfl, hz⟩ := vS m hx e
    exact .inl ⟨z, rfl, hz, f.pure m (.str (Nat.le_trans (cutS_le z lo hi) hz)) h⟩
  · rename_i ds e
    obtain ⟨a, vs, rfl, hs, r⟩ := vL m hx e
    refine .inr (.inl ⟨a, vs, rfl, hs, fun p hp => ?_⟩)
    have r2 : RpL K H φ χ (cutV vs lo hi) (cutL ds lo hi) := by
      unfold cutV cutL
      rw [r.len]
      exact (r.drop _).take _
    exact f.lst m r2 hp h
  · rename_i ds e
    split at h
    · rename_i ds'
      cases e
      obtain ⟨a, vs, rfl, hs, r⟩ := vT m hx rfl
      have r2 : RpL K H φ χ (cutV vs lo hi) (cutL ds lo hi) := by
        unfold cutV cutL
        rw [r.len]
        exact (r.drop _).take _
      refine .inr (.inr ⟨a, vs, rfl, hs, fun z => ?_, fun _ p hp => f.tup m r2 hp h⟩)
      have e : cutL ds lo hi = ds := by
        unfold cutL
        rw [← r.len, z.1, z.2, List.drop_zero, Nat.sub_zero, r.len, List.take_length]
      rw [e] at h
      exact f.pure m hx h
    · exact h.elim
  · exact h.elim
end
end Z

/-! T5: calls of builtins, methods, dicts of the module -/
namespace Z
open PySem PySem.Spec PyProof.Rows L2 Evl
section
variable {K : PySem.W.Frag} {χ φ : List Addr} {H : Hp} {M : Mem} {v : V} {d : Da}
theorem RpL.one {vs : List V} (r : RpL K H φ χ vs [d]) : ∃ v, vs = [v] ∧ Rp K H φ χ v d := by
  cases r with
  | cons h r => cases r; exact ⟨_, rfl, h⟩
theorem RpL.two {vs : List V} {e : Da} (r : RpL K H φ χ vs [d, e]) : ∃ v w, vs = [v, w] ∧ Rp K H φ χ v d ∧ Rp K H φ χ w e := by
  cases r with
  | cons h r =>
    obtain ⟨w, rfl, q⟩ := r.one
    exact ⟨_, w, rfl, h, q⟩
def tyDa (M : Mem) : Da → Option String
  | .non => some "NoneType"
  | .bl _ => some "bool"
  | .int _ => some "int"
  | .str _ => some "str"
  | .tup _ => some "tuple"
  | .kt _ => some "tuple"
  | .lst _ => some "list"
  | .dct _ => some "dict"
  | .cell n => match M.getD n (.gl "") with
    | .lst _ => some "list"
    | .dct _ => some "dict"
    | _ => none
  | _ => none
def tyB (T : String) (a : String) : Bool := a == T || (a == "bool" && T == "int")
def tyTs : List String := ["int", "bool", "str", "tuple", "list", "dict"]
def tyNs : List String := ["NoneType", "bool", "int", "str", "tuple", "list", "dict"]
theorem kit_all : (tyTs.all fun T => tyNs.all fun a => decide (kitB a T = some (tyB T a))) = true := by decide +kernel
theorem tyDa_in {a : String} (e : tyDa M d = some a) : a ∈ tyNs := by
  unfold tyDa at e
  split at e
  all_goals first
    | (cases e; simp [tyNs]; done)
    | (split at e <;> first | (cases e; simp [tyNs]; done) | (cases e; done))
    | (cases e; done)
theorem kit_of {T a : String} (hT : T ∈ tyTs) (e : tyDa M d = some a) : kitB a T = some (tyB T a) :=
  of_decide_eq_true (List.all_eq_true.mp (List.all_eq_true.mp kit_all T hT) a (tyDa_in e))
theorem tyDa_X (m : Mm K H φ χ M) (h : Rp K H φ χ v d) {a : String} (e : tyDa M d = some a) : TyX K H v (.type a) := by
  cases h with
  | non => cases e; exact .base .non
  | bl b => cases e; exact .base (.bl b)
  | int i => cases e; exact .base (.int i)
  | str h => cases e; exact .base (.str _)
  | tup h n m r => cases e; exact .base (.tup h)
  | lst h n m r => cases e; exact .base (.lst h)
  | dct h c n m r =>
    cases e
    rename_i o kvs kds
    cases o with
    | dK k => exact .base (.dK h)
    | frz ob u =>
      cases u with
      | dK k => exact .fDict h
      | _ => cases c
    | _ => cases c
  | ktK h r =>
    cases e
    rcases h fun _ => none with h | ⟨o, its, n, hk, hc, _⟩
    · rcases h with h | ⟨ob, h⟩ <;> cases h
    · exact .kTuple hk hc
  | cell h =>
    obtain ⟨d, e1, _, c⟩ := m.look h
    have e2 : (match M.getD _ (.gl "") with | .lst _ => some "list" | .dct _ => some "dict" | _ => none) = some a := e
    rw [e1] at e2
    cases d with
    | lst ds => cases e2; obtain ⟨vs, q, _⟩ := c; exact .base (.lst q)
    | dct ds => cases e2; obtain ⟨vs, q, _⟩ := c; exact .base (.dK q)
    | _ => cases e2
  | _ => cases e
def nIsi : List Da → Mem → TK → Prop := fun ds M Q => match ds with
  | [x, .ty T] => T ∈ tyTs ∧ match tyDa M x with
    | some a => Q (.bl (tyB T a)) M
    | none => False
  | _ => False
theorem C_isi : SC K (rIsi K) nIsi := by
  intro χ H φ M x dx Q Q' m hx f h
  unfold nIsi at h
  split at h
  · rename_i d T
    obtain ⟨v, w, rfl, h1, h2⟩ := hx.two
    cases h2
    obtain ⟨hT, h⟩ := h
    split at h
    · rename_i a e
      exact ⟨v, .ty T, _, _, _, rfl, .ty T, tyDa_X m h1 e, kit_ty (kit_of hT e), f.pure m (.bl _) h⟩
    · exact h.elim
  · exact h.elim
def nLen : List Da → Mem → TK → Prop := fun ds M Q => match ds with
  | [x] => match look M x with
    | .lst ds => Q (.int ds.length) M
    | .tup ds => Q (.int ds.length) M
    | .dct kds => Q (.int kds.length) M
    | .str z => Q (.int z.length) M
    | _ => False
  | _ => False
theorem C_len : SC K (rLenB K) nLen := by
  intro χ H φ M x dx Q Q' m hx f h
  unfold nLen at h
  split at h
  · obtain ⟨v, rfl, h1⟩ := hx.one
    split at h
    · rename_i ds e
      obtain ⟨a, vs, rfl, hs, r⟩ := vL m h1 e
      exact .inl (.inl ⟨_, vs.length, rfl, .inl ⟨vs, hs, rfl⟩, by rw [r.len]; exact f.pure m (.int _) h⟩)
    · rename_i ds e
      obtain ⟨a, vs, rfl, hs, r⟩ := vT m h1 e
      exact .inl (.inl ⟨_, vs.length, rfl, .inr ⟨vs, hs, rfl⟩, by rw [r.len]; exact f.pure m (.int _) h⟩)
    · rename_i ds e
      obtain ⟨a, kvs, rfl, hs, r⟩ := vD m h1 e
      exact .inr ⟨a, kvs, rfl, hs, by rw [r.len]; exact f.pure m (.int _) h⟩
    · rename_i z e
      obtain ⟨rfl, hz⟩ := vS m h1 e
      exact .inl (.inl ⟨_, z.length, rfl, ⟨hz, rfl⟩, f.pure m (.int _) h⟩)
    · exact h.elim
  · exact h.elim
theorem RpL.ints : ∀ {ns : List Int} {vs : List V}, RpL K H φ χ vs (ns.map Da.int) → vs = ns.map V.int
  | [], _, .nil => rfl
  | n :: ns, _, .cons h r => by
    cases h
    rw [RpL.ints r]
    rfl
theorem RpL.bls : ∀ {ns : List Bool} {vs : List V}, RpL K H φ χ vs (ns.map Da.bl) → vs = ns.map V.bl
  | [], _, .nil => rfl
  | n :: ns, _, .cons h r => by
    cases h
    rw [RpL.bls r]
    rfl
theorem RpL.strs : ∀ {ns : List Str} {vs : List V}, RpL K H φ χ vs (ns.map Da.str) → vs = ns.map V.str
  | [], _, .nil => rfl
  | n :: ns, _, .cons h r => by
    cases h
    rw [RpL.strs r]
    rfl
def nMax : List Da → Mem → TK → Prop := fun ds M Q => match ds with
  | [.int i, .int j] => Q (.int (if j > i then j else i)) M
  | [x] => ∃ ns : List Int, look M x = .lst (ns.map Da.int) ∧ 0 < ns.length ∧ ∀ m, m ∈ ns → (∀ y, y ∈ ns → y ≤ m) → Q (.int m) M
  | _ => False
def nMin : List Da → Mem → TK → Prop := fun ds M Q => match ds with
  | [.int i, .int j] => Q (.int (if j < i then j else i)) M
  | [x] => ∃ ns : List Int, look M x = .lst (ns.map Da.int) ∧ 0 < ns.length ∧ ∀ m, m ∈ ns → (∀ y, y ∈ ns → m ≤ y) → Q (.int m) M
  | _ => False
theorem C_max : SC K (rMaxA K) nMax := by
  intro χ H φ M x dx Q Q' m hx f h
  unfold nMax at h
  split at h
  · obtain ⟨v, w, rfl, h1, h2⟩ := hx.two
    cases h1
    cases h2
    exact .inl ⟨_, _, rfl, f.pure m (.int _) h⟩
  · obtain ⟨v, rfl, h1⟩ := hx.one
    obtain ⟨ns, e, hp, q⟩ := h
    obtain ⟨a, vs, rfl, hs, r⟩ := vL m h1 e
    rw [r.ints] at hs
    exact .inr ⟨a, ns, rfl, hs, hp, fun k hk hm => f.pure m (.int _) (q k hk hm)⟩
  · exact h.elim
theorem C_min : SC K (rMinA K) nMin := by
  intro χ H φ M x dx Q Q' m hx f h
  unfold nMin at h
  split at h
  · obtain ⟨v, w, rfl, h1, h2⟩ := hx.two
    cases h1
    cases h2
    exact .inl ⟨_, _, rfl, f.pure m (.int _) h⟩
  · obtain ⟨v, rfl, h1⟩ := hx.one
    obtain ⟨ns, e, hp, q⟩ := h
    obtain ⟨a, vs, rfl, hs, r⟩ := vL m h1 e
    rw [r.ints] at hs
    exact .inr ⟨a, ns, rfl, hs, hp, fun k hk hm => f.pure m (.int _) (q k hk hm)⟩
  · exact h.elim
def blsD : List Da → Option (List Bool)
  | [] => some []
  | .bl b :: ds => (blsD ds).map (b :: ·)
  | _ => none
theorem blsD_of : ∀ {ds : List Da} {bs : List Bool}, blsD ds = some bs → ds = bs.map Da.bl
  | [], bs, e => by cases e; rfl
  | d :: ds, bs, e => by
    cases d with
    | bl b =>
      unfold blsD at e
      cases q : blsD ds with
      | none => rw [q] at e; cases e
      | some cs =>
        rw [q] at e
        cases e
        rw [blsD_of q]
        rfl
    | _ => cases e
theorem blsD_map (bs : List Bool) : blsD (bs.map Da.bl) = some bs := by
  induction bs with
  | nil => rfl
  | cons b bs ih => show (blsD (bs.map Da.bl)).map (b :: ·) = _; rw [ih]; rfl
def nAll : List Da → Mem → TK → Prop := fun ds M Q => match ds with
  | [x] => match look M x with
    | .lst ds => match blsD ds with
      | some bs => Q (.bl (bs.all id)) M
      | none => False
    | _ => False
  | _ => False
def nAny : List Da → Mem → TK → Prop := fun ds M Q => match ds with
  | [x] => match look M x with
    | .lst ds => match blsD ds with
      | some bs => Q (.bl (bs.any id)) M
      | none => False
    | _ => False
  | _ => False
theorem C_all : SC K (rAll K) nAll := by
  intro χ H φ M x dx Q Q' m hx f h
  unfold nAll at h
  split at h
  · obtain ⟨v, rfl, h1⟩ := hx.one
    split at h
    · rename_i ds e
      split at h
      · rename_i bs eb
        obtain ⟨a, vs, rfl, hs, r⟩ := vL m h1 e
        rw [blsD_of eb] at r
        rw [r.bls] at hs
        exact ⟨a, bs, rfl, hs, f.pure m (.bl _) h⟩
      · exact h.elim
    · exact h.elim
  · exact h.elim
theorem C_any : SC K (rAny K) nAny := by
  intro χ H φ M x dx Q Q' m hx f h
  unfold nAny at h
  split at h
  · obtain ⟨v, rfl, h1⟩ := hx.one
    split at h
    · rename_i ds e
      split at h
      · rename_i bs eb
        obtain ⟨a, vs, rfl, hs, r⟩ := vL m h1 e
        rw [blsD_of eb] at r
        rw [r.bls] at hs
        exact ⟨a, bs, rfl, hs, f.pure m (.bl _) h⟩
      · exact h.elim
    · exact h.elim
  · exact h.elim
def seqD (M : Mem) (x : Da) : Option (List Da) := match look M x with
  | .lst ds => some ds
  | .tup ds => some ds
  | _ => none
theorem seqD_of (m : Mm K H φ χ M) (h : Rp K H φ χ v d) {ds : List Da} (e : seqD M d = some ds) : ∃ a vs, v = .ref a ∧ (SqL K H a vs ∨ SqT K H a vs) ∧ RpL K H φ χ vs ds := by
  unfold seqD at e
  split at e
  · rename_i es q
    cases e
    obtain ⟨a, vs, rfl, hs, r⟩ := vL m h q
    exact ⟨a, vs, rfl, .inl hs, r⟩
  · rename_i es q
    cases e
    obtain ⟨a, vs, rfl, hs, r⟩ := vT m h q
    exact ⟨a, vs, rfl, .inr hs, r⟩
  · cases e
def nList : List Da → Mem → TK → Prop := fun ds M Q => match ds with
  | [x] => match seqD M x with
    | some ds => Q (.lst ds) M
    | none => False
  | _ => False
theorem C_list : SC K (rListA K) nList := by
  intro χ H φ M x dx Q Q' m hx f h
  unfold nList at h
  split at h
  · obtain ⟨v, rfl, h1⟩ := hx.one
    split at h
    · rename_i ds e
      obtain ⟨a, vs, rfl, hs, r⟩ := seqD_of m h1 e
      exact ⟨a, vs, rfl, hs, fun l hl => f.lst m r hl h⟩
    · exact h.elim
  · exact h.elim
def nTupC : List Da → Mem → TK → Prop := fun ds M Q => match ds with
  | [x] => match look M x with
    | .lst ds => Q (.tup ds) M
    | .tup _ => Q x M
    | _ => False
  | _ => False
theorem C_tup : SC K (rTupA K) nTupC := by
  intro χ H φ M x dx Q Q' m hx f h
  unfold nTupC at h
  split at h
  · obtain ⟨v, rfl, h1⟩ := hx.one
    split at h
    · rename_i ds e
      obtain ⟨a, vs, rfl, hs, r⟩ := vL m h1 e
      exact ⟨a, vs, rfl, .inl ⟨hs, fun l hl => f.tup m r hl h⟩⟩
    · rename_i ds e
      obtain ⟨a, vs, rfl, hs, r⟩ := vT m h1 e
      exact ⟨a, vs, rfl, .inr ⟨hs, f.pure m h1 h⟩⟩
    · exact h.elim
  · exact h.elim
def nInt : List Da → Mem → TK → Prop := fun ds M Q => match ds with
  | [.int i] => Q (.int i) M
  | [.bl k] => Q (.int (if k then 1 else 0)) M
  | _ => False
theorem C_int : SC K rIntA nInt := by
  intro χ H φ M x dx Q Q' m hx f h
  unfold nInt at h
  split at h
  · obtain ⟨v, rfl, h1⟩ := hx.one
    obtain rfl := vInt h1
    exact .inl ⟨_, rfl, f.pure m (.int _) h⟩
  · obtain ⟨v, rfl, h1⟩ := hx.one
    obtain rfl := vBl h1
    exact .inr ⟨_, rfl, f.pure m (.int _) h⟩
  · exact h.elim
def nStr : List Da → Mem → TK → Prop := fun ds M Q => match ds with
  | [.int i] => i.natAbs.log2 < 1920 ∧ (toString i : Str).length ≤ sizeLine ∧ Q (.str (toString i)) M
  | [.str k] => Q (.str k) M
  | _ => False
theorem C_str : SC K rStrA nStr := by
  intro χ H φ M x dx Q Q' m hx f h
  unfold nStr at h
  split at h
  · obtain ⟨v, rfl, h1⟩ := hx.one
    obtain rfl := vInt h1
    exact .inl ⟨_, rfl, h.1, f.pure m (.str h.2.1) h.2.2⟩
  · obtain ⟨v, rfl, h1⟩ := hx.one
    obtain ⟨rfl, hz⟩ := vStr h1
    exact .inr ⟨_, rfl, f.pure m (.str hz) h⟩
  · exact h.elim
/-! methods -/
def strsD : List Da → Option (List Str)
  | [] => some []
  | .str b :: ds => (strsD ds).map (b :: ·)
  | _ => none
theorem strsD_of : ∀ {ds : List Da} {bs : List Str}, strsD ds = some bs → ds = bs.map Da.str
  | [], bs, e => by cases e; rfl
  | d :: ds, bs, e => by
    cases d with
    | str b =>
      unfold strsD at e
      cases q : strsD ds with
      | none => rw [q] at e; cases e
      | some cs =>
        rw [q] at e
        cases e
        rw [strsD_of q]
        rfl
    | _ => cases e
theorem strsD_map (bs : List Str) : strsD (bs.map Da.str) = some bs := by
  induction bs with
  | nil => rfl
  | cons b bs ih => show (strsD (bs.map Da.str)).map (b :: ·) = _; rw [ih]; rfl
def okS : Da → Mem → Prop := fun d _ => ∃ z, d = .str z
def okLs : Da → Mem → Prop := fun d M => ∃ ds, look M d = .lst ds
def okDc : Da → Mem → Prop := fun d M => ∃ ds, look M d = .dct ds
theorem okS_run (h : Rp K H φ χ v d) (o : okS d M) : tyW K "str" v H := by
  obtain ⟨z, rfl⟩ := o
  obtain ⟨rfl, _⟩ := vStr h
  exact .inl rfl
theorem okL_run (m : Mm K H φ χ M) (h : Rp K H φ χ v d) (o : okLs d M) : tyW K "list" v H := by
  obtain ⟨ds, e⟩ := o
  obtain ⟨a, vs, rfl, hs, _⟩ := vL m h e
  exact .inl (.inl ⟨rfl, vs, hs⟩)
theorem okD_run (m : Mm K H φ χ M) (h : Rp K H φ χ v d) (o : okDc d M) : tyW K "dict" v H := by
  obtain ⟨ds, e⟩ := o
  obtain ⟨a, vs, rfl, hs, _⟩ := vD m h e
  exact .inr ⟨a, vs, rfl, rfl, hs⟩
/-- a method's rule over data -/
def SMr (K : PySem.W.Frag) (r : V → List V → Hp → VK → Prop) (n : Da → List Da → Mem → TK → Prop) : Prop :=
  ∀ {χ H φ M x dx xs dxs Q Q'}, Mm K H φ χ M → Rp K H φ χ x dx → RpL K H φ χ xs dxs → FE K χ H φ Q' Q → n dx dxs M Q' → r x xs H Q
def nJoin : Da → List Da → Mem → TK → Prop := fun x ds M Q => match x, ds with
  | .str a, [y] => match (seqD M y).bind strsD with
    | some ys => (ys.map (·.length)).sum + ys.length * a.length ≤ 16777216 ∧ (Txt.join a ys).length ≤ sizeLine ∧ Q (.str (Txt.join a ys)) M
    | none => False
  | _, _ => False
theorem M_join : SMr K (rJoinA K) nJoin := by
  intro χ H φ M x dx xs dxs Q Q' m hx hxs f h
  unfold nJoin at h
  split at h
  · obtain ⟨w, rfl, h1⟩ := hxs.one
    obtain ⟨rfl, _⟩ := vStr hx
    split at h
    · rename_i ys e
      obtain ⟨ds, e1, e2⟩ := Option.bind_eq_some_iff.1 e
      obtain ⟨a, vs, rfl, hs, r⟩ := seqD_of m h1 e1
      rw [strsD_of e2] at r
      rw [r.strs] at hs
      exact ⟨_, a, ys, rfl, rfl, hs, h.1, f.pure m (.str h.2.1) h.2.2⟩
    · exact h.elim
  · exact h.elim
def cellL (M : Mem) (x : Da) : Option (Nat × List Da) := match x with
  | .cell n => match M[n]? with
    | some (.lst ds) => some (n, ds)
    | _ => none
  | _ => none
theorem cellL_of (m : Mm K H φ χ M) (h : Rp K H φ χ v d) {n : Nat} {ds : List Da} (e : cellL M d = some (n, ds)) : ∃ a vs, v = .ref a ∧ φ[n]? = some a ∧ H a = some (.lst vs) ∧ RpL K H φ χ vs ds := by
  unfold cellL at e
  split at e
  · rename_i k
    split at e
    · rename_i es q
      cases e
      cases h with
      | cell h =>
        obtain ⟨vs, e1, r⟩ := m.at_ _ _ _ h q
        exact ⟨_, vs, rfl, h, e1, r⟩
    · cases e
  · cases e
theorem FE.mutL {Q' : TK} {Q : VK} (f : FE K χ H φ Q' Q) (m : Mm K H φ χ M) {n : Nat} {a : Addr} {vs : List V} {ds : List Da} (h : φ[n]? = some a) (r : RpL K H φ χ vs ds) {w : V} {e : Da} (hw : Rp K H φ χ w e) (q : Q' e (M.set n (.lst ds))) : Q w (upd H a (.lst vs)) :=
  f _ _ _ _ _ (Adv.mut (List.mem_of_getElem? h)) (m.mut (d := .lst ds) h ⟨vs, upd_same, r.adv (Adv.mut (List.mem_of_getElem? h))⟩) (hw.adv (Adv.mut (List.mem_of_getElem? h))) q
def nAppend : Da → List Da → Mem → TK → Prop := fun x ds M Q => match cellL M x, ds with
  | some (n, es), [y] => es.length < sizeLine ∧ Q .non (M.set n (.lst (es ++ [y])))
  | _, _ => False
theorem M_append : SMr K rAppend nAppend := by
  intro χ H φ M x dx xs dxs Q Q' m hx hxs f h
  unfold nAppend at h
  split at h
  · rename_i n es y e
    obtain ⟨w, rfl, h1⟩ := hxs.one
    obtain ⟨a, vs, rfl, ha, hl, r⟩ := cellL_of m hx e
    exact ⟨a, vs, w, rfl, rfl, hl, by rw [r.len]; exact h.1, f.mutL m ha (r.app (.cons h1 .nil)) .non h.2⟩
  · exact h.elim
def nExtend : Da → List Da → Mem → TK → Prop := fun x ds M Q => match cellL M x, ds with
  | some (n, es), [y] => match lookE M y with
    | .lst zs => es.length + zs.length ≤ sizeLine ∧ Q .non (M.set n (.lst (es ++ zs)))
    | _ => False
  | _, _ => False
theorem M_extend : SMr K rExtend nExtend := by
  intro χ H φ M x dx xs dxs Q Q' m hx hxs f h
  unfold nExtend at h
  split at h
  · rename_i n es y e
    obtain ⟨w, rfl, h1⟩ := hxs.one
    obtain ⟨a, vs, rfl, ha, hl, r⟩ := cellL_of m hx e
    split at h
    · rename_i zs e2
      obtain ⟨b, ws, rfl, hb, r2⟩ := vLE m h1 e2
      exact ⟨a, b, vs, ws, rfl, rfl, hl, hb, by rw [r.len, r2.len]; exact h.1, f.mutL m ha (r.app r2) .non h.2⟩
    · exact h.elim
  · exact h.elim
def nInsert : Da → List Da → Mem → TK → Prop := fun x ds M Q => match cellL M x, ds with
  | some (n, es), [.int i, y] => es.length < sizeLine ∧ 0 ≤ i ∧ i < 2 ^ 63 ∧ Q .non (M.set n (.lst (es.take i.toNat ++ [y] ++ es.drop i.toNat)))
  | _, _ => False
theorem M_insert : SMr K rInsert nInsert := by
  intro χ H φ M x dx xs dxs Q Q' m hx hxs f h
  unfold nInsert at h
  split at h
  · rename_i n es i y e
    obtain ⟨u, w, rfl, h1, h2⟩ := hxs.two
    obtain rfl := vInt h1
    obtain ⟨a, vs, rfl, ha, hl, r⟩ := cellL_of m hx e
    obtain ⟨p1, p2, p3, q⟩ := h
    exact ⟨a, vs, i, w, rfl, rfl, hl, by rw [r.len]; exact p1, p2, p3, f.mutL m ha (((r.take _).app (.cons h2 .nil)).app (r.drop _)) .non q⟩
  · exact h.elim
def nPop : Da → List Da → Mem → TK → Prop := fun x ds M Q => match cellL M x, ds with
  | some (n, es), [] => match es[es.length - 1]? with
    | some y => Q y (M.set n (.lst es.dropLast))
    | none => False
  | some (n, es), [.int i] => -(2 ^ 63) ≤ i ∧ i < 2 ^ 63 ∧ ∃ k y, seqIndex? i es.length = some k ∧ es[k]? = some y ∧ Q y (M.set n (.lst (es.eraseIdx k)))
  | _, _ => False
theorem RpL.dropLast {vs : List V} {ds : List Da} (r : RpL K H φ χ vs ds) : RpL K H φ χ vs.dropLast ds.dropLast := by
  rw [List.dropLast_eq_take, List.dropLast_eq_take, r.len]
  exact r.take _
theorem M_pop : SMr K rPopA nPop := by
  intro χ H φ M x dx xs dxs Q Q' m hx hxs f h
  unfold nPop at h
  split at h
  · rename_i n es e
    cases hxs
    obtain ⟨a, vs, rfl, ha, hl, r⟩ := cellL_of m hx e
    split at h
    · rename_i y ey
      obtain ⟨w, e1, r1⟩ := r.get ey
      exact .inl ⟨a, vs, w, rfl, rfl, hl, by rw [r.len]; exact e1, f.mutL m ha r.dropLast r1 h⟩
    · exact h.elim
  · rename_i n es i e
    obtain ⟨u, rfl, h1⟩ := hxs.one
    obtain rfl := vInt h1
    obtain ⟨a, vs, rfl, ha, hl, r⟩ := cellL_of m hx e
    obtain ⟨p1, p2, k, y, p3, p4, q⟩ := h
    obtain ⟨w, e1, r1⟩ := r.get p4
    exact .inr ⟨a, vs, i, k, w, rfl, rfl, hl, p1, p2, by rw [r.len]; exact p3, e1, f.mutL m ha (r.erase k) r1 q⟩
  · exact h.elim
def nGet : Da → List Da → Mem → TK → Prop := fun x ds M Q => match look M x, ds with
  | .dct kds, [y] => ∃ k, keyD y = some k ∧ Q ((valD kds k).getD .non) M
  | .dct kds, [y, z] => ∃ k, keyD y = some k ∧ Q ((valD kds k).getD z) M
  | _, _ => False
theorem M_get : SMr K rDGet nGet := by
  intro χ H φ M x dx xs dxs Q Q' m hx hxs f h
  unfold nGet at h
  split at h
  · rename_i kds y e
    obtain ⟨w, rfl, h1⟩ := hxs.one
    obtain ⟨a, kvs, rfl, hs, r⟩ := vD m hx e
    obtain ⟨k, hk, q⟩ := h
    rcases r.val (k := k) with ⟨e1, e2⟩ | ⟨v, d', e1, e2, rd⟩
    · rw [e2] at q
      exact ⟨a, rfl, .inl ⟨w, none, rfl, .inl ⟨kvs, k, hs, keyD_of h1 hk, e1.symm⟩, f.pure m .non q⟩⟩
    · rw [e2] at q
      exact ⟨a, rfl, .inl ⟨w, some v, rfl, .inl ⟨kvs, k, hs, keyD_of h1 hk, e1.symm⟩, f.pure m rd q⟩⟩
  · rename_i kds y z e
    obtain ⟨w, u, rfl, h1, h2⟩ := hxs.two
    obtain ⟨a, kvs, rfl, hs, r⟩ := vD m hx e
    obtain ⟨k, hk, q⟩ := h
    rcases r.val (k := k) with ⟨e1, e2⟩ | ⟨v, d', e1, e2, rd⟩
    · rw [e2] at q
      exact ⟨a, rfl, .inr ⟨w, u, none, rfl, .inl ⟨kvs, k, hs, keyD_of h1 hk, e1.symm⟩, f.pure m h2 q⟩⟩
    · rw [e2] at q
      exact ⟨a, rfl, .inr ⟨w, u, some v, rfl, .inl ⟨kvs, k, hs, keyD_of h1 hk, e1.symm⟩, f.pure m rd q⟩⟩
  · exact h.elim
/-! dicts of the module: keys texts, values tuples of scalars -/
structure KTab (K : PySem.W.Frag) (d : Addr) (tab : List (Str × List Da)) : Prop where
  no : ∀ z : Str, z ∉ tab.map (·.1) → PySem.W.nsIn K d z = some none
  yes : ∀ z ds, (z, ds) ∈ tab → ∃ a, PySem.W.nsIn K d z = some (some (.ref a)) ∧ ∃ vs, (∀ H, SqT K H a vs) ∧ ∀ H φ χ, RpL K H φ χ vs ds
def tabD (tab : List (Str × List Da)) (z : Str) : Option (List Da) := (tab.find? fun p => decide (p.1 = z)).map (·.2)
theorem tabD_none : ∀ {tab : List (Str × List Da)} {z : Str}, tabD tab z = none → z ∉ tab.map (·.1)
  | [], z, _ => by simp
  | p :: tab, z, h => by
    unfold tabD at h
    rw [List.find?_cons] at h
    by_cases e : p.1 = z
    · simp [e] at h
    · simp only [decide_eq_false e] at h
      rw [List.map_cons]
      exact nmc ⟨fun q => e q.symm, tabD_none h⟩
theorem tabD_some : ∀ {tab : List (Str × List Da)} {z : Str} {ds : List Da}, tabD tab z = some ds → (z, ds) ∈ tab
  | [], z, ds, h => by cases h
  | p :: tab, z, ds, h => by
    unfold tabD at h
    rw [List.find?_cons] at h
    by_cases e : p.1 = z
    · simp [e] at h
      rw [← e, ← h]
      exact List.mem_cons_self ..
    · simp only [decide_eq_false e] at h
      exact List.mem_cons_of_mem _ (tabD_some h)
def nInK (tab : List (Str × List Da)) : MO := fun x _ M Q => match x with
  | .str z => Q (.bl (tabD tab z).isSome) M
  | _ => False
def nNinK (tab : List (Str × List Da)) : MO := fun x _ M Q => match x with
  | .str z => Q (.bl (!(tabD tab z).isSome)) M
  | _ => False
def nIxK (tab : List (Str × List Da)) : MO := fun _ y M Q => match y with
  | .str z => match tabD tab z with
    | some ds => Q (.kt ds) M
    | none => False
  | _ => False
/-- operators whose one side is a dict of the module -/
def SOr (K : PySem.W.Frag) (a : Addr) (r : R2) (n : MO) : Prop := ∀ {χ H φ M x dx dy Q Q'}, Mm K H φ χ M → Rp K H φ χ x dx → FE K χ H φ Q' Q → n dx dy M Q' → r x (.ref a) H Q
def SOl (K : PySem.W.Frag) (a : Addr) (r : R2) (n : MO) : Prop := ∀ {χ H φ M y dx dy Q Q'}, Mm K H φ χ M → Rp K H φ χ y dy → FE K χ H φ Q' Q → n dx dy M Q' → r (.ref a) y H Q
theorem O_inK {a : Addr} {tab : List (Str × List Da)} (t : KTab K a tab) : SOr K a (rInK K a) (nInK tab) := by
  intro χ H φ M x dx dy Q Q' m hx f h
  unfold nInK at h
  split at h
  · rename_i z
    obtain ⟨rfl, _⟩ := vStr hx
    cases e : tabD tab z with
    | none =>
      rw [e] at h
      exact ⟨z, none, rfl, rfl, t.no z (tabD_none e), f.pure m (.bl _) h⟩
    | some ds =>
      rw [e] at h
      obtain ⟨b, hb, _⟩ := t.yes z ds (tabD_some e)
      exact ⟨z, _, rfl, rfl, hb, f.pure m (.bl _) h⟩
  · exact h.elim
theorem O_ninK {a : Addr} {tab : List (Str × List Da)} (t : KTab K a tab) : SOr K a (rNinK K a) (nNinK tab) := by
  intro χ H φ M x dx dy Q Q' m hx f h
  unfold nNinK at h
  split at h
  · rename_i z
    obtain ⟨rfl, _⟩ := vStr hx
    cases e : tabD tab z with
    | none =>
      rw [e] at h
      exact ⟨z, none, rfl, rfl, t.no z (tabD_none e), f.pure m (.bl _) h⟩
    | some ds =>
      rw [e] at h
      obtain ⟨b, hb, _⟩ := t.yes z ds (tabD_some e)
      exact ⟨z, _, rfl, rfl, hb, f.pure m (.bl _) h⟩
  · exact h.elim
theorem O_ixK {a : Addr} {tab : List (Str × List Da)} (t : KTab K a tab) : SOl K a (rIxK K a) (nIxK tab) := by
  intro χ H φ M y dx dy Q Q' m hy f h
  unfold nIxK at h
  split at h
  · rename_i z
    obtain ⟨rfl, _⟩ := vStr hy
    split at h
    · rename_i ds e
      obtain ⟨b, hb, vs, hs, r⟩ := t.yes z ds (tabD_some e)
      exact ⟨z, _, .ref b, rfl, rfl, hb, rfl, f.pure m (.ktK hs (r H φ χ)) h⟩
    · exact h.elim
  · exact h.elim
end
end Z

/-! T6: expressions, tests, targets -/
namespace Z
open PySem PySem.Spec PyProof.Rows L2 Evl
section
variable {K : PySem.W.Frag}
def mVar (i : Nat) : ME := fun ρ M Q => match ρ[i]? with
  | some (some d) => Q d M
  | _ => False
theorem E_var (i : Nat) : SE K (fun _ => tVar i) (fun _ => mVar i) := ⟨fun r m _ f h => by
  unfold mVar at h
  split at h
  · rename_i d e
    obtain ⟨v, h1, h2⟩ := r.at_ _ _ e
    exact ⟨v, h1, f.pure m h2 h⟩
  · exact h.elim⟩
def mC (d : Da) : ME := fun _ M Q => Q d M
theorem E_non : SE K (fun _ => tC .non) (fun _ => mC .non) := ⟨fun _ m _ f h => f.pure m .non h⟩
theorem E_bl (b : Bool) : SE K (fun _ => tC (.bl b)) (fun _ => mC (.bl b)) := ⟨fun _ m _ f h => f.pure m (.bl b) h⟩
theorem E_int (i : Int) : SE K (fun _ => tC (.int i)) (fun _ => mC (.int i)) := ⟨fun _ m _ f h => f.pure m (.int i) h⟩
theorem E_str {s : Str} (hs : decide (s.length ≤ 16777216) = true) : SE K (fun _ => tC (.str s)) (fun _ => mC (.str s)) := ⟨fun _ m _ f h => f.pure m (.str (by rw [sizeLine_eq]; exact of_decide_eq_true hs)) h⟩
theorem E_ty (n : String) : SE K (fun _ => tC (.ty n)) (fun _ => mC (.ty n)) := ⟨fun _ m _ f h => f.pure m (.ty n) h⟩
theorem E_gl (x : Str) : SE K (fun _ => tC (.ref (He.ga K x))) (fun _ => mC (.gl x)) := ⟨fun _ m _ f h => f.pure m (.gl x) h⟩
/-- a tuple of the module -/
def KTup (K : PySem.W.Frag) (a : Addr) (ds : List Da) : Prop := ∃ vs, (∀ H, SqT K H a vs) ∧ ∀ H φ χ, RpL K H φ χ vs ds
theorem E_kt {a : Addr} {ds : List Da} (h : KTup K a ds) : SE K (fun _ => tC (.ref a)) (fun _ => mC (.kt ds)) := ⟨fun _ m _ f q => by
  obtain ⟨vs, h1, h2⟩ := h
  exact f.pure m (.ktK h1 (h2 _ _ _)) q⟩
variable {ta tb tc : WX → TE} {ma mb mc : WD → ME}
def mOp (n : MO) (ma mb : ME) : ME := fun ρ M Q => ma ρ M fun x M1 => mb ρ M1 fun y M2 => n x y M2 Q
theorem E_op {r : R2} {n : MO} (o : SO K r n) (a : SE K ta ma) (b : SE K tb mb) : SE K (fun W => tOp r (ta W) (tb W)) (fun W => mOp n (ma W) (mb W)) := ⟨fun r m w f h =>
  a.run r m w (fun v d H1 φ1 M1 A1 m1 r1 h1 => b.run (r.adv A1) m1 (w.adv A1) (fun u e H2 φ2 M2 A2 m2 r2 h2 => o m2 (r1.adv A2) r2 ((f.adv A1).adv A2) h2) h1) h⟩
def mOpR (n : MO) (ma : ME) : ME := fun ρ M Q => ma ρ M fun x M1 => n x .non M1 Q
theorem E_opR {x : Str} {r : R2} {n : MO} (o : SOr K (He.ga K x) r n) (a : SE K ta ma) : SE K (fun W => tOp r (ta W) (tC (.ref (He.ga K x)))) (fun W => mOpR n (ma W)) := ⟨fun r m w f h =>
  a.run r m w (fun v d H1 φ1 M1 A1 m1 r1 h1 => o m1 r1 (f.adv A1) h1) h⟩
def mOpL (n : MO) (ma : ME) : ME := fun ρ M Q => ma ρ M fun x M1 => n .non x M1 Q
theorem E_opL {x : Str} {r : R2} {n : MO} (o : SOl K (He.ga K x) r n) (a : SE K ta ma) : SE K (fun W => tOp r (tC (.ref (He.ga K x))) (ta W)) (fun W => mOpL n (ma W)) := ⟨fun r m w f h =>
  a.run r m w (fun v d H1 φ1 M1 A1 m1 r1 h1 => o m1 r1 (f.adv A1) h1) h⟩
def mNeg (ma : ME) : ME := fun ρ M Q => ma ρ M fun x M1 => match x with
  | .int i => Q (.int (-i)) M1
  | _ => False
theorem E_neg (a : SE K ta ma) : SE K (fun W => tUn (rU fun i => .int (-i)) (ta W)) (fun W => mNeg (ma W)) := ⟨fun r m w f h =>
  a.run r m w (fun v d H1 φ1 M1 A1 m1 r1 h1 => by
    split at h1
    · obtain rfl := vInt r1
      exact ⟨_, rfl, (f.adv A1).pure m1 (.int _) h1⟩
    · exact h1.elim) h⟩
def mNotV (ma : ME) : ME := fun ρ M Q => ma ρ M fun x M1 => match x with
  | .bl c => Q (.bl (!c)) M1
  | _ => False
theorem E_notV (a : SE K ta ma) : SE K (fun W => tNotV (ta W)) (fun W => mNotV (ma W)) := ⟨fun r m w f h =>
  a.run r m w (fun v d H1 φ1 M1 A1 m1 r1 h1 => by
    split at h1
    · obtain rfl := vBl r1
      exact ⟨_, rfl, (f.adv A1).pure m1 (.bl _) h1⟩
    · exact h1.elim) h⟩
def mAndV (ma mb : ME) : ME := fun ρ M Q => ma ρ M fun x M1 => match x with
  | .bl c => if c = true then mb ρ M1 Q else Q (.bl false) M1
  | _ => False
theorem E_andV (a : SE K ta ma) (b : SE K tb mb) : SE K (fun W => tAndV (ta W) (tb W)) (fun W => mAndV (ma W) (mb W)) := ⟨fun r m w f h =>
  a.run r m w (fun v d H1 φ1 M1 A1 m1 r1 h1 => by
    split at h1
    · rename_i c
      obtain rfl := vBl r1
      refine ⟨_, rfl, ?_⟩
      cases c with
      | true => exact b.run (r.adv A1) m1 (w.adv A1) (f.adv A1) h1
      | false => exact (f.adv A1).pure m1 (.bl _) h1
    · exact h1.elim) h⟩
def mOrV (ma mb : ME) : ME := fun ρ M Q => ma ρ M fun x M1 => match x with
  | .bl c => if c = true then Q (.bl true) M1 else mb ρ M1 Q
  | _ => False
theorem E_orV (a : SE K ta ma) (b : SE K tb mb) : SE K (fun W => tOrV (ta W) (tb W)) (fun W => mOrV (ma W) (mb W)) := ⟨fun r m w f h =>
  a.run r m w (fun v d H1 φ1 M1 A1 m1 r1 h1 => by
    split at h1
    · rename_i c
      obtain rfl := vBl r1
      refine ⟨_, rfl, ?_⟩
      cases c with
      | true => exact (f.adv A1).pure m1 (.bl _) h1
      | false => exact b.run (r.adv A1) m1 (w.adv A1) (f.adv A1) h1
    · exact h1.elim) h⟩
def mChain (n n' : MO) (ma mb mc : ME) : ME := fun ρ M Q => ma ρ M fun x M1 => mb ρ M1 fun y M2 => n x y M2 fun z M3 => match z with
  | .bl k => if k = true then mc ρ M3 fun u M4 => n' y u M4 Q else Q (.bl false) M3
  | _ => False
theorem E_chain {r r' : R2} {n n' : MO} (o : SO K r n) (o' : SO K r' n') (a : SE K ta ma) (b : SE K tb mb) (c : SE K tc mc) : SE K (fun W => tChain r r' (ta W) (tb W) (tc W)) (fun W => mChain n n' (ma W) (mb W) (mc W)) := ⟨fun r m w f h =>
  a.run r m w (fun v d H1 φ1 M1 A1 m1 r1 h1 => b.run (r.adv A1) m1 (w.adv A1) (fun u e H2 φ2 M2 A2 m2 r2 h2 => o m2 (r1.adv A2) r2 (fun z ez H3 φ3 M3 A3 m3 r3 h3 => by
    split at h3
    · rename_i k
      obtain rfl := vBl r3
      refine ⟨_, rfl, ?_⟩
      cases k with
      | true => exact c.run (r.adv ((A1.trans A2).trans A3)) m3 (w.adv ((A1.trans A2).trans A3)) (fun y ey H4 φ4 M4 A4 m4 r4 h4 => o' m4 (r2.adv (A3.trans A4)) r4 (f.adv (((A1.trans A2).trans A3).trans A4)) h4) h3
      | false => exact (f.adv ((A1.trans A2).trans A3)).pure m3 (.bl _) h3
    · exact h3.elim) h2) h1) h⟩
/-! tests -/
variable {tt tu : WX → TT} {mt mu : WD → MT}
def mIf (t : MT) (ma mb : ME) : ME := fun ρ M Q => t ρ M fun c M1 => if c = true then ma ρ M1 Q else mb ρ M1 Q
theorem E_if (t : ST K tt mt) (a : SE K ta ma) (b : SE K tb mb) : SE K (fun W => tIf (tt W) (ta W) (tb W)) (fun W => mIf (mt W) (ma W) (mb W)) := ⟨fun r m w f h =>
  t.run r m w (fun c H1 φ1 M1 A1 m1 h1 => by
    cases c with
    | true => exact a.run (r.adv A1) m1 (w.adv A1) (f.adv A1) h1
    | false => exact b.run (r.adv A1) m1 (w.adv A1) (f.adv A1) h1) h⟩
def mB (ma : ME) : MT := fun ρ M Q => ma ρ M fun x M1 => match x with
  | .bl c => Q c M1
  | _ => False
theorem E_test (a : SE K ta ma) : ST K (fun W => tTest (ta W)) (fun W => mB (ma W)) := ⟨fun r m w f h =>
  a.run r m w (fun v d H1 φ1 M1 A1 m1 r1 h1 => by
    split at h1
    · obtain rfl := vBl r1
      exact ⟨_, rfl, f _ _ _ _ A1 m1 h1⟩
    · exact h1.elim) h⟩
theorem E_B (a : SE K ta ma) : ST K (fun W => tB (ta W)) (fun W => mB (ma W)) := ⟨fun r m w f h => (E_test a).run r m w f h⟩
def mNot (t : MT) : MT := fun ρ M Q => t ρ M fun c M1 => Q (!c) M1
theorem E_not (t : ST K tt mt) : ST K (fun W => tNot (tt W)) (fun W => mNot (mt W)) := ⟨fun r m w f h => t.run r m w (fun c H1 φ1 M1 A1 m1 h1 => f _ _ _ _ A1 m1 h1) h⟩
def mAnd (t u : MT) : MT := fun ρ M Q => t ρ M fun c M1 => if c = true then u ρ M1 Q else Q false M1
theorem E_and (t : ST K tt mt) (u : ST K tu mu) : ST K (fun W => tAnd (tt W) (tu W)) (fun W => mAnd (mt W) (mu W)) := ⟨fun r m w f h => t.run r m w (fun c H1 φ1 M1 A1 m1 h1 => by
    cases c with
    | true => exact u.run (r.adv A1) m1 (w.adv A1) (f.adv A1) h1
    | false => exact f _ _ _ _ A1 m1 h1) h⟩
def mOr (t u : MT) : MT := fun ρ M Q => t ρ M fun c M1 => if c = true then Q true M1 else u ρ M1 Q
theorem E_or (t : ST K tt mt) (u : ST K tu mu) : ST K (fun W => tOr (tt W) (tu W)) (fun W => mOr (mt W) (mu W)) := ⟨fun r m w f h => t.run r m w (fun c H1 φ1 M1 A1 m1 h1 => by
    cases c with
    | true => exact f _ _ _ _ A1 m1 h1
    | false => exact u.run (r.adv A1) m1 (w.adv A1) (f.adv A1) h1) h⟩
def mYes : MT := fun _ M Q => Q true M
theorem E_yes : ST K (fun _ => tYes) (fun _ => mYes) := ⟨fun _ m _ f h => f _ _ _ _ Adv.refl m h⟩
/-! argument lists -/
variable {as : WX → TA} {ms : WD → MA}
def mNil : MA := fun _ M Q => Q [] M
theorem E_nil : SA K (fun _ => tNil) (fun _ => mNil) := ⟨fun _ m _ f h => f _ _ _ _ _ Adv.refl m .nil h⟩
def mCons (ma : ME) (ms : MA) : MA := fun ρ M Q => ma ρ M fun x M1 => ms ρ M1 fun xs M2 => Q (x :: xs) M2
theorem E_cons (a : SE K ta ma) (s : SA K as ms) : SA K (fun W => tCons (ta W) (as W)) (fun W => mCons (ma W) (ms W)) := ⟨fun r m w f h =>
  a.run r m w (fun v d H1 φ1 M1 A1 m1 r1 h1 => s.run (r.adv A1) m1 (w.adv A1) (fun vs ds H2 φ2 M2 A2 m2 r2 h2 => f _ _ _ _ _ (A1.trans A2) m2 (.cons (r1.adv A2) r2) h2) h1) h⟩
/-! displays -/
def mTup (s : MA) : ME := fun ρ M Q => s ρ M fun ds M1 => ds.length ≤ 1000000 ∧ Q (.tup ds) M1
def mLst (s : MA) : ME := fun ρ M Q => s ρ M fun ds M1 => ds.length ≤ 1000000 ∧ Q (.lst ds) M1
theorem mio {n : Nat} (h : n ≤ 1000000) : n ≤ sizeLine := by
  rw [sizeLine_eq]
  omega
theorem E_tup (s : SA K as ms) : SE K (fun W => tTup (as W)) (fun W => mTup (ms W)) := ⟨fun r m w f h =>
  s.run r m w (fun vs ds H1 φ1 M1 A1 m1 r1 h1 => ⟨by rw [r1.len]; exact mio h1.1, fun p hp => (f.adv A1).tup m1 r1 hp h1.2⟩) h⟩
theorem E_lst (s : SA K as ms) : SE K (fun W => tLst (as W)) (fun W => mLst (ms W)) := ⟨fun r m w f h =>
  s.run r m w (fun vs ds H1 φ1 M1 A1 m1 r1 h1 => ⟨by rw [r1.len]; exact mio h1.1, fun p hp => (f.adv A1).lst m1 r1 hp h1.2⟩) h⟩
def mDNew : ME := fun _ M Q => Q (.dct []) M
theorem E_dnew : SE K (fun _ => tDNewK) (fun _ => mDNew) := ⟨fun r m w f h p hp => f _ _ _ _ _ (Adv.new hp) (m.new hp) (.dct upd_same rfl (m.nin hp) (fun c => m.hid p c hp) .nil) h⟩
/-! a written dict -/
def mPairs : List (ME × ME) → Sl → Mem → (List (Key × Da) → Mem → Prop) → Prop
  | [], _, M, Q => Q [] M
  | (k, v) :: r, ρ, M, Q => k ρ M fun x M1 => v ρ M1 fun y M2 => match keyD x with
    | some kk => mPairs r ρ M2 fun ps M3 => Q ((kk, y) :: ps) M3
    | none => False
def mergeD (kds more : List (Key × Da)) : List (Key × Da) := more.foldl (fun acc kv => putD acc kv.1 kv.2) kds
def mDisp (ps : List (ME × ME)) : ME := fun ρ M Q => mPairs ps ρ M fun kds M1 => kds.length ≤ 15 ∧ Q (.dct (mergeD [] kds)) M1
inductive SPs (K : PySem.W.Frag) : (WX → List (TE × TE)) → (WD → List (ME × ME)) → Prop
  | nil : SPs K (fun _ => []) (fun _ => [])
  | cons {tk tv : WX → TE} {mk mv : WD → ME} {ts : WX → List (TE × TE)} {ms : WD → List (ME × ME)} : SE K tk mk → SE K tv mv → SPs K ts ms → SPs K (fun W => (tk W, tv W) :: ts W) (fun W => (mk W, mv W) :: ms W)
theorem SPs.run {ts : WX → List (TE × TE)} {ms : WD → List (ME × ME)} (s : SPs K ts ms) : ∀ {χ W W' σ H φ ρ M} {Q' : List (Key × Da) → Mem → Prop} {Q : List (V × V) → Hp → Prop}, Rs K H φ χ σ ρ → Mm K H φ χ M → FW K χ H φ W' W →
    (∀ v kvs kds H' φ' M', Adv H φ H' φ' → Mm K H' φ' χ M' → v = kvs.map (fun kv : Key × V => (kV kv.1, kv.2)) → RpK K H' φ' χ kvs kds → Q' kds M' → Q v H') → mPairs (ms W') ρ M Q' → tPairs (ts W) σ H Q := by
  induction s with
  | nil =>
    intro χ W W' σ H φ ρ M Q' Q r m w f h
    exact f _ [] _ _ _ _ Adv.refl m rfl .nil h
  | cons k v s ih =>
    intro χ W W' σ H φ ρ M Q' Q r m w f h
    exact k.run r m w (fun v1 d1 H1 φ1 M1 A1 m1 r1 h1 => v.run (r.adv A1) m1 (w.adv A1) (fun v2 d2 H2 φ2 M2 A2 m2 r2 h2 => by
      split at h2
      · rename_i kk e
        have e1 := keyD_of r1 e
        exact ih (r.adv (A1.trans A2)) m2 (w.adv (A1.trans A2)) (fun v3 kvs kds H3 φ3 M3 A3 m3 e3 r3 h3 =>
          f _ ((kk, v2) :: kvs) _ _ _ _ ((A1.trans A2).trans A3) m3 (by rw [e3, e1]; rfl) (.cons (r2.adv A3) r3) h3) h2
      · exact h2.elim) h1) h
theorem mergeD_run {H : Hp} {φ χ : List Addr} : ∀ {kvs : List (Key × V)} {kds : List (Key × Da)} {acc : List (Key × V)} {ads : List (Key × Da)}, RpK K H φ χ kvs kds → RpK K H φ χ acc ads → RpK K H φ χ (mergeK acc kvs) (mergeD ads kds)
  | _, _, _, _, .nil, a => a
  | _, _, _, _, .cons (k := k) h r, a => by
    have q := mergeD_run r (a.put (k := k) h)
    exact q
theorem FW.hide {χ : List Addr} {H : Hp} {φ : List Addr} {W' : WD} {W : WX} {D : Addr} (f : FW K χ H φ W' W) : FW K (D :: χ) H φ W' W := fun c fs vfs dd σ' H' φ' ρ' M' A r m h n1 n2 q =>
  f c fs vfs dd σ' H' φ' ρ' M' A r.bare m.bare h n1 (fun z => n2 (List.mem_cons_of_mem _ z)) q.bare
theorem E_disp {ts : WX → List (TE × TE)} {ms : WD → List (ME × ME)} (s : SPs K ts ms) : SE K (fun W => tDisp (ts W)) (fun W => mDisp (ms W)) := ⟨fun {χ W W' σ H φ ρ M Q Q'} r m w f h p hp => by
  refine s.run (χ := p :: χ) (r.hideN hp) (m.hideN hp) ((w.adv (Adv.new hp)).hide) ?_ h
  intro v kvs kds H1 φ1 M1 A1 m1 e1 rk h1
  have np : p ∉ φ := m.nin hp
  have hp1 : H1 p = some (.dK []) := A1.keep p _ upd_same np
  have np1 : p ∉ φ1 := A1.nin upd_same np
  have hD : p ∈ p :: χ := List.mem_cons_self ..
  refine ⟨hp1, kvs, e1, by rw [rk.len]; exact h1.1, ?_⟩
  have r2 : RpK K (upd H1 p (.dK (mergeK [] kvs))) φ1 (p :: χ) (mergeK [] kvs) (mergeD [] kds) := (mergeD_run rk .nil).at_ hD
  have A2 : Adv H φ (upd H1 p (.dK (mergeK [] kvs))) φ1 := {
    keep := fun a o e n => by
      rw [upd_ne (ne_of_none e hp)]
      exact A1.keep a o (by rw [upd_ne (ne_of_none e hp)]; exact e) n
    pre := by
      obtain ⟨ψ, e, q⟩ := A1.pre
      refine ⟨ψ, e, fun a ha => ?_⟩
      have z := q a ha
      by_cases ea : a = p
      · rw [ea, upd_same] at z; cases z
      · rw [upd_ne ea] at z; exact z
    dom := fun a e => upd_some (A1.dom a (upd_some e)) }
  exact f _ _ _ _ _ A2 (m1.updH hD).bare (.dct upd_same rfl np1 (fun c => m.hid p c hp) r2.bare) h1.2⟩
/-! an exception's field -/
def mXf (a dd : Addr) (C f : Str) (i : Nat) : ME := fun ρ M Q => match ρ[i]? with
  | some (some (.exv a' dd' c fds)) => a' = a ∧ dd' = dd ∧ c = C ∧ match fds.lookup f with
    | some d => Q d M
    | none => False
  | _ => False
theorem RpF.look {H : Hp} {φ χ : List Addr} {f : Str} {d : Da} : ∀ {vs : List (Str × V)} {ds : List (Str × Da)}, RpF K H φ χ vs ds → ds.lookup f = some d → ∃ v, vs.lookup f = some v ∧ Rp K H φ χ v d
  | _, _, .nil, e => by cases e
  | _, _, .cons (k := k) h r, e => by
    rw [List.lookup_cons] at e ⊢
    cases q : f == k with
    | true =>
      rw [q] at e
      cases e
      exact ⟨_, rfl, h⟩
    | false =>
      rw [q] at e
      exact r.look e
theorem E_xf (a dd : Addr) (C f : Str) (i : Nat) : SE K (fun _ => tXf a (.ref (He.ga K C)) (some dd) (He.ga K C) f (tVar i)) (fun _ => mXf a dd C f i) := ⟨fun r m w f h => by
  unfold mXf at h
  split at h
  · rename_i a' dd' c fds e
    obtain ⟨rfl, rfl, rfl, h⟩ := h
    split at h
    · rename_i d ed
      obtain ⟨v, h1, h2⟩ := r.at_ _ _ e
      cases h2 with
      | exv hd n1 n2 rf =>
        obtain ⟨u, hu, ru⟩ := rf.look ed
        exact ⟨_, h1, rfl, rfl, _, _, u, rfl, hd, hu, f.pure m ru h⟩
    · exact h.elim
  · exact h.elim⟩
/-! slices -/
abbrev MO2 := Sl → Mem → (Option Int → Mem → Prop) → Prop
structure SP2 (K : PySem.W.Frag) (te : WX → TO) (me : WD → MO2) : Prop where
  run : ∀ {χ W W' σ H φ ρ M} {Q : Option Int → Hp → Prop} {Q' : Option Int → Mem → Prop}, Rs K H φ χ σ ρ → Mm K H φ χ M → FW K χ H φ W' W → (∀ b H' φ' M', Adv H φ H' φ' → Mm K H' φ' χ M' → Q' b M' → Q b H') → me W' ρ M Q' → te W σ H Q
def mNoPart : MO2 := fun _ M Q => Q none M
theorem E_nopart : SP2 K (fun _ => tNoPart) (fun _ => mNoPart) := ⟨fun _ m _ f h => f _ _ _ _ Adv.refl m h⟩
def mPart (ma : ME) : MO2 := fun ρ M Q => ma ρ M fun x M1 => match x with
  | .int i => Q (some i) M1
  | _ => False
theorem E_part (a : SE K ta ma) : SP2 K (fun W => tPart (ta W)) (fun W => mPart (ma W)) := ⟨fun r m w f h =>
  a.run r m w (fun v d H1 φ1 M1 A1 m1 r1 h1 => by
    split at h1
    · obtain rfl := vInt r1
      exact ⟨_, rfl, f _ _ _ _ A1 m1 h1⟩
    · exact h1.elim) h⟩
variable {tl th : WX → TO} {ml mh : WD → MO2}
def mSl (n : MO3) (ma : ME) (ml mh : MO2) : ME := fun ρ M Q => ma ρ M fun x M1 => ml ρ M1 fun l M2 => mh ρ M2 fun u M3 => n x l u M3 Q
theorem E_sl {r : V → Option Int → Option Int → Hp → VK → Prop} {n : MO3} (o : SO3 K r n) (a : SE K ta ma) (l : SP2 K tl ml) (h : SP2 K th mh) : SE K (fun W => tSl r (ta W) (tl W) (th W)) (fun W => mSl n (ma W) (ml W) (mh W)) := ⟨fun r m w f hh =>
  a.run r m w (fun v d H1 φ1 M1 A1 m1 r1 h1 => l.run (r.adv A1) m1 (w.adv A1) (fun x H2 φ2 M2 A2 m2 h2 => h.run (r.adv (A1.trans A2)) m2 (w.adv (A1.trans A2)) (fun y H3 φ3 M3 A3 m3 h3 => o m3 (r1.adv (A2.trans A3)) (f.adv ((A1.trans A2).trans A3)) h3) h2) h1) hh⟩
/-! builtins, methods -/
def mCB (n : List Da → Mem → TK → Prop) (s : MA) : ME := fun ρ M Q => s ρ M fun ds M1 => n ds M1 Q
theorem E_cb {r : List V → Hp → VK → Prop} {n : List Da → Mem → TK → Prop} (c : SC K r n) (s : SA K as ms) : SE K (fun W => tCB r (as W)) (fun W => mCB n (ms W)) := ⟨fun r m w f h =>
  s.run r m w (fun vs ds H1 φ1 M1 A1 m1 r1 h1 => c m1 r1 (f.adv A1) h1) h⟩
/-- the kind of thing that a method belongs to -/
def okM (T : String) : Da → Mem → Prop := if T = "str" then okS else if T = "list" then okLs else if T = "dict" then okDc else fun _ _ => False
theorem okM_run {H : Hp} {φ χ : List Addr} {M : Mem} {T : String} {v : V} {d : Da} (m : Mm K H φ χ M) (h : Rp K H φ χ v d) (o : okM T d M) : tyW K T v H := by
  unfold okM at o
  split at o
  · rename_i e; rw [e]; exact okS_run h o
  · split at o
    · rename_i e; rw [e]; exact okL_run m h o
    · split at o
      · rename_i e; rw [e]; exact okD_run m h o
      · exact o.elim
def mBM (T : String) (n : Da → List Da → Mem → TK → Prop) (ma : ME) (s : MA) : ME := fun ρ M Q => ma ρ M fun x M1 => okM T x M1 ∧ s ρ M1 fun xs M2 => n x xs M2 Q
def mBM0 (T : String) (n : Da → List Da → Mem → TK → Prop) (ma : ME) : ME := fun ρ M Q => ma ρ M fun x M1 => okM T x M1 ∧ n x [] M1 Q
theorem E_bm {T : String} {r : V → List V → Hp → VK → Prop} {n : Da → List Da → Mem → TK → Prop} (o : SMr K r n) (a : SE K ta ma) (s : SA K as ms) : SE K (fun W => tBMW K T r (ta W) (as W)) (fun W => mBM T n (ma W) (ms W)) := ⟨fun r m w f h =>
  a.run r m w (fun v d H1 φ1 M1 A1 m1 r1 h1 => ⟨okM_run m1 r1 h1.1, s.run (r.adv A1) m1 (w.adv A1) (fun vs ds H2 φ2 M2 A2 m2 r2 h2 => o m2 (r1.adv A2) r2 (f.adv (A1.trans A2)) h2) h1.2⟩) h⟩
theorem E_bm0 {T : String} {r : V → List V → Hp → VK → Prop} {n : Da → List Da → Mem → TK → Prop} (o : SMr K r n) (a : SE K ta ma) : SE K (fun W => tBM0W K T r (ta W)) (fun W => mBM0 T n (ma W)) := ⟨fun r m w f h =>
  a.run r m w (fun v d H1 φ1 M1 A1 m1 r1 h1 => ⟨okM_run m1 r1 h1.1, o m1 r1 .nil (f.adv A1) h1.2⟩) h⟩
/-! targets -/
variable {tg tg' : WX → TG} {mg mg' : WD → MG} {gs : WX → TGs} {mgs : WD → MGs}
def hName (i : Nat) : MG := fun d ρ M Q => Q (ρ.set i (some d)) M
theorem G_name (i : Nat) : SG K (fun _ => gName i) (fun _ => hName i) := ⟨fun r m w rv f h => f _ _ _ _ _ Adv.refl (r.set rv) m h⟩
def hNil : MGs := fun ds ρ M Q => ds = [] ∧ Q ρ M
theorem G_nil : SGs K (fun _ => gNil) (fun _ => hNil) := ⟨fun r m w rv f h => by
  obtain ⟨rfl, h⟩ := h
  cases rv
  exact ⟨rfl, f _ _ _ _ _ Adv.refl r m h⟩⟩
def hCons (g : MG) (gs : MGs) : MGs := fun ds ρ M Q => match ds with
  | d :: ds => g d ρ M fun ρ' M' => gs ds ρ' M' Q
  | [] => False
theorem G_cons (g : SG K tg mg) (s : SGs K gs mgs) : SGs K (fun W => gCons (tg W) (gs W)) (fun W => hCons (mg W) (mgs W)) := ⟨fun r m w rv f h => by
  unfold hCons at h
  split at h
  · cases rv with
    | cons h1 r1 =>
      exact ⟨_, _, rfl, g.run r m w h1 (fun σ' H' φ' ρ' M' A r' m' h' => s.run r' m' (w.adv A) (r1.adv A) (f.adv A) h') h⟩
  · exact h.elim⟩
def hTup (n : Nat) (gs : MGs) : MG := fun d ρ M Q => match look M d with
  | .tup ds => ds.length = n ∧ gs ds ρ M Q
  | _ => False
theorem G_tup {n : Nat} (s : SGs K gs mgs) : SG K (fun W => gTup K n (gs W)) (fun W => hTup n (mgs W)) := ⟨fun r m w rv f h => by
  unfold hTup at h
  split at h
  · rename_i ds e
    obtain ⟨a, vs, rfl, hs, rl⟩ := vT m rv e
    exact ⟨a, vs, rfl, hs, by rw [rl.len]; exact h.1, s.run r m w rl f h.2⟩
  · exact h.elim⟩
def hStar (n i : Nat) (gs : MGs) : MG := fun d ρ M Q => match seqD M d with
  | some ds => n ≤ ds.length + 1 ∧ ds.length ≤ 16384 ∧ gs (ds.take i ++ [.lst ((ds.drop i).take (ds.length + 1 - n))] ++ (ds.drop i).drop (ds.length + 1 - n)) ρ M Q
  | none => False
theorem G_star {n i : Nat} (s : SGs K gs mgs) : SG K (fun W => gStar K n i (gs W)) (fun W => hStar n i (mgs W)) := ⟨fun {χ W W' σ H φ ρ M v d Q Q'} r m w rv f h => by
  unfold hStar at h
  split at h
  · rename_i ds e
    obtain ⟨a, vs, rfl, hs, rl⟩ := seqD_of m rv e
    refine ⟨a, vs, rfl, hs.elim .inr .inl, by rw [rl.len]; exact h.1, by rw [rl.len]; exact h.2.1, fun D hD => ?_⟩
    rw [rl.len]
    have A : Adv H φ (upd H D (HO.lst ((vs.drop i).take (ds.length + 1 - n)))) φ := Adv.new hD
    refine s.run (r.adv A) (m.new hD) (w.adv A) ?_ (f.adv A) h.2.2
    have rm : RpL K H φ χ ((vs.drop i).take (ds.length + 1 - n)) ((ds.drop i).take (ds.length + 1 - n)) := (rl.drop i).take _
    exact (((rl.take i).adv A).app (.cons (.lst upd_same (m.nin hD) (fun c => m.hid D c hD) (rm.newObj hD)) .nil)).app (((rl.drop i).drop _).adv A)
  · exact h.elim⟩
abbrev MSet := Da → Da → Da → Mem → (Mem → Prop) → Prop
def SSet (K : PySem.W.Frag) (r : TSet) (n : MSet) : Prop := ∀ {χ H φ M o i v dO di dv} {Q : Hp → Prop} {Q' : Mem → Prop}, Mm K H φ χ M → Rp K H φ χ o dO → Rp K H φ χ i di → Rp K H φ χ v dv → (∀ H' φ' M', Adv H φ H' φ' → Mm K H' φ' χ M' → Q' M' → Q H') → n dO di dv M Q' → r o i v H Q
def nSet : MSet := fun o i v M Q => match o with
  | .cell n => match M[n]? with
    | some (.lst ds) => match i with
      | .int k => match ixN ds.length k with
        | some j => Q (M.set n (.lst (ds.set j v)))
        | none => False
      | _ => False
    | some (.dct kds) => ∃ k, keyD i = some k ∧ kds.length ≤ 1000000 ∧ Q (M.set n (.dct (putD kds k v)))
    | _ => False
  | _ => False
theorem O_set : SSet K rSetB nSet := by
  intro χ H φ M o i v dO di dv Q Q' m ho hi hv f h
  unfold nSet at h
  split at h
  · cases ho with
    | cell ha =>
      split at h
      · rename_i n ds e
        obtain ⟨vs, e1, r⟩ := m.at_ _ _ _ ha e
        split at h
        · obtain rfl := vInt hi
          split at h
          · rename_i j ej
            refine .inl ⟨_, vs, _, j, rfl, rfl, e1, by rw [r.len]; exact ej, f _ _ _ (Adv.mut (List.mem_of_getElem? ha)) (m.mut (d := .lst _) ha ⟨_, upd_same, (r.set hv j).adv (Adv.mut (List.mem_of_getElem? ha))⟩) h⟩
          · exact h.elim
        · exact h.elim
      · rename_i n kds e
        obtain ⟨kvs, e1, r⟩ := m.at_ _ _ _ ha e
        obtain ⟨k, hk, hl, q⟩ := h
        refine .inr ⟨_, _, rfl, .inl ⟨kvs, k, e1, keyD_of hi hk, by rw [r.len, sizeLine_eq]; omega, rfl⟩, f _ _ _ (Adv.mut (List.mem_of_getElem? ha)) (m.mut (d := .dct _) ha ⟨_, upd_same, (r.put hv).adv (Adv.mut (List.mem_of_getElem? ha))⟩) q⟩
      · exact h.elim
  · exact h.elim
def hSub (mo mi : ME) (n : MSet) : MG := fun d ρ M Q => mo ρ M fun o M1 => mi ρ M1 fun i M2 => n o i d M2 fun M3 => Q ρ M3
theorem G_sub {r : TSet} {n : MSet} (o : SSet K r n) (a : SE K ta ma) (b : SE K tb mb) : SG K (fun W => gSub (ta W) (tb W) r) (fun W => hSub (ma W) (mb W) n) := ⟨fun r m w rv f h =>
  a.run r m w (fun v d H1 φ1 M1 A1 m1 r1 h1 => b.run (r.adv A1) m1 (w.adv A1) (fun u e H2 φ2 M2 A2 m2 r2 h2 => o m2 (r1.adv A2) r2 (rv.adv (A1.trans A2)) (fun H3 φ3 M3 A3 m3 h3 => f _ _ _ _ _ ((A1.trans A2).trans A3) (r.adv ((A1.trans A2).trans A3)) m3 h3) h2) h1) h⟩
end
end Z

/-! T7: cells, statements, loops, comprehensions, calls, try -/
namespace Z
open PySem PySem.Spec PyProof.Rows L2 Evl
section
variable {K : PySem.W.Frag} {ta tb : WX → TE} {ma mb : WD → ME} {as : WX → TA} {ms : WD → MA}
def ldD : Da → Bool
  | .lst _ => true
  | .dct _ => true
  | _ => false
/-! ### what is changed later: a new cell. SN: the expression's end is a new object at an address where nothing was -/
structure SN (K : PySem.W.Frag) (te : WX → TE) (me : WD → ME) : Prop where
  run : ∀ {χ W W' σ H φ ρ M} {Q : VK} {Q' : TK}, Rs K H φ χ σ ρ → Mm K H φ χ M → FW K χ H φ W' W → (∀ d M', Q' d M' → ldD d = true) →
    (∀ p d H' φ' M', Adv H φ H' φ' → H p = none → p ∉ φ' → p ∉ χ → Mm K H' φ' (p :: χ) M' → CellAt K H' φ' (p :: χ) p d → Q' d M' → Q (.ref p) H') → me W' ρ M Q' → te W σ H Q
/-- the simple way: a new list at the end -/
theorem SN.lst {χ φ φ1 : List Addr} {H H1 : Hp} {M1 : Mem} {Q : VK} {Q' : TK} (f : ∀ p d H' φ' M', Adv H φ H' φ' → H p = none → p ∉ φ' → p ∉ χ → Mm K H' φ' (p :: χ) M' → CellAt K H' φ' (p :: χ) p d → Q' d M' → Q (.ref p) H')
    {p : Addr} {vs : List V} {ds : List Da} (A : Adv H φ H1 φ1) (m : Mm K H1 φ1 χ M1) (hp : H1 p = none) (r : RpL K H1 φ1 χ vs ds) (q : Q' (.lst ds) M1) : Q (.ref p) (upd H1 p (.lst vs)) := by
  have h0 : H p = none := by
    cases e : H p with
    | none => rfl
    | some o => exact absurd hp (A.dom p (by rw [e]; simp))
  refine f p (.lst ds) _ φ1 M1 (A.trans (Adv.new hp)) h0 (m.nin hp) (fun c => m.hid p c hp) (m.hideN hp) ⟨vs, upd_same, (r.hide hp).at_ (List.mem_cons_self ..)⟩ q
theorem SN.dct {χ φ φ1 : List Addr} {H H1 : Hp} {M1 : Mem} {Q : VK} {Q' : TK} (f : ∀ p d H' φ' M', Adv H φ H' φ' → H p = none → p ∉ φ' → p ∉ χ → Mm K H' φ' (p :: χ) M' → CellAt K H' φ' (p :: χ) p d → Q' d M' → Q (.ref p) H')
    {p : Addr} {vs : List (Key × V)} {ds : List (Key × Da)} (A : Adv H φ H1 φ1) (m : Mm K H1 φ1 χ M1) (hp : H1 p = none) (r : RpK K H1 φ1 χ vs ds) (q : Q' (.dct ds) M1) : Q (.ref p) (upd H1 p (.dK vs)) := by
  have h0 : H p = none := by
    cases e : H p with
    | none => rfl
    | some o => exact absurd hp (A.dom p (by rw [e]; simp))
  refine f p (.dct ds) _ φ1 M1 (A.trans (Adv.new hp)) h0 (m.nin hp) (fun c => m.hid p c hp) (m.hideN hp) ⟨vs, upd_same, (r.hide hp).at_ (List.mem_cons_self ..)⟩ q
theorem N_lst (s : SA K as ms) : SN K (fun W => tLst (as W)) (fun W => mLst (ms W)) := ⟨fun r m w sh f h =>
  s.run r m w (fun vs ds H1 φ1 M1 A1 m1 r1 h1 => ⟨by rw [r1.len]; exact mio h1.1, fun p hp => SN.lst f A1 m1 hp r1 h1.2⟩) h⟩
theorem N_dnew : SN K (fun _ => tDNewK) (fun _ => mDNew) := ⟨fun r m w sh f h p hp => SN.dct f Adv.refl m hp .nil h⟩
theorem N_list (s : SA K as ms) : SN K (fun W => tCB (rListA K) (as W)) (fun W => mCB nList (ms W)) := ⟨fun r m w sh f h =>
  s.run r m w (fun vs ds H1 φ1 M1 A1 m1 r1 h1 => by
    unfold nList at h1
    split at h1
    · obtain ⟨v, rfl, h2⟩ := r1.one
      split at h1
      · rename_i ds e
        obtain ⟨a, vs, rfl, hs, rl⟩ := seqD_of m1 h2 e
        exact ⟨a, vs, rfl, hs, fun l hl => SN.lst f A1 m1 hl rl h1⟩
      · exact h1.elim
    · exact h1.elim) h⟩
theorem N_add (a : SE K ta ma) (b : SE K tb mb) : SN K (fun W => tOp (rAddA K) (ta W) (tb W)) (fun W => mOp nAdd (ma W) (mb W)) := ⟨fun r m w sh f h =>
  a.run r m w (fun v d H1 φ1 M1 A1 m1 r1 h1 => b.run (r.adv A1) m1 (w.adv A1) (fun u e H2 φ2 M2 A2 m2 r2 h2 => by
    have r1 := r1.adv A2
    unfold nAdd at h2
    split at h2
    · have := sh _ _ h2; cases this
    · have := sh _ _ h2.2; cases this
    · split at h2
      · rename_i x y e1 e2
        obtain ⟨p, vs, rfl, g1, l1⟩ := vLE m2 r1 e1
        obtain ⟨q, ws, rfl, g2, l2⟩ := vLE m2 r2 e2
        exact .inr (.inr (.inl ⟨p, q, vs, ws, rfl, rfl, g1, g2, by rw [l1.len, l2.len]; exact h2.1, fun n hn => SN.lst f (A1.trans A2) m2 hn (l1.app l2) h2.2⟩))
      · have := sh _ _ h2.2.2.2; cases this
      · exact h2.elim) h1) h⟩
theorem N_sl {tl th : WX → TO} {ml mh : WD → MO2} (a : SE K ta ma) (l : SP2 K tl ml) (h : SP2 K th mh) : SN K (fun W => tSl (Z.rSlA K) (ta W) (tl W) (th W)) (fun W => mSl nSl (ma W) (ml W) (mh W)) := ⟨fun {χ W W' σ H φ ρ M Q Q'} r m w sh f hh =>
  a.run r m w (fun v d H1 φ1 M1 A1 m1 r1 h1 => l.run (r.adv A1) m1 (w.adv A1) (fun x H2 φ2 M2 A2 m2 h2 => h.run (r.adv (A1.trans A2)) m2 (w.adv (A1.trans A2)) (fun y H3 φ3 M3 A3 m3 h3 => by
    have r1 := r1.adv (A2.trans A3)
    unfold nSl at h3
    split at h3
    · have := sh _ _ h3; cases this
    · rename_i ds e
      obtain ⟨a, vs, rfl, hs, rl⟩ := vL m3 r1 e
      refine .inr (.inl ⟨a, vs, rfl, hs, fun p hp => ?_⟩)
      have r2 : RpL K H3 φ3 χ (cutV vs x y) (cutL ds x y) := by
        unfold cutV cutL
        rw [rl.len]
        exact (rl.drop _).take _
      exact SN.lst f ((A1.trans A2).trans A3) m3 hp r2 h3
    · split at h3
      · have := sh _ _ h3; cases this
      · exact h3.elim
    · exact h3.elim) h2) h1) hh⟩
theorem N_disp {ts : WX → List (TE × TE)} {ms : WD → List (ME × ME)} (s : SPs K ts ms) : SN K (fun W => tDisp (ts W)) (fun W => mDisp (ms W)) := ⟨fun {χ W W' σ H φ ρ M Q Q'} r m w sh f h p hp => by
  refine s.run (χ := p :: χ) (r.hideN hp) (m.hideN hp) ((w.adv (Adv.new hp)).hide) ?_ h
  intro v kvs kds H1 φ1 M1 A1 m1 e1 rk h1
  have np : p ∉ φ := m.nin hp
  have hp1 : H1 p = some (.dK []) := A1.keep p _ upd_same np
  have np1 : p ∉ φ1 := A1.nin upd_same np
  have hD : p ∈ p :: χ := List.mem_cons_self ..
  refine ⟨hp1, kvs, e1, by rw [rk.len]; exact h1.1, ?_⟩
  have r2 : RpK K (upd H1 p (.dK (mergeK [] kvs))) φ1 (p :: χ) (mergeK [] kvs) (mergeD [] kds) := (mergeD_run rk .nil).at_ hD
  have A2 : Adv H φ (upd H1 p (.dK (mergeK [] kvs))) φ1 := {
    keep := fun a o e n => by
      rw [upd_ne (ne_of_none e hp)]
      exact A1.keep a o (by rw [upd_ne (ne_of_none e hp)]; exact e) n
    pre := by
      obtain ⟨ψ, e, q⟩ := A1.pre
      refine ⟨ψ, e, fun a ha => ?_⟩
      have z := q a ha
      by_cases ea : a = p
      · rw [ea, upd_same] at z; cases z
      · rw [upd_ne ea] at z; exact z
    dom := fun a e => upd_some (A1.dom a (upd_some e)) }
  exact f p (.dct (mergeD [] kds)) _ _ _ A2 hp np1 (fun c => m.hid p c hp) (m1.updH hD) ⟨_, upd_same, r2⟩ h1.2⟩
/-- the new object as a cell -/
def mCell (ma : ME) : ME := fun ρ M Q => ma ρ M fun d M1 => match d with
  | .lst ds => Q (.cell M1.length) (M1 ++ [.lst ds])
  | .dct kds => Q (.cell M1.length) (M1 ++ [.dct kds])
  | _ => False
theorem snoc_at {α : Type} (l : List α) (a : α) : (l ++ [a])[l.length]? = some a := by simp
theorem nap {α : Type} {a p : α} {l : List α} (h : a ∉ l) (n : a ≠ p) : a ∉ l ++ [p] := fun m => (List.mem_append.1 m).elim h fun q => n (List.mem_singleton.1 q)
theorem nhd {α : Type} {a p : α} {l : List α} (h : a ∉ p :: l) : a ≠ p ∧ a ∉ l := ⟨fun e => h (by rw [e]; exact List.mem_cons_self ..), fun m => h (List.mem_cons_of_mem _ m)⟩
mutual
theorem Rp.toC {H : Hp} {φ χ : List Addr} {p : Addr} : ∀ {v : V} {d : Da}, Rp K H φ (p :: χ) v d → Rp K H (φ ++ [p]) χ v d
  | _, _, .non => .non
  | _, _, .bl b => .bl b
  | _, _, .int i => .int i
  | _, _, .str h => .str h
  | _, _, .ty n => .ty n
  | _, _, .gl x => .gl x
  | _, _, .tup h n m r => .tup h (nap n (nhd m).1) (nhd m).2 (RpL.toC r)
  | _, _, .lst h n m r => .lst h (nap n (nhd m).1) (nhd m).2 (RpL.toC r)
  | _, _, .dct h c n m r => .dct h c (nap n (nhd m).1) (nhd m).2 (RpK.toC r)
  | _, _, .obj h n m r => .obj h (nap n (nhd m).1) (nhd m).2 (RpF.toC r)
  | _, _, .klR h q n m r => .klR h q (nap n (nhd m).1) (nhd m).2 (RpL.toC r)
  | _, _, .klK h r => .klK h (RpL.toC r)
  | _, _, .ktK h r => .ktK h (RpL.toC r)
  | _, _, .cell h => .cell (by rw [List.getElem?_append_left (List.getElem?_eq_some_iff.1 h).1]; exact h)
  | _, _, .exv h n m r => .exv h (nap n (nhd m).1) (nhd m).2 (RpF.toC r)
theorem RpL.toC {H : Hp} {φ χ : List Addr} {p : Addr} : ∀ {v : List V} {d : List Da}, RpL K H φ (p :: χ) v d → RpL K H (φ ++ [p]) χ v d
  | _, _, .nil => .nil
  | _, _, .cons h r => .cons (Rp.toC h) (RpL.toC r)
theorem RpK.toC {H : Hp} {φ χ : List Addr} {p : Addr} : ∀ {v : List (Key × V)} {d : List (Key × Da)}, RpK K H φ (p :: χ) v d → RpK K H (φ ++ [p]) χ v d
  | _, _, .nil => .nil
  | _, _, .cons h r => .cons (Rp.toC h) (RpK.toC r)
theorem RpF.toC {H : Hp} {φ χ : List Addr} {p : Addr} : ∀ {v : List (Str × V)} {d : List (Str × Da)}, RpF K H φ (p :: χ) v d → RpF K H (φ ++ [p]) χ v d
  | _, _, .nil => .nil
  | _, _, .cons h r => .cons (Rp.toC h) (RpF.toC r)
end
theorem CellAt.toC {H : Hp} {φ χ : List Addr} {p a : Addr} {d : Da} (c : CellAt K H φ (p :: χ) a d) : CellAt K H (φ ++ [p]) χ a d := by
  cases d with
  | lst ds => obtain ⟨vs, q, r⟩ := c; exact ⟨vs, q, r.toC⟩
  | dct ds => obtain ⟨vs, q, r⟩ := c; exact ⟨vs, q, r.toC⟩
  | obj c ds => obtain ⟨dx, vs, q, r⟩ := c; exact ⟨dx, vs, q, r.toC⟩
  | gl x => exact c
  | _ => exact c.elim
theorem Mm.toC {H : Hp} {φ χ : List Addr} {p : Addr} {M : Mem} {d : Da} (m : Mm K H φ (p :: χ) M) (np : p ∉ φ) (nx : p ∉ χ) (c : CellAt K H φ (p :: χ) p d) : Mm K H (φ ++ [p]) χ (M ++ [d]) where
  nd := by
    rw [List.nodup_append]
    refine ⟨m.nd, by simp, fun a ha b hb q => ?_⟩
    rw [List.mem_singleton.1 hb] at q
    exact np (by rw [← q]; exact ha)
  len := by rw [List.length_append, List.length_append, m.len]; rfl
  dis := fun a ha => by
    rcases List.mem_append.1 ha with ha | ha
    · exact (nhd (m.dis a ha)).2
    · rw [List.mem_singleton.1 ha]; exact nx
  hid := fun a ha => m.hid a (List.mem_cons_of_mem _ ha)
  at_ := fun n a e e1 e2 => by
    by_cases l : n < φ.length
    · rw [List.getElem?_append_left l] at e1
      rw [List.getElem?_append_left (by rw [← m.len]; exact l)] at e2
      exact (m.at_ n a e e1 e2).toC
    · have l2 : φ.length ≤ n := Nat.le_of_not_lt l
      rw [List.getElem?_append_right l2] at e1
      rw [List.getElem?_append_right (by rw [← m.len]; exact l2)] at e2
      have z : n - φ.length = 0 := by
        have := (List.getElem?_eq_some_iff.1 e1).1
        simp at this
        omega
      rw [z] at e1
      rw [show n - M.length = 0 by rw [← m.len]; exact z] at e2
      simp at e1 e2
      rw [← e1, ← e2]
      exact c.toC
theorem E_cell (a : SN K ta ma) : SE K ta (fun W => mCell (ma W)) := ⟨fun {χ W W' σ H φ ρ M Q Q'} r m w f h => by
  refine a.run r m w (Q' := fun d M1 => match d with | .lst ds => Q' (.cell M1.length) (M1 ++ [.lst ds]) | .dct kds => Q' (.cell M1.length) (M1 ++ [.dct kds]) | _ => False) ?_ ?_ h
  · intro d M1 q
    split at q
    · rfl
    · rfl
    · exact q.elim
  · intro p d H' φ' M' A hp np nx m' c q
    have A2 : Adv H φ H' (φ' ++ [p]) := ⟨A.keep, by
      obtain ⟨ψ, e, z⟩ := A.pre
      refine ⟨ψ ++ [p], by rw [e]; simp, fun a ha => ?_⟩
      rcases List.mem_append.1 ha with ha | ha
      · exact z a ha
      · rw [List.mem_singleton.1 ha]; exact hp, A.dom⟩
    have at_ : (φ' ++ [p])[M'.length]? = some p := by
      rw [← m'.len]
      exact snoc_at _ _
    split at q
    · exact f _ _ _ (φ' ++ [p]) _ A2 (m'.toC np nx c) (.cell at_) q
    · exact f _ _ _ (φ' ++ [p]) _ A2 (m'.toC np nx c) (.cell at_) q
    · exact q.elim⟩
/-! ### statements -/
variable {ts us : WX → TS} {mt mu : WD → MS} {tt : WX → TT} {mtt : WD → MT} {tg : WX → TG} {mg : WD → MG}
def mNext : MS := fun D ρ M => D.nx ρ M
theorem S_next : SS K (fun _ => tNext) (fun _ => mNext) := ⟨fun r m w n t b c h => n _ _ _ _ _ Adv.refl r m h⟩
def mSeq (t u : MS) : MS := fun D ρ M => t { D with nx := fun ρ M => u D ρ M } ρ M
theorem S_seq (s : SS K ts mt) (u : SS K us mu) : SS K (fun W => tSeq (ts W) (us W)) (fun W => mSeq (mt W) (mu W)) := ⟨fun {χ W W' σ H φ ρ M D D'} r m w n t b c h =>
  s.run (D' := { D' with nx := fun ρ M => mu W' D' ρ M }) (D := { D with nx := us W D }) r m w (fun σ' H' φ' ρ' M' A r' m' h' => u.run r' m' (w.adv A) (n.adv A) (t.adv A) (b.adv A) (c.adv A) h') t b c h⟩
def mCut (t u : MS) : MS := fun D ρ M => ∃ Mid : Sl → Mem → Prop, t { D with nx := Mid } ρ M ∧ ∀ ρ' M', Mid ρ' M' → u D ρ' M'
theorem S_cut (s : SS K ts mt) (u : SS K us mu) : SS K (fun W => tCut (ts W) (us W)) (fun W => mCut (mt W) (mu W)) := ⟨fun {χ W W' σ H φ ρ M D D'} r m w n t b c h => by
  obtain ⟨Mid, h1, h2⟩ := h
  exact ⟨us W D, s.run (D' := { D' with nx := Mid }) (D := { D with nx := us W D }) r m w (fun σ' H' φ' ρ' M' A r' m' h' => u.run r' m' (w.adv A) (n.adv A) (t.adv A) (b.adv A) (c.adv A) (h2 _ _ h')) t b c h1, fun _ _ h => h⟩⟩
def mRet (ma : ME) : MS := fun D ρ M => ma ρ M D.rt
theorem S_ret (a : SE K ta ma) : SS K (fun W => tRet (ta W)) (fun W => mRet (ma W)) := ⟨fun r m w n t b c h => a.run r m w t h⟩
def mRetN : MS := fun D _ M => D.rt .non M
theorem S_retN : SS K (fun _ => tRetN) (fun _ => mRetN) := ⟨fun r m w n t b c h => t.pure m .non h⟩
def mIfS (c : MT) (t u : MS) : MS := fun D ρ M => c ρ M fun k M1 => if k = true then t D ρ M1 else u D ρ M1
theorem S_if (k : ST K tt mtt) (s : SS K ts mt) (u : SS K us mu) : SS K (fun W => tIfS (tt W) (ts W) (us W)) (fun W => mIfS (mtt W) (mt W) (mu W)) := ⟨fun r m w n t b c h =>
  k.run r m w (fun k H1 φ1 M1 A1 m1 h1 => by
    cases k with
    | true => exact s.run (r.adv A1) m1 (w.adv A1) (n.adv A1) (t.adv A1) (b.adv A1) (c.adv A1) h1
    | false => exact u.run (r.adv A1) m1 (w.adv A1) (n.adv A1) (t.adv A1) (b.adv A1) (c.adv A1) h1) h⟩
def mDrop (ma : ME) : MS := fun D ρ M => ma ρ M fun _ M1 => D.nx ρ M1
theorem S_drop (a : SE K ta ma) : SS K (fun W => tDrop (ta W)) (fun W => mDrop (ma W)) := ⟨fun r m w n t b c h => a.run r m w (fun v d H1 φ1 M1 A1 m1 r1 h1 => n _ _ _ _ _ A1 (r.adv A1) m1 h1) h⟩
def mAsg (ma : ME) (g : MG) : MS := fun D ρ M => ma ρ M fun x M1 => g x ρ M1 D.nx
theorem S_asg (a : SE K ta ma) (g : SG K tg mg) : SS K (fun W => tAsg (ta W) (tg W)) (fun W => mAsg (ma W) (mg W)) := ⟨fun r m w n t b c h =>
  a.run r m w (fun v d H1 φ1 M1 A1 m1 r1 h1 => g.run (r.adv A1) m1 (w.adv A1) r1 (n.adv A1) h1) h⟩
def mPar (i j : Nat) (s : MA) : MS := fun D ρ M => s ρ M fun ds M1 => match ds with
  | [x, y] => D.nx ((ρ.set i (some x)).set j (some y)) M1
  | _ => False
theorem S_par {i j : Nat} (s : SA K as ms) : SS K (fun W => tPar i j (as W)) (fun W => mPar i j (ms W)) := ⟨fun r m w n t b c h =>
  s.run r m w (fun vs ds H1 φ1 M1 A1 m1 r1 h1 => by
    split at h1
    · obtain ⟨v, u, rfl, h2, h3⟩ := r1.two
      exact ⟨v, u, rfl, n _ _ _ _ _ A1 (((r.adv A1).set h2).set h3) m1 h1⟩
    · exact h1.elim) h⟩
theorem RpL.three {H : Hp} {φ χ : List Addr} {vs : List V} {d e f : Da} (r : RpL K H φ χ vs [d, e, f]) : ∃ v w u, vs = [v, w, u] ∧ Rp K H φ χ v d ∧ Rp K H φ χ w e ∧ Rp K H φ χ u f := by
  cases r with
  | cons h r =>
    obtain ⟨w, u, rfl, q, q'⟩ := r.two
    exact ⟨_, w, u, rfl, h, q, q'⟩
def mPar3 (i j l : Nat) (s : MA) : MS := fun D ρ M => s ρ M fun ds M1 => match ds with
  | [x, y, z] => D.nx (((ρ.set i (some x)).set j (some y)).set l (some z)) M1
  | _ => False
theorem S_par3 {i j l : Nat} (s : SA K as ms) : SS K (fun W => tPar3 i j l (as W)) (fun W => mPar3 i j l (ms W)) := ⟨fun r m w n t b c h =>
  s.run r m w (fun vs ds H1 φ1 M1 A1 m1 r1 h1 => by
    split at h1
    · obtain ⟨v, u, z, rfl, h2, h3, h4⟩ := r1.three
      exact ⟨v, u, z, rfl, n _ _ _ _ _ A1 ((((r.adv A1).set h2).set h3).set h4) m1 h1⟩
    · exact h1.elim) h⟩
/-! ### what a loop walks -/
/-- from one heap to a later one, but for what is hidden -/
structure AdvX (χ : List Addr) (H : Hp) (φ : List Addr) (H' : Hp) (φ' : List Addr) : Prop where
  keep : ∀ a o, H a = some o → a ∉ φ → a ∉ χ → H' a = some o
  pre : ∃ ψ, φ' = φ ++ ψ ∧ ∀ a ∈ ψ, H a = none
theorem Adv.toX {χ : List Addr} {H H' : Hp} {φ φ' : List Addr} (A : Adv H φ H' φ') : AdvX χ H φ H' φ' := ⟨fun a o h n _ => A.keep a o h n, A.pre⟩
theorem AdvX.nin {χ : List Addr} {H H' : Hp} {φ φ' : List Addr} (A : AdvX χ H φ H' φ') {a : Addr} {o : HO} (h : H a = some o) (n : a ∉ φ) : a ∉ φ' := by
  obtain ⟨ψ, rfl, q⟩ := A.pre
  intro m
  rcases List.mem_append.1 m with m | m
  · exact n m
  · rw [q a m] at h
    cases h
theorem AdvX.at_ {χ : List Addr} {H H' : Hp} {φ φ' : List Addr} (A : AdvX χ H φ H' φ') {n : Nat} {a : Addr} (h : φ[n]? = some a) : φ'[n]? = some a := by
  obtain ⟨ψ, rfl, _⟩ := A.pre
  rw [List.getElem?_append_left (List.getElem?_eq_some_iff.1 h).1]
  exact h
section
variable {H0 H : Hp} {φ0 φ χ χ1 : List Addr}
mutual
theorem Rp.at1 (hχ : ∀ a ∈ χ1, a ∈ χ ∨ H0 a = none) (A : AdvX χ H0 φ0 H φ) : ∀ {v : V} {d : Da}, Rp K H0 φ0 χ v d → Rp K H φ χ1 v d
  | _, _, .non => .non
  | _, _, .bl b => .bl b
  | _, _, .int i => .int i
  | _, _, .str h => .str h
  | _, _, .ty n => .ty n
  | _, _, .gl x => .gl x
  | _, _, .tup h n m r => .tup (A.keep _ _ h n m) (A.nin h n) (fun q => (hχ _ q).elim m fun z => ne_of_none h z rfl) (RpL.at1 hχ A r)
  | _, _, .lst h n m r => .lst (A.keep _ _ h n m) (A.nin h n) (fun q => (hχ _ q).elim m fun z => ne_of_none h z rfl) (RpL.at1 hχ A r)
  | _, _, .dct h c n m r => .dct (A.keep _ _ h n m) c (A.nin h n) (fun q => (hχ _ q).elim m fun z => ne_of_none h z rfl) (RpK.at1 hχ A r)
  | _, _, .obj h n m r => .obj (A.keep _ _ h n m) (A.nin h n) (fun q => (hχ _ q).elim m fun z => ne_of_none h z rfl) (RpF.at1 hχ A r)
  | _, _, .klR h e n m r => .klR (A.keep _ _ h n m) e (A.nin h n) (fun q => (hχ _ q).elim m fun z => ne_of_none h z rfl) (RpL.at1 hχ A r)
  | _, _, .klK h r => .klK h (RpL.at1 hχ A r)
  | _, _, .ktK h r => .ktK h (RpL.at1 hχ A r)
  | _, _, .cell h => .cell (A.at_ h)
  | _, _, .exv h n m r => .exv (A.keep _ _ h n m) (A.nin h n) (fun q => (hχ _ q).elim m fun z => ne_of_none h z rfl) (RpF.at1 hχ A r)
theorem RpL.at1 (hχ : ∀ a ∈ χ1, a ∈ χ ∨ H0 a = none) (A : AdvX χ H0 φ0 H φ) : ∀ {v : List V} {d : List Da}, RpL K H0 φ0 χ v d → RpL K H φ χ1 v d
  | _, _, .nil => .nil
  | _, _, .cons h r => .cons (Rp.at1 hχ A h) (RpL.at1 hχ A r)
theorem RpK.at1 (hχ : ∀ a ∈ χ1, a ∈ χ ∨ H0 a = none) (A : AdvX χ H0 φ0 H φ) : ∀ {v : List (Key × V)} {d : List (Key × Da)}, RpK K H0 φ0 χ v d → RpK K H φ χ1 v d
  | _, _, .nil => .nil
  | _, _, .cons h r => .cons (Rp.at1 hχ A h) (RpK.at1 hχ A r)
theorem RpF.at1 (hχ : ∀ a ∈ χ1, a ∈ χ ∨ H0 a = none) (A : AdvX χ H0 φ0 H φ) : ∀ {v : List (Str × V)} {d : List (Str × Da)}, RpF K H0 φ0 χ v d → RpF K H φ χ1 v d
  | _, _, .nil => .nil
  | _, _, .cons h r => .cons (Rp.at1 hχ A h) (RpF.at1 hχ A r)
end
end
structure ItD where
  items : List Da
  still : Mem → Prop
abbrev MI := Sl → Mem → (ItD → Mem → Prop) → Prop
def Turns (K : PySem.W.Frag) (χ : List Addr) (J : It) (I : ItD) (H0 : Hp) (φ0 : List Addr) : Prop := ∀ H φ M χ1, (∀ a ∈ χ1, a ∈ χ ∨ H0 a = none) → AdvX χ H0 φ0 H φ → Mm K H φ χ1 M → I.still M →
  (∀ i, i < I.items.length → J.go i H ∧ ∀ x H', J.yld i H x H' → ∃ d, I.items[i]? = some d ∧ Adv H φ H' φ ∧ Mm K H' φ χ1 M ∧ Rp K H' φ χ1 x d) ∧ J.stop I.items.length H
structure SI (K : PySem.W.Frag) (wi : WX → TI) (mi : WD → MI) : Prop where
  run : ∀ {χ W W' σ H φ ρ M} {R : It → Hp → Prop} {R' : ItD → Mem → Prop}, Rs K H φ χ σ ρ → Mm K H φ χ M → FW K χ H φ W' W →
    (∀ J I H' φ' M', Adv H φ H' φ' → Mm K H' φ' χ M' → Turns K χ J I H' φ' → I.still M' → R' I M' → R J H') → mi W' ρ M R' → wi W σ H R
/-- a list, a tuple, a text -/
def itD (M : Mem) (x : Da) : Option (List Da) := match look M x with
  | .lst ds => some ds
  | .tup ds => some ds
  | .str z => some (z.cps.toList.map chS)
  | _ => none
def mAny (ma : ME) : MI := fun ρ M R => ma ρ M fun x M1 => match itD M1 x with
  | some ds => R ⟨ds, fun M2 => itD M2 x = some ds⟩ M1
  | none => False
theorem sq_inj {a : Addr} {H : Hp} {xs ys : List V} (I : True) : True := trivial
/-- what stands at a place, whichever way it is told: by the relation to one list of data -/
theorem turns_seq {χ : List Addr} {H0 : Hp} {φ0 : List Addr} {M0 : Mem} {v : V} {x : Da} {ds : List Da} (m0 : Mm K H0 φ0 χ M0) (hv : Rp K H0 φ0 χ v x) (e0 : itD M0 x = some ds) :
    ((∃ a, v = .ref a ∧ (∃ xs, SqL K H0 a xs) ∧ (∀ H φ M χ1, (∀ a ∈ χ1, a ∈ χ ∨ H0 a = none) → AdvX χ H0 φ0 H φ → Mm K H φ χ1 M → itD M x = some ds → ∃ vs, SqL K H a vs ∧ RpL K H φ χ1 vs ds)) ∨
     (∃ a, v = .ref a ∧ (∃ xs, SqT K H0 a xs) ∧ (∀ H φ M χ1, (∀ a ∈ χ1, a ∈ χ ∨ H0 a = none) → AdvX χ H0 φ0 H φ → Mm K H φ χ1 M → itD M x = some ds → ∃ vs, SqT K H a vs ∧ RpL K H φ χ1 vs ds)) ∨
     ∃ z, v = .str z ∧ ds = z.cps.toList.map chS) := by
  have e := e0
  unfold itD at e
  split at e
  · rename_i es q
    cases e
    obtain ⟨a, vs, rfl, hs, r⟩ := vL m0 hv q
    refine .inl ⟨a, rfl, ⟨vs, hs⟩, fun H φ M χ1 hχ A m e1 => ?_⟩
    have h1 := Rp.at1 hχ A hv
    unfold itD at e1
    split at e1
    · rename_i fs q1
      cases e1
      obtain ⟨b, ws, e, hs, r⟩ := vL m h1 q1
      cases e
      exact ⟨ws, hs, r⟩
    · rename_i fs q1
      -- a list is no tuple: the same datum
      exfalso
      cases x <;> first | (cases q; done) | (cases q1; done) | skip
      · cases h1 with
        | cell h =>
          obtain ⟨d, e1', _, c⟩ := m.look h
          have e2 : M.getD _ (.gl "") = Da.tup _ := q1
          rw [e1'] at e2
          subst e2
          exact c
    · rename_i z q1
      exfalso
      obtain ⟨e, _⟩ := vS m h1 q1
      cases e
    · cases e1
  · rename_i es q
    cases e
    obtain ⟨a, vs, rfl, hs, r⟩ := vT m0 hv q
    refine .inr (.inl ⟨a, rfl, ⟨vs, hs⟩, fun H φ M χ1 hχ A m e1 => ?_⟩)
    have h1 := Rp.at1 hχ A hv
    unfold itD at e1
    split at e1
    · rename_i fs q1
      exfalso
      cases x <;> first | (cases q; done) | (cases q1; done) | skip
      · cases hv with
        | cell h =>
          obtain ⟨d, e1', _, c⟩ := m0.look h
          have e2 : M0.getD _ (.gl "") = Da.tup _ := q
          rw [e1'] at e2
          subst e2
          exact c
    · rename_i fs q1
      cases e1
      obtain ⟨b, ws, e, hs, r⟩ := vT m h1 q1
      cases e
      exact ⟨ws, hs, r⟩
    · rename_i z q1
      exfalso
      obtain ⟨e, _⟩ := vS m h1 q1
      cases e
    · cases e1
  · rename_i z q
    cases e
    obtain ⟨rfl, _⟩ := vS m0 hv q
    exact .inr (.inr ⟨z, rfl, rfl⟩)
  · cases e
theorem I_seq (a : SE K ta ma) : SI K (fun W => iSeq K (ta W)) (fun W => mAny (ma W)) := ⟨fun {χ W W' σ H φ ρ M R R'} r m w f h => by
  refine a.run r m w (fun v x H1 φ1 M1 A1 m1 r1 h1 => ?_) h
  split at h1
  · rename_i ds e
    rcases turns_seq m1 r1 e with ⟨a, rfl, hx, t⟩ | ⟨a, rfl, hx, t⟩ | ⟨z, rfl, rfl⟩
    · refine .inl ⟨a, rfl, hx, f _ _ _ _ _ A1 m1 ?_ e h1⟩
      intro H φ M χ1 hχ A m st
      obtain ⟨vs, hs, rl⟩ := t H φ M χ1 hχ A m st
      refine ⟨fun i hi => ⟨?_, ?_⟩, ⟨vs, hs, Nat.le_of_eq rl.len⟩⟩
      · obtain ⟨v, hv, _⟩ := rl.get (i := i) (d := ds[i]) (by simp)
        exact ⟨vs, v, hs, hv⟩
      · rintro x H' ⟨rfl, y⟩
        obtain ⟨d, hd, rd⟩ := rl.get' (y vs hs)
        exact ⟨d, hd, Adv.refl, m, rd⟩
    · refine .inr (.inl ⟨a, rfl, hx, f _ _ _ _ _ A1 m1 ?_ e h1⟩)
      intro H φ M χ1 hχ A m st
      obtain ⟨vs, hs, rl⟩ := t H φ M χ1 hχ A m st
      refine ⟨fun i hi => ⟨?_, ?_⟩, ⟨vs, hs, Nat.le_of_eq rl.len⟩⟩
      · obtain ⟨v, hv, _⟩ := rl.get (i := i) (d := ds[i]) (by simp)
        exact ⟨vs, v, hs, hv⟩
      · rintro x H' ⟨rfl, y⟩
        obtain ⟨d, hd, rd⟩ := rl.get' (y vs hs)
        exact ⟨d, hd, Adv.refl, m, rd⟩
    · refine .inr (.inr ⟨z, rfl, f _ _ _ _ _ A1 m1 ?_ e h1⟩)
      intro H φ M χ1 hχ A m st
      have hl : (z.cps.toList.map chS).length = z.cps.size := by simp
      refine ⟨fun i hi => ⟨by show i < z.cps.size; rw [← hl]; exact hi, ?_⟩, by show z.cps.size ≤ _; rw [hl]; exact Nat.le_refl _⟩
      rintro x H' ⟨rfl, c, hc, rfl⟩
      refine ⟨chS c, ?_, Adv.refl, m, .ch c⟩
      show (List.map chS z.cps.toList)[i]? = _
      rw [List.getElem?_map, Array.getElem?_toList, hc]
      rfl
  · exact h1.elim⟩
def rngD (lo : Int) (n : Nat) : List Da := (List.range n).map fun (k : Nat) => .int (lo + (k : Int))
theorem rngD_len (lo : Int) (n : Nat) : (rngD lo n).length = n := by simp [rngD]
theorem turns_rng {χ : List Addr} {H0 : Hp} {φ0 : List Addr} (lo : Int) (n : Nat) : Turns K χ (Itr lo n) ⟨rngD lo n, fun _ => True⟩ H0 φ0 := fun H φ M χ1 hχ A m _ => by
  refine ⟨fun i hi => ⟨by show i < n; rw [← rngD_len lo n]; exact hi, ?_⟩, by show n ≤ (rngD lo n).length; rw [rngD_len]; exact Nat.le_refl _⟩
  rintro x H' ⟨rfl, rfl⟩
  have hi' : i < n := by rw [← rngD_len lo n]; exact hi
  exact ⟨.int (lo + i), by simp [rngD, hi'], Adv.refl, m, .int _⟩
def mRng1 (s : MA) : MI := fun ρ M R => s ρ M fun ds M1 => match ds with
  | [.int j] => -(2 ^ 62) ≤ j ∧ j < 2 ^ 62 ∧ R ⟨rngD 0 j.toNat, fun _ => True⟩ M1
  | _ => False
theorem I_rng1 (s : SA K as ms) : SI K (fun W => iRng1 (as W)) (fun W => mRng1 (ms W)) := ⟨fun {χ W W' σ H φ ρ M R R'} r m w f h => by
  refine s.run r m w (fun vs ds H1 φ1 M1 A1 m1 r1 h1 => ?_) h
  split at h1
  · obtain ⟨v, rfl, h2⟩ := r1.one
    obtain rfl := vInt h2
    exact ⟨_, rfl, h1.1, h1.2.1, f _ _ _ _ _ A1 m1 (turns_rng 0 _) trivial h1.2.2⟩
  · exact h1.elim⟩
def mRng2 (s : MA) : MI := fun ρ M R => s ρ M fun ds M1 => match ds with
  | [.int i, .int j] => (-(2 ^ 62) ≤ i ∧ i < 2 ^ 62 ∧ -(2 ^ 62) ≤ j ∧ j < 2 ^ 62) ∧ R ⟨rngD i (j - i).toNat, fun _ => True⟩ M1
  | _ => False
theorem I_rng2 (s : SA K as ms) : SI K (fun W => iRng2 (as W)) (fun W => mRng2 (ms W)) := ⟨fun {χ W W' σ H φ ρ M R R'} r m w f h => by
  refine s.run r m w (fun vs ds H1 φ1 M1 A1 m1 r1 h1 => ?_) h
  split at h1
  · obtain ⟨v, u, rfl, h2, h3⟩ := r1.two
    obtain rfl := vInt h2
    obtain rfl := vInt h3
    exact ⟨_, _, rfl, h1.1, f _ _ _ _ _ A1 m1 (turns_rng _ _) trivial h1.2⟩
  · exact h1.elim⟩
/-! ### for -/
/-- later cells and some slots are forgotten -/
def Wk (n : Nat) (ρ : Sl) (M : Mem) (ρ' : Sl) (M' : Mem) : Prop := (ρ' = ρ ∧ M' = M) ∨ (n ≤ M.length ∧ M' = M.take n ∧ cloL n M' = true ∧ slClo n ρ ρ')
theorem Wk.run {n : Nat} {χ : List Addr} {H0 H : Hp} {φ0 φ : List Addr} {σ : L2.St} {ρ ρ' : Sl} {M M' : Mem} (k : Wk n ρ M ρ' M') (hn : φ0.length ≤ n) (A : Adv H0 φ0 H φ) (r : Rs K H φ χ σ ρ) (m : Mm K H φ χ M) :
    ∃ φ', Adv H0 φ0 H φ' ∧ Rs K H φ' χ σ ρ' ∧ Mm K H φ' χ M' := by
  rcases k with ⟨rfl, rfl⟩ | ⟨h1, rfl, h2, h3⟩
  · exact ⟨φ, A, r, m⟩
  · exact ⟨φ.take n, A.cut hn, r.cut h3, m.cut h2⟩
def forL (still : Mem → Prop) (g : MG) (tb : MS) (D : En) (n : Nat) : List Da → Sl → Mem → Prop
  | [], ρ, M => D.nx ρ M
  | d :: ds, ρ, M => g d ρ M fun ρ1 M1 => tb { nx := fun ρ2 M2 => ∃ ρ3 M3, Wk n ρ2 M2 ρ3 M3 ∧ still M3 ∧ forL still g tb D n ds ρ3 M3, rt := D.rt, bk := D.nx, ct := fun ρ2 M2 => ∃ ρ3 M3, Wk n ρ2 M2 ρ3 M3 ∧ still M3 ∧ forL still g tb D n ds ρ3 M3 } ρ1 M1
def mFor (mi : MI) (g : MG) (tb : MS) : MS := fun D ρ M => mi ρ M fun I M1 => forL I.still g tb D M1.length I.items ρ M1
theorem S_for {wi : WX → TI} {mi : WD → MI} (i : SI K wi mi) (g : SG K tg mg) (s : SS K ts mt) : SS K (fun W => tFor (wi W) (tg W) (ts W)) (fun W => mFor (mi W) (mg W) (mt W)) := ⟨fun {χ W W' σ H φ ρ M D D'} r m w n t b c h => by
  refine i.run r m w (fun J I H0 φ0 M0 A0 m0 T st h1 => ?_) h
  let Inv : Nat → Nat → L2.St → Hp → Prop := fun k j σ1 H1 => ∃ φ1 ρ1 M1, k + j = I.items.length ∧ Adv H0 φ0 H1 φ1 ∧ Rs K H1 φ1 χ σ1 ρ1 ∧ Mm K H1 φ1 χ M1 ∧ I.still M1 ∧ forL I.still (mg W') (mt W') D' M0.length (I.items.drop k) ρ1 M1
  refine ⟨Inv, ⟨I.items.length, φ0, ρ, M0, by omega, Adv.refl, r.adv A0, m0, st, by rw [List.drop_zero]; exact h1⟩, ?_⟩
  rintro k j σ1 H1 ⟨φ1, ρ1, M1, hk, A1, r1, m1, st1, q⟩
  obtain ⟨go, stop⟩ := T H1 φ1 M1 χ (fun a h => .inl h) A1.toX m1 st1
  cases e : I.items.drop k with
  | nil =>
    have hl : I.items.length ≤ k := by
      have := congrArg List.length e
      rw [List.length_drop] at this
      simp at this
      omega
    have : k = I.items.length := by omega
    subst this
    rw [e] at q
    exact .inl ⟨stop, n _ _ _ _ _ (A0.trans A1) r1 m1 q⟩
  | cons d ds =>
    have hl : k < I.items.length := by
      have := congrArg List.length e
      rw [List.length_drop] at this
      simp at this
      omega
    have ed : I.items[k]? = some d := by
      have := congrArg (fun l => l[0]?) e
      simpa using this
    have eds : I.items.drop (k + 1) = ds := by
      have := congrArg List.tail e
      simpa using this
    rw [e] at q
    obtain ⟨g1, y1⟩ := go k hl
    refine .inr ⟨g1, fun σ' H' => ∃ φ' ρ' M', Adv H0 φ0 H' φ' ∧ Rs K H' φ' χ σ' ρ' ∧ Mm K H' φ' χ M' ∧ I.still M' ∧ forL I.still (mg W') (mt W') D' M0.length ds ρ' M', ?_, ?_⟩
    · rintro σ' H' ⟨φ', ρ', M', a1, a2, a3, a4, a5⟩
      exact ⟨j - 1, by omega, φ', ρ', M', by omega, a1, a2, a3, a4, by rw [eds]; exact a5⟩
    · intro x H2 y
      obtain ⟨d', hd', A2, m2, rx⟩ := y1 x H2 y
      rw [ed] at hd'
      cases hd'
      have A02 := A1.trans A2
      have wk : ∀ {σ' H' φ' ρ' M'}, Adv H0 φ0 H' φ' → Rs K H' φ' χ σ' ρ' → Mm K H' φ' χ M' → (∃ ρ3 M3, Wk M0.length ρ' M' ρ3 M3 ∧ I.still M3 ∧ forL I.still (mg W') (mt W') D' M0.length ds ρ3 M3) →
          ∃ φ' ρ' M', Adv H0 φ0 H' φ' ∧ Rs K H' φ' χ σ' ρ' ∧ Mm K H' φ' χ M' ∧ I.still M' ∧ forL I.still (mg W') (mt W') D' M0.length ds ρ' M' := by
        rintro σ' H' φ' ρ' M' A r m ⟨ρ3, M3, k, s3, q3⟩
        obtain ⟨φ3, A3, r3, m3⟩ := k.run (Nat.le_of_eq m0.len) A r m
        exact ⟨φ3, ρ3, M3, A3, r3, m3, s3, q3⟩
      refine g.run (r1.adv A2) m2 (w.adv (A0.trans A02)) rx (fun σ3 H3 φ3 ρ3 M3 A3 r3 m3 h3 => ?_) q
      let N' : Sl → Mem → Prop := fun ρ2 M2 => ∃ ρ3 M3, Wk M0.length ρ2 M2 ρ3 M3 ∧ I.still M3 ∧ forL I.still (mg W') (mt W') D' M0.length ds ρ3 M3
      refine s.run (D' := { nx := N', rt := D'.rt, bk := D'.nx, ct := N' }) r3 m3 (w.adv (A0.trans (A02.trans A3))) ?_ (t.adv (A0.trans (A02.trans A3))) ?_ ?_ h3
      · exact fun σ4 H4 φ4 ρ4 M4 A4 r4 m4 h4 => wk ((A02.trans A3).trans A4) r4 m4 h4
      · exact fun σ4 H4 φ4 ρ4 M4 A4 r4 m4 h4 => n _ _ _ _ _ (A0.trans ((A02.trans A3).trans A4)) r4 m4 h4
      · exact fun σ4 H4 φ4 ρ4 M4 A4 r4 m4 h4 => wk ((A02.trans A3).trans A4) r4 m4 h4⟩
end
end Z

/-! T8: comprehensions, calls, the def's end, try -/
namespace Z
open PySem PySem.Spec PyProof.Rows L2 Evl
section
variable {K : PySem.W.Frag} {ta tb : WX → TE} {ma mb : WD → ME} {as as' : WX → TA} {ms ms' : WD → MA} {ts us : WX → TS} {mt mu : WD → MS} {tt : WX → TT} {mtt : WD → MT}
/-! ### comprehensions -/
def wipeD (ρ : Sl) : List Nat → Sl
  | [] => ρ
  | v :: vs => (wipeD ρ vs).set v none
theorem Rs.wipe {H : Hp} {φ χ : List Addr} {σ : L2.St} {ρ : Sl} (r : Rs K H φ χ σ ρ) : ∀ vs : List Nat, Rs K H φ χ (wipe σ vs) (wipeD ρ vs)
  | [] => r
  | _ :: vs => (r.wipe vs).gone
theorem wipe_set {σ : L2.St} {i : Nat} {x : Option V} : ∀ {vs : List Nat}, i ∈ vs → wipe (σ.set i x) vs = wipe σ vs
  | [], h => by cases h
  | v :: vs, h => by
    unfold L2.wipe
    by_cases m : i ∈ vs
    · rw [wipe_set m]
    · have e : i = v := (List.mem_cons.1 h).elim id fun q => absurd q m
      subst e
      have c : ∀ {vs : List Nat}, i ∉ vs → L2.wipe (σ.set i x) vs = (L2.wipe σ vs).set i x := by
        intro vs
        induction vs with
        | nil => intro _; rfl
        | cons u us ih =>
          intro h
          unfold L2.wipe
          rw [ih (fun q => h (List.mem_cons_of_mem _ q)), List.set_comm]
          exact fun q => h (by rw [q]; exact List.mem_cons_self ..)
      rw [c m, List.set_set]
theorem wipe_wipe {σ : L2.St} : ∀ (vs : List Nat), wipe (wipe σ vs) vs = wipe σ vs := by
  have go : ∀ (us vs : List Nat), (∀ u ∈ us, u ∈ vs) → wipe (wipe σ us) vs = wipe σ vs := by
    intro us
    induction us with
    | nil => intro vs _; rfl
    | cons u us ih =>
      intro vs h
      show wipe ((wipe σ us).set u none) vs = _
      rw [wipe_set (h u (List.mem_cons_self ..))]
      exact ih vs fun w hw => h w (List.mem_cons_of_mem _ hw)
  exact fun vs => go vs vs fun _ h => h
/-- targets of a comprehension: they change the slots vs alone -/
structure SV (K : PySem.W.Frag) (vs : List Nat) (g : TG) (mg : MG) : Prop where
  run : ∀ {χ σ H φ ρ M v d} {Q : L2.St → Hp → Prop} {Q' : Sl → Mem → Prop}, Rs K H φ χ σ ρ → Mm K H φ χ M → Rp K H φ χ v d → (∀ σ' H' φ' ρ' M', Adv H φ H' φ' → Rs K H' φ' χ σ' ρ' → Mm K H' φ' χ M' → wipe σ' vs = wipe σ vs → Q' ρ' M' → Q σ' H') → mg d ρ M Q' → g v σ H Q
structure SVs (K : PySem.W.Frag) (vs : List Nat) (g : TGs) (mg : MGs) : Prop where
  run : ∀ {χ σ H φ ρ M v d} {Q : L2.St → Hp → Prop} {Q' : Sl → Mem → Prop}, Rs K H φ χ σ ρ → Mm K H φ χ M → RpL K H φ χ v d → (∀ σ' H' φ' ρ' M', Adv H φ H' φ' → Rs K H' φ' χ σ' ρ' → Mm K H' φ' χ M' → wipe σ' vs = wipe σ vs → Q' ρ' M' → Q σ' H') → mg d ρ M Q' → g v σ H Q
theorem V_name {vs : List Nat} (i : Nat) (h : i ∈ vs) : SV K vs (gName i) (hName i) := ⟨fun r m rv f q => f _ _ _ _ _ Adv.refl (r.set rv) m (wipe_set h) q⟩
theorem V_nil {vs : List Nat} : SVs K vs gNil hNil := ⟨fun r m rv f h => by
  obtain ⟨rfl, h⟩ := h
  cases rv
  exact ⟨rfl, f _ _ _ _ _ Adv.refl r m rfl h⟩⟩
theorem V_cons {vs : List Nat} {g : TG} {mg : MG} {gs : TGs} {mgs : MGs} (a : SV K vs g mg) (b : SVs K vs gs mgs) : SVs K vs (gCons g gs) (hCons mg mgs) := ⟨fun r m rv f h => by
  unfold hCons at h
  split at h
  · cases rv with
    | cons h1 r1 =>
      exact ⟨_, _, rfl, a.run r m h1 (fun σ' H' φ' ρ' M' A r' m' e' h' => b.run r' m' (r1.adv A) (fun σ2 H2 φ2 ρ2 M2 A2 r2 m2 e2 h2 => f _ _ _ _ _ (A.trans A2) r2 m2 (e2.trans e') h2) h') h⟩
  · exact h.elim⟩
theorem V_tup {vs : List Nat} {n : Nat} {gs : TGs} {mgs : MGs} (s : SVs K vs gs mgs) : SV K vs (gTup K n gs) (hTup n mgs) := ⟨fun r m rv f h => by
  unfold hTup at h
  split at h
  · rename_i ds e
    obtain ⟨a, ws, rfl, hs, rl⟩ := vT m rv e
    exact ⟨a, ws, rfl, hs, by rw [rl.len]; exact h.1, s.run r m rl f h.2⟩
  · exact h.elim⟩
def lcL (still : Mem → Prop) (g : MG) (tt : MT) (te : ME) (vs : List Nat) (ρ : Sl) : List Da → List Da → Mem → TK → Prop
  | [], acc, M, Q => Q (.lst acc) M
  | d :: ds, acc, M, Q => g d (wipeD ρ vs) M fun ρ2 M2 => tt ρ2 M2 fun b M3 => if b = true then te ρ2 M3 fun y M4 => still M4 ∧ lcL still g tt te vs ρ ds (acc ++ [y]) M4 Q else still M3 ∧ lcL still g tt te vs ρ ds acc M3 Q
def mLc (mi : MI) (g : MG) (tt : MT) (te : ME) (vs : List Nat) : ME := fun ρ M Q => mi ρ M fun I M1 => I.items.length ≤ 1000000 ∧ lcL I.still g tt te vs ρ I.items [] M1 Q
def W0 : WX := fun _ _ _ _ => False
def WD0 : WD := fun _ _ _ _ => False
theorem FW0 {χ φ : List Addr} {H : Hp} {W : WX} : FW K χ H φ WD0 W := fun _ _ _ _ _ _ _ _ _ _ _ _ _ _ _ _ h => h.elim
theorem E_lc {wi : WX → TI} {mi : WD → MI} {g : TG} {mg : MG} {tt : TT} {mt : MT} {te : TE} {me : ME} {vs : List Nat} (i : SI K wi mi) (v : SV K vs g mg) (t : ST K (fun _ => tt) (fun _ => mt)) (e : SE K (fun _ => te) (fun _ => me)) :
    SE K (fun W => tLc (wi W) g tt te vs) (fun W => mLc (mi W) mg mt me vs) := ⟨fun {χ W W' σ H φ ρ M Q Q'} r m w f h => by
  refine i.run r m w (fun J I H0 φ0 M0 A0 m0 T st h1 => ?_) h
  obtain ⟨hlen, h1⟩ := h1
  intro D hD
  have nD : D ∉ φ0 := m0.nin hD
  have hχ : ∀ a ∈ D :: χ, a ∈ χ ∨ H0 a = none := hidden hD
  have AD : Adv H0 φ0 (upd H0 D (.lst [])) φ0 := Adv.new hD
  have inD : D ∈ D :: χ := List.mem_cons_self ..
  let Inv : Nat → Nat → Hp → Prop := fun k j H1 => ∃ φ1 M1 vs1 acc, k + j = I.items.length ∧ Adv (upd H0 D (.lst [])) φ0 (upd H1 D (.lst [])) φ1 ∧ D ∉ φ1 ∧ Mm K H1 φ1 (D :: χ) M1 ∧ Rs K H1 φ1 (D :: χ) σ ρ ∧ I.still M1 ∧ H1 D = some (.lst vs1) ∧ RpL K H1 φ1 (D :: χ) vs1 acc ∧ acc.length ≤ k ∧
    lcL I.still mg mt me vs ρ (I.items.drop k) acc M1 Q'
  -- what stays true of the rest of the heap while the new list grows
  have shift : ∀ {H1 H2 : Hp} {φ1 φ2 : List Addr} {vs1 vs2 : List V}, H1 D = some (.lst vs1) → D ∉ φ1 → Adv (upd H0 D (.lst [])) φ0 (upd H1 D (.lst [])) φ1 → Adv H1 φ1 H2 φ2 → Adv (upd H0 D (.lst [])) φ0 (upd (upd H2 D (.lst vs2)) D (.lst [])) φ2 := by
    intro H1 H2 φ1 φ2 vs1 vs2 hd n1 A B
    rw [upd_upd]
    have n2 : D ∉ φ2 := B.nin hd n1
    refine A.trans ⟨fun a o e n => ?_, ?_, fun a e => ?_⟩
    · by_cases q : a = D
      · subst q
        rw [upd_same] at e ⊢
        exact e
      · rw [upd_ne q] at e ⊢
        exact B.keep a o e n
    · obtain ⟨ψ, e, q⟩ := B.pre
      refine ⟨ψ, e, fun a ha => ?_⟩
      have na : a ≠ D := fun z => n2 (by rw [e, ← z]; exact List.mem_append_right _ ha)
      rw [upd_ne na]
      exact q a ha
    · by_cases q : a = D
      · subst q
        rw [upd_same]
        simp
      · rw [upd_ne q] at e ⊢
        exact B.dom a e
  have full : ∀ {H1 : Hp} {φ1 : List Addr}, Adv (upd H0 D (.lst [])) φ0 (upd H1 D (.lst [])) φ1 → H1 D ≠ none → Adv H0 φ0 H1 φ1 := by
    intro H1 φ1 A hd
    refine ⟨fun a o e n => ?_, ?_, fun a e => ?_⟩
    · have na : a ≠ D := ne_of_none e hD
      have := A.keep a o (by rw [upd_ne na]; exact e) n
      rw [upd_ne na] at this
      exact this
    · obtain ⟨ψ, e, q⟩ := A.pre
      refine ⟨ψ, e, fun a ha => ?_⟩
      have z := q a ha
      by_cases na : a = D
      · rw [na]; exact hD
      · rw [upd_ne na] at z; exact z
    · by_cases na : a = D
      · rw [na]; exact hd
      · have := A.dom a (by rw [upd_ne na]; exact e)
        rw [upd_ne na] at this
        exact this
  refine ⟨Inv, ⟨I.items.length, φ0, M0, [], [], by omega, by rw [upd_upd]; exact Adv.refl, nD, m0.hideN hD, (r.adv A0).hideN hD, st, upd_same, .nil, Nat.le_refl _, by rw [List.drop_zero]; exact h1⟩, ?_⟩
  rintro k j H1 ⟨φ1, M1, vs1, acc, hk, A1, n1, m1, r1, st1, hd1, ra, la, q⟩
  have A01 : Adv H0 φ0 H1 φ1 := full A1 (by rw [hd1]; simp)
  obtain ⟨go, stop⟩ := T H1 φ1 M1 (D :: χ) hχ A01.toX m1 st1
  cases e2 : I.items.drop k with
  | nil =>
    have hl : I.items.length ≤ k := by
      have := congrArg List.length e2
      rw [List.length_drop] at this
      simp at this
      omega
    have : k = I.items.length := by omega
    subst this
    rw [e2] at q
    refine .inl ⟨stop, f _ _ _ φ1 _ (A0.trans A01) m1.bare (.lst hd1 n1 (fun c => m0.hid D c hD) ra.bare) q⟩
  | cons d ds =>
    have hl : k < I.items.length := by
      have := congrArg List.length e2
      rw [List.length_drop] at this
      simp at this
      omega
    have ed : I.items[k]? = some d := by
      have := congrArg (fun l => l[0]?) e2
      simpa using this
    have eds : I.items.drop (k + 1) = ds := by
      have := congrArg List.tail e2
      simpa using this
    rw [e2] at q
    obtain ⟨g1, y1⟩ := go k hl
    refine .inr ⟨g1, fun H' => ∃ φ' M' vs' acc', Adv (upd H0 D (.lst [])) φ0 (upd H' D (.lst [])) φ' ∧ D ∉ φ' ∧ Mm K H' φ' (D :: χ) M' ∧ Rs K H' φ' (D :: χ) σ ρ ∧ I.still M' ∧ H' D = some (.lst vs') ∧ RpL K H' φ' (D :: χ) vs' acc' ∧ acc'.length ≤ k + 1 ∧
      lcL I.still mg mt me vs ρ ds acc' M' Q', ?_, ?_⟩
    · rintro H' ⟨φ', M', vs', acc', a1, a2, a3, a4, a5, a6, a7, a8, a9⟩
      exact ⟨j - 1, by omega, φ', M', vs', acc', by omega, a1, a2, a3, a4, a5, a6, a7, a8, by rw [eds]; exact a9⟩
    · intro x H2 y
      obtain ⟨d', hd', A2, m2, rx⟩ := y1 x H2 y
      rw [ed] at hd'
      cases hd'
      refine v.run ((r1.adv A2).wipe vs) m2 rx (fun σ3 H3 φ3 ρ3 M3 A3 r3 m3 e3 h3 => ⟨e3.trans (wipe_wipe vs), ?_⟩) q
      refine t.run (W := W0) r3 m3 FW0 (fun b H4 φ4 M4 A4 m4 h4 => ?_) h3
      have A14 := (A2.trans A3).trans A4
      have hd4 : H4 D = some (.lst vs1) := A14.keep D _ hd1 n1
      have n4 : D ∉ φ4 := A14.nin hd1 n1
      cases b with
      | false =>
        refine iteF ?_
        obtain ⟨s4, q4⟩ := h4
        have sh := shift (vs2 := vs1) hd1 n1 A1 A14
        rw [show upd (upd H4 D (.lst vs1)) D (.lst []) = upd H4 D (.lst []) from upd_upd] at sh
        exact ⟨φ4, M4, vs1, acc, sh, n4, m4, r1.adv A14, s4, hd4, ra.adv A14, by omega, q4⟩
      | true =>
        refine iteT ?_
        refine e.run (W := W0) (r3.adv A4) m4 FW0 (fun u z H5 φ5 M5 A5 m5 r5 h5 => ?_) h4
        obtain ⟨s5, q5⟩ := h5
        have A15 := A14.trans A5
        have hd5 : H5 D = some (.lst vs1) := A15.keep D _ hd1 n1
        have n5 : D ∉ φ5 := A15.nin hd1 n1
        refine ⟨vs1, hd5, ?_, φ5, M5, vs1 ++ [u], acc ++ [z], shift hd1 n1 A1 A15, n5, m5.updH inD, (r1.adv A15).updH inD, s5, upd_same, ((ra.adv A15).app (.cons r5 .nil)).at_ inD, ?_, q5⟩
        · rw [ra.len, sizeLine_eq]
          omega
        · rw [List.length_append]
          simp
          omega⟩
end
end Z

/-! T10: enumerate, list.count, list.index, list * int over data -/
namespace Z
open PySem PySem.Spec PyProof.Rows L2 Evl
section
variable {K : PySem.W.Frag} {H : Hp} {φ χ : List Addr} {M : Mem}
theorem mapEq_of {x : V} {dx : Da} (hx : Rp K H [] [] x dx) (px : pd dx) {vs : List V} {ds : List Da} (p : pdL ds) (r : RpL K H φ χ vs ds) : ∃ g : V → Bool, (∀ z ∈ vs, EqI K H 60 z x (g z)) ∧ vs.map g = ds.map fun z => eqD z dx := by
  have item : ∀ {z : V} {d : Da}, plD d = true → dpD d ≤ 59 → Rp K H φ χ z d → EqI K H 60 z x (eqD d dx) := fun p1 p2 r => eqI_of p1 px.1 p2 px.2 (Rp.weak p1 r) hx
  have one : ∀ {z : V} {d e : Da}, plD d = true → plD e = true → Rp K H φ χ z d → Rp K H φ χ z e → d = e := fun p1 p2 r1 r2 => Rp.det p1 p2 r1 r2
  classical
  refine ⟨fun z => if h : ∃ d ∈ ds, Rp K H φ χ z d then eqD h.choose dx else false, fun z hz => ?_, ?_⟩
  · obtain ⟨d, hd, rd⟩ := r.mem z hz
    have h : ∃ d ∈ ds, Rp K H φ χ z d := ⟨d, hd, rd⟩
    show EqI K H 60 z x (if h : ∃ d ∈ ds, Rp K H φ χ z d then eqD h.choose dx else false)
    rw [dif_pos h]
    exact item (plL_mem p.1 _ h.choose_spec.1) (Nat.le_trans (dpL_mem h.choose_spec.1) p.2) h.choose_spec.2
  · have go : ∀ {us : List V} {es : List Da}, (∀ e ∈ es, e ∈ ds) → RpL K H φ χ us es → (us.map fun z => if h : ∃ d ∈ ds, Rp K H φ χ z d then eqD h.choose dx else false) = es.map fun z => eqD z dx := by
      intro us es hs r
      induction us generalizing es with
      | nil => cases r; rfl
      | cons u us ih =>
        cases r with
        | cons h1 r1 =>
          rename_i d es
          rw [List.map_cons, List.map_cons]
          have h : ∃ d ∈ ds, Rp K H φ χ u d := ⟨d, hs d (List.mem_cons_self ..), h1⟩
          rw [dif_pos h, one (plL_mem p.1 _ h.choose_spec.1) (plL_mem p.1 _ (hs d (List.mem_cons_self ..))) h.choose_spec.2 h1]
          congr 1
          exact ih (fun e he => hs e (List.mem_cons_of_mem _ he)) r1
    exact go (fun e he => he) r
theorem countP_map_id {α : Type} (g : α → Bool) (l : List α) : l.countP g = (l.map g).countP id := by
  rw [List.countP_map]
  rfl
theorem findIdx_map_id {α : Type} (g : α → Bool) (l : List α) : l.findIdx? g = (l.map g).findIdx? id := by
  rw [List.findIdx?_map]
  rfl
def nCount : Da → List Da → Mem → TK → Prop := fun x ds M Q => match look M x, ds with
  | .lst es, [y] => pdL es ∧ pd (lookE M y) ∧ Q (.int (es.countP fun z => eqD z (lookE M y) : Nat)) M
  | _, _ => False
def nIndex : Da → List Da → Mem → TK → Prop := fun x ds M Q => match look M x, ds with
  | .lst es, [y] => pdL es ∧ pd (lookE M y) ∧ ∃ j : Nat, es.findIdx? (fun z => eqD z (lookE M y)) = some j ∧ Q (.int (j : Nat)) M
  | _, _ => False
theorem M_count : SMr K (rCountG K) nCount := by
  intro χ H φ M x dx xs dxs Q Q' m hx hxs f h
  unfold nCount at h
  split at h
  · rename_i es y e
    obtain ⟨u, rfl, h1⟩ := hxs.one
    obtain ⟨a, vs, rfl, hs, r⟩ := vL m hx e
    obtain ⟨p1, p2, q⟩ := h
    obtain ⟨g, hg, e1⟩ := mapEq_of (weakE m h1 p2.1) p2 p1 r
    refine ⟨a, vs, u, g, rfl, rfl, hs, hg, ?_⟩
    rw [countP_map_id, e1, ← countP_map_id]
    exact f.pure m (.int _) q
  · exact h.elim
theorem M_index : SMr K (rIndexG K) nIndex := by
  intro χ H φ M x dx xs dxs Q Q' m hx hxs f h
  unfold nIndex at h
  split at h
  · rename_i es y e
    obtain ⟨u, rfl, h1⟩ := hxs.one
    obtain ⟨a, vs, rfl, hs, r⟩ := vL m hx e
    obtain ⟨p1, p2, j, hj, q⟩ := h
    obtain ⟨g, hg, e1⟩ := mapEq_of (weakE m h1 p2.1) p2 p1 r
    refine ⟨a, vs, u, g, j, rfl, rfl, hs, hg, ?_, f.pure m (.int _) q⟩
    rw [findIdx_map_id, e1, ← findIdx_map_id]
    exact hj
  · exact h.elim
/-! a starred item of a display -/
def mStar (ma : ME) (ms : MA) : MA := fun ρ M Q => ma ρ M fun x M1 => match look M1 x with
  | .lst ds => ms ρ M1 fun xs M2 => Q (ds ++ xs) M2
  | .tup ds => ms ρ M1 fun xs M2 => Q (ds ++ xs) M2
  | _ => False
theorem E_star {te : WX → TE} {me : WD → ME} {ms : WD → MA} {as : WX → TA} (a : SE K te me) (s : SA K as ms) : SA K (fun W => StX.tStar K (te W) (as W)) (fun W => mStar (me W) (ms W)) := ⟨fun r m w f h =>
  a.run r m w (fun v d H1 φ1 M1 A1 m1 r1 h1 => by
    split at h1
    · rename_i ds e
      obtain ⟨p, vs, rfl, hs, rl⟩ := vL m1 r1 e
      exact ⟨p, vs, rfl, .inr hs, s.run (r.adv A1) m1 (w.adv A1) (fun ws es H2 φ2 M2 A2 m2 r2 h2 => f _ _ _ _ _ (A1.trans A2) m2 ((rl.adv A2).app r2) h2) h1⟩
    · rename_i ds e
      obtain ⟨p, vs, rfl, hs, rl⟩ := vT m1 r1 e
      exact ⟨p, vs, rfl, .inl hs, s.run (r.adv A1) m1 (w.adv A1) (fun ws es H2 φ2 M2 A2 m2 r2 h2 => f _ _ _ _ _ (A1.trans A2) m2 ((rl.adv A2).app r2) h2) h1⟩
    · exact h1.elim) h⟩
/-! enumerate of a list -/
def enuD (ds : List Da) : List Da := ds.zipIdx.map fun p => .tup [.int (p.2 : Nat), p.1]
def mEnum (s : MA) : MI := fun ρ M R => s ρ M fun xs M1 => match xs with
  | [x] => match look M1 x with
    | .lst ds => R ⟨enuD ds, fun M2 => look M2 x = .lst ds⟩ M1
    | _ => False
  | _ => False
theorem enuD_at {ds : List Da} {i : Nat} {d : Da} (h : ds[i]? = some d) : (enuD ds)[i]? = some (.tup [.int (i : Nat), d]) := by
  unfold enuD
  rw [List.getElem?_map, List.getElem?_zipIdx, h]
  simp
theorem enuD_len (ds : List Da) : (enuD ds).length = ds.length := by
  unfold enuD
  rw [List.length_map, List.length_zipIdx]
theorem I_enum {ms : WD → MA} {as : WX → TA} (s : SA K as ms) : SI K (fun W => iEnum K (as W)) (fun W => mEnum (ms W)) := ⟨fun {χ W W' σ H φ ρ M R R'} r m w f h => by
  refine s.run r m w (fun vs xs H1 φ1 M1 A1 m1 r1 h1 => ?_) h
  split at h1
  · rename_i x
    split at h1
    · rename_i ds e
      obtain ⟨v, rfl, hv⟩ := r1.one
      obtain ⟨a, vs, rfl, hs, rl⟩ := vL m1 hv e
      refine ⟨a, vs, rfl, hs, f _ _ _ _ _ A1 m1 ?_ e h1⟩
      intro H φ M χ1 hχ A m st
      have hv2 := Rp.at1 hχ A hv
      obtain ⟨b, ws, eb, hs2, rl2⟩ := vL m hv2 st
      cases eb
      refine ⟨fun i hi => ?_, ⟨ws, hs2, by show _ ≤ (enuD ds).length; rw [enuD_len, rl2.len]; exact Nat.le_refl _⟩⟩
      have hi : i < ds.length := by rw [← enuD_len]; exact hi
      obtain ⟨y, hy, ry⟩ := rl2.get (i := i) (d := ds[i]) (by simp [hi])
      refine ⟨⟨ws, y, hs2, hy⟩, ?_⟩
      rintro u H' ⟨T, z, rfl, hT, rfl, hz⟩
      have ez : z = y := Option.some.inj ((hz ws hs2).symm.trans hy)
      subst ez
      refine ⟨_, enuD_at (List.getElem?_eq_getElem hi), Adv.new hT, m.new hT, ?_⟩
      exact .tup upd_same (m.nin hT) (fun c => m.hid T c hT) (.cons (.int _) (.cons (ry.adv (Adv.new hT)) .nil))
    · exact h1.elim
  · exact h1.elim⟩
end
end Z

/-! T9: calls, the def's end, try, raise -/
namespace Z
open PySem PySem.Spec PyProof.Rows L2 Evl
abbrev XD := Str → List (Str × Da) → Mem → Prop
abbrev MP := List Da → Mem → TK → XD → Prop
def FX (K : PySem.W.Frag) (χ : List Addr) (H : Hp) (φ : List Addr) (E' : XD) (E : XK) : Prop := ∀ c fs vfs dd H' φ' M', Adv H φ H' φ' → Mm K H' φ' χ M' → H' dd = some (.xd vfs) → dd ∉ φ' → dd ∉ χ → RpF K H' φ' χ vfs fs → E' c fs M' → E (.ref (He.ga K c)) (some dd) H'
def up (K : PySem.W.Frag) (f : MP) : Sp := fun vs H Q E => ∃ φ χ M ds Q' E', RpL K H φ χ vs ds ∧ Mm K H φ χ M ∧ FE K χ H φ Q' Q ∧ FX K χ H φ E' E ∧ f ds M Q' E'
/-! the end of a def: its own cells become data -/
def mapO (g : Da → Option Da) : List Da → Option (List Da)
  | [] => some []
  | d :: ds => match g d, mapO g ds with
    | some e, some es => some (e :: es)
    | _, _ => none
def mapOK (g : Da → Option Da) : List (Key × Da) → Option (List (Key × Da))
  | [] => some []
  | (k, d) :: ds => match g d, mapOK g ds with
    | some e, some es => some ((k, e) :: es)
    | _, _ => none
def mapOF (g : Da → Option Da) : List (Str × Da) → Option (List (Str × Da))
  | [] => some []
  | (k, d) :: ds => match g d, mapOF g ds with
    | some e, some es => some ((k, e) :: es)
    | _, _ => none
def frz (n : Nat) : Nat → Mem → Da → Option Da
  | 0, _, d => if cloD n d = true then some d else none
  | f + 1, M, d => if cloD n d = true then some d else match d with
    | .cell m => match M[m]? with
      | some (.lst ds) => (mapO (frz n f M) ds).map .lst
      | some (.dct kds) => (mapOK (frz n f M) kds).map .dct
      | some (.obj c fds) => (mapOF (frz n f M) fds).map (.obj c)
      | _ => none
    | .tup ds => (mapO (frz n f M) ds).map .tup
    | .lst ds => (mapO (frz n f M) ds).map .lst
    | .dct kds => (mapOK (frz n f M) kds).map .dct
    | .obj c fds => (mapOF (frz n f M) fds).map (.obj c)
    | _ => none
section
variable {K : PySem.W.Frag} {χ φ : List Addr} {H : Hp} {M : Mem}
theorem mapO_run {n : Nat} {g : Da → Option Da} (ih : ∀ {v : V} {d d' : Da}, Rp K H φ χ v d → g d = some d' → Rp K H (φ.take n) χ v d') : ∀ {vs : List V} {ds es : List Da}, RpL K H φ χ vs ds → mapO g ds = some es → RpL K H (φ.take n) χ vs es
  | _, _, es, .nil, e => by cases e; exact .nil
  | _, _, es, .cons h r, e => by
    unfold mapO at e
    split at e
    · rename_i e1 e2
      cases e
      exact .cons (ih h e1) (mapO_run ih r e2)
    · cases e
theorem mapOK_run {n : Nat} {g : Da → Option Da} (ih : ∀ {v : V} {d d' : Da}, Rp K H φ χ v d → g d = some d' → Rp K H (φ.take n) χ v d') : ∀ {vs : List (Key × V)} {ds es : List (Key × Da)}, RpK K H φ χ vs ds → mapOK g ds = some es → RpK K H (φ.take n) χ vs es
  | _, _, es, .nil, e => by cases e; exact .nil
  | _, _, es, .cons h r, e => by
    unfold mapOK at e
    split at e
    · rename_i e1 e2
      cases e
      exact .cons (ih h e1) (mapOK_run ih r e2)
    · cases e
theorem mapOF_run {n : Nat} {g : Da → Option Da} (ih : ∀ {v : V} {d d' : Da}, Rp K H φ χ v d → g d = some d' → Rp K H (φ.take n) χ v d') : ∀ {vs : List (Str × V)} {ds es : List (Str × Da)}, RpF K H φ χ vs ds → mapOF g ds = some es → RpF K H (φ.take n) χ vs es
  | _, _, es, .nil, e => by cases e; exact .nil
  | _, _, es, .cons h r, e => by
    unfold mapOF at e
    split at e
    · rename_i e1 e2
      cases e
      exact .cons (ih h e1) (mapOF_run ih r e2)
    · cases e
theorem cell_out {n m : Nat} {a : Addr} (nd : φ.Nodup) (h : φ[m]? = some a) (le : n ≤ m) : a ∉ φ.take n := fun q => by
  obtain ⟨k, l, e⟩ := List.getElem_of_mem q
  rw [List.length_take] at l
  rw [List.getElem_take] at e
  have l2 := List.getElem?_eq_some_iff.1 h
  have : k = m := (List.getElem?_inj (by omega) nd).1 (by rw [h, List.getElem?_eq_getElem (by omega), e])
  omega
theorem frz_run (m : Mm K H φ χ M) {n : Nat} : ∀ (f : Nat) {v : V} {d d' : Da}, Rp K H φ χ v d → frz n f M d = some d' → Rp K H (φ.take n) χ v d'
  | 0, v, d, d', h, e => by
    unfold frz at e
    split at e
    · rename_i c
      cases e
      exact h.cut c
    · cases e
  | f + 1, v, d, d', h, e => by
    unfold frz at e
    split at e
    · rename_i c
      cases e
      exact h.cut c
    · rename_i c
      have ih : ∀ {v : V} {d d' : Da}, Rp K H φ χ v d → frz n f M d = some d' → Rp K H (φ.take n) χ v d' := fun h e => frz_run m f h e
      cases h with
      | cell ha =>
        rename_i k a
        have le : n ≤ k := by
          unfold cloD at c
          simp at c
          exact c
        have out := cell_out m.nd ha le
        have nx := m.dis a (List.mem_of_getElem? ha)
        simp only at e
        split at e
        · rename_i ds q
          obtain ⟨vs, e1, r⟩ := m.at_ _ _ _ ha q
          obtain ⟨es, e2, e3⟩ := Option.map_eq_some_iff.1 e
          rw [← e3]
          exact .lst e1 out nx (mapO_run ih r e2)
        · rename_i ds q
          obtain ⟨vs, e1, r⟩ := m.at_ _ _ _ ha q
          obtain ⟨es, e2, e3⟩ := Option.map_eq_some_iff.1 e
          rw [← e3]
          exact .dct e1 rfl out nx (mapOK_run ih r e2)
        · rename_i c ds q
          obtain ⟨dx, vs, e1, r⟩ := m.at_ _ _ _ ha q
          obtain ⟨es, e2, e3⟩ := Option.map_eq_some_iff.1 e
          rw [← e3]
          exact .obj e1 out nx (mapOF_run ih r e2)
        · cases e
      | tup h n1 n2 r =>
        simp only at e
        obtain ⟨es, e2, e3⟩ := Option.map_eq_some_iff.1 e
        rw [← e3]
        exact .tup h (nin_take n1) n2 (mapO_run ih r e2)
      | lst h n1 n2 r =>
        simp only at e
        obtain ⟨es, e2, e3⟩ := Option.map_eq_some_iff.1 e
        rw [← e3]
        exact .lst h (nin_take n1) n2 (mapO_run ih r e2)
      | dct h cD n1 n2 r =>
        simp only at e
        obtain ⟨es, e2, e3⟩ := Option.map_eq_some_iff.1 e
        rw [← e3]
        exact .dct h cD (nin_take n1) n2 (mapOK_run ih r e2)
      | obj h n1 n2 r =>
        simp only at e
        obtain ⟨es, e2, e3⟩ := Option.map_eq_some_iff.1 e
        rw [← e3]
        exact .obj h (nin_take n1) n2 (mapOF_run ih r e2)
      | _ => cases e
def Lv (n : Nat) (d : Da) (M : Mem) (d' : Da) (M' : Mem) : Prop := (d' = d ∧ M' = M) ∨ (n ≤ M.length ∧ M' = M.take n ∧ cloL n M' = true ∧ frz n 4 M d = some d')
def leave (n : Nat) (Q : TK) : TK := fun d M => ∃ d' M', Lv n d M d' M' ∧ Q d' M'
def leaveX (n : Nat) (E : XD) : XD := fun c fs M => ∃ M', (M' = M ∨ (n ≤ M.length ∧ M' = M.take n ∧ cloL n M' = true ∧ cloF n fs = true)) ∧ E c fs M'
def startD (N : Nat) (ds : List Da) : Sl := ds.map some ++ List.replicate (N - ds.length) none
def dfn (N np : Nat) (mw : WD → MS) : MP := fun ds M Q E => ds.length = np ∧ (cloL M.length M = true → cloL M.length ds = true → mw (fun c fs _ M' => leaveX M.length E c fs M') { nx := fun _ M' => leave M.length Q .non M', rt := leave M.length Q } (startD N ds) M)
theorem Rs.start {vs : List V} {ds : List Da} (r : RpL K H φ χ vs ds) (N : List Str) : Rs K H φ χ (L2.start N vs) (startD N.length ds) := ⟨by
  unfold L2.start startD
  rw [List.length_append, List.length_append, List.length_map, List.length_map, List.length_replicate, List.length_replicate, r.len], fun i d e => by
  unfold startD at e
  unfold L2.start
  by_cases l : i < ds.length
  · rw [List.getElem?_append_left (by rw [List.length_map]; exact l)] at e
    rw [List.getElem?_append_left (by rw [List.length_map, r.len]; exact l)]
    rw [List.getElem?_map] at e ⊢
    cases q : ds[i]? with
    | none => rw [q] at e; cases e
    | some d' =>
      rw [q] at e
      cases e
      obtain ⟨v, h1, h2⟩ := r.get q
      exact ⟨v, by rw [h1]; rfl, h2⟩
  · rw [List.getElem?_append_right (by rw [List.length_map]; omega)] at e
    rw [List.getElem?_replicate] at e
    split at e <;> cases e⟩
theorem Lv.run {n : Nat} {d d' : Da} {M' : Mem} {H0 : Hp} {φ0 : List Addr} {v : V} (k : Lv n d M d' M') (hn : φ0.length ≤ n) (A : Adv H0 φ0 H φ) (m : Mm K H φ χ M) (h : Rp K H φ χ v d) : ∃ φ', Adv H0 φ0 H φ' ∧ Mm K H φ' χ M' ∧ Rp K H φ' χ v d' := by
  rcases k with ⟨rfl, rfl⟩ | ⟨h1, rfl, h2, h3⟩
  · exact ⟨φ, A, m, h⟩
  · exact ⟨φ.take n, A.cut hn, m.cut h2, frz_run m 4 h h3⟩
theorem up_run {tw : WX → TS} {mw : WD → MS} (s : SS K tw mw) {N : List Str} {n np : Nat} (hN : N.length = n) {vs : List V} {Q : VK} {E : XK} (h : up K (dfn n np mw) vs H Q E) : tw (fun cls d _ H => E cls d H) { nx := fun _ H' => Q .non H', rt := Q } (L2.start N vs) H := by
  obtain ⟨φ, χ, M, ds, Q', E', r, m, f, x, _, q⟩ := h
  subst hN
  refine s.run (D' := { nx := fun _ M' => leave M.length Q' .non M', rt := leave M.length Q' }) (W' := fun c fs _ M' => leaveX M.length E' c fs M') (Rs.start r N) m ?_ ?_ ?_ (fun _ _ _ _ _ _ _ _ h => h.elim) (fun _ _ _ _ _ _ _ _ h => h.elim) (q m.clo (r.clo (Nat.le_of_eq m.len)))
  · rintro c fs vfs dd σ' H' φ' ρ' M' A r' m' hd n1 n2 rf ⟨M2, hk, he⟩
    rcases hk with rfl | ⟨h1, rfl, h2, h3⟩
    · exact x _ _ _ _ _ _ _ A m' hd n1 n2 rf he
    · exact x _ _ _ _ _ _ _ (A.cut (Nat.le_of_eq m.len)) (m'.cut h2) hd (nin_take n1) n2 (rf.cut h3) he
  · rintro σ' H' φ' ρ' M' A r' m' ⟨d', M2, k, h'⟩
    obtain ⟨φ2, A2, m2, r2⟩ := k.run (Nat.le_of_eq m.len) A m' .non
    exact f _ _ _ _ _ A2 m2 r2 h'
  · rintro v d H' φ' M' A m' r' ⟨d', M2, k, h'⟩
    obtain ⟨φ2, A2, m2, r2⟩ := k.run (Nat.le_of_eq m.len) A m' r'
    exact f _ _ _ _ _ A2 m2 r2 h'
theorem up_len {n np : Nat} {mw : WD → MS} {vs : List V} {Q : VK} {E : XK} (h : up K (dfn n np mw) vs H Q E) : vs.length = np := by
  obtain ⟨φ, χ, M, ds, Q', E', r, _, _, _, hl, _⟩ := h
  rw [r.len]
  exact hl
end
section
variable {K : PySem.W.Frag} {as as' : WX → TA} {ms ms' : WD → MA} {f : MP}
def XD0 : XD := fun _ _ _ => False
def mCall (f : MP) (s : MA) : ME := fun ρ M Q => s ρ M fun ds M1 => f ds M1 Q XD0
theorem E_call (f : MP) (s : SA K as ms) : SE K (fun W => tCall (up K f) [] E0 (as W)) (fun W => mCall f (ms W)) := ⟨fun {χ W W' σ H φ ρ M Q Q'} r m w fe h =>
  s.run r m w (fun vs ds H1 φ1 M1 A1 m1 r1 h1 => ⟨φ1, χ, M1, ds, Q', XD0, by rw [List.append_nil]; exact r1, m1, fe.adv A1, fun _ _ _ _ _ _ _ _ _ _ _ _ _ h => h.elim, h1⟩) h⟩
def mCallS (f : MP) (s : MA) (W : WD) : ME := fun ρ M Q => s ρ M fun ds M1 => f ds M1 Q fun c fs M2 => W c fs ρ M2
theorem E_callS (f : MP) (s : SA K as ms) : SE K (fun W => tCallS (up K f) (WE W) (as W)) (fun W => mCallS f (ms W) W) := ⟨fun {χ W W' σ H φ ρ M Q Q'} r m w fe h =>
  s.run r m w (fun vs ds H1 φ1 M1 A1 m1 r1 h1 => ⟨φ1, χ, M1, ds, Q', fun c fs M2 => W' c fs ρ M2, r1, m1, fe.adv A1, fun c fs vfs dd H2 φ2 M2 A2 m2 hd n1 n2 rf q => w _ _ _ _ _ _ _ _ _ (A1.trans A2) (r.adv (A1.trans A2)) m2 hd n1 n2 rf q, h1⟩) h⟩
theorem RpL.perm {H : Hp} {φ χ : List Addr} {vs : List V} {ds : List Da} (r : RpL K H φ χ vs ds) : ∀ p : List Nat, RpL K H φ χ (perm p vs) (perm p ds)
  | [] => .nil
  | i :: p => by
    have ih := r.perm p
    unfold Z.perm at ih ⊢
    rw [List.filterMap_cons, List.filterMap_cons]
    cases e : ds[i]? with
    | none =>
      have hl : vs[i]? = none := by
        rw [List.getElem?_eq_none_iff] at e ⊢
        rw [r.len]
        exact e
      rw [hl]
      exact ih
    | some d =>
      obtain ⟨v, hv, rv⟩ := r.get e
      rw [hv]
      exact .cons rv ih
def mCallP (p : List Nat) (n m : Nat) (f : MP) (s sk : MA) : ME := fun ρ M Q => s ρ M fun ds M1 => sk ρ M1 fun es M2 => ds.length = n ∧ es.length = m ∧ f (perm p (ds ++ es)) M2 Q XD0
def mCallPS (p : List Nat) (n m : Nat) (f : MP) (s sk : MA) (W : WD) : ME := fun ρ M Q => s ρ M fun ds M1 => sk ρ M1 fun es M2 => ds.length = n ∧ es.length = m ∧ f (perm p (ds ++ es)) M2 Q fun c fs M3 => W c fs ρ M3
theorem E_callP (p : List Nat) (n m : Nat) (f : MP) (s : SA K as ms) (sk : SA K as' ms') : SE K (fun W => tCallP p n m (up K f) (fun _ => E0) (as W) (as' W)) (fun W => mCallP p n m f (ms W) (ms' W)) := ⟨fun {χ W W' σ H φ ρ M Q Q'} r mm w fe h =>
  s.run r mm w (fun vs ds H1 φ1 M1 A1 m1 r1 h1 => sk.run (r.adv A1) m1 (w.adv A1) (fun ws es H2 φ2 M2 A2 m2 r2 h2 => ⟨by rw [r1.len]; exact h2.1, by rw [r2.len]; exact h2.2.1, φ2, χ, M2, _, Q', XD0, ((r1.adv A2).app r2).perm p, m2, fe.adv (A1.trans A2), fun _ _ _ _ _ _ _ _ _ _ _ _ _ h => h.elim, h2.2.2⟩) h1) h⟩
theorem E_callPS (p : List Nat) (n m : Nat) (f : MP) (s : SA K as ms) (sk : SA K as' ms') : SE K (fun W => tCallP p n m (up K f) (WE W) (as W) (as' W)) (fun W => mCallPS p n m f (ms W) (ms' W) W) := ⟨fun {χ W W' σ H φ ρ M Q Q'} r mm w fe h =>
  s.run r mm w (fun vs ds H1 φ1 M1 A1 m1 r1 h1 => sk.run (r.adv A1) m1 (w.adv A1) (fun ws es H2 φ2 M2 A2 m2 r2 h2 => ⟨by rw [r1.len]; exact h2.1, by rw [r2.len]; exact h2.2.1, φ2, χ, M2, _, Q', fun c fs M3 => W' c fs ρ M3, ((r1.adv A2).app r2).perm p, m2, fe.adv (A1.trans A2),
    fun c fs vfs dd H3 φ3 M3 A3 m3 hd n1 n2 rf q => w _ _ _ _ _ _ _ _ _ ((A1.trans A2).trans A3) (r.adv ((A1.trans A2).trans A3)) m3 hd n1 n2 rf q, h2.2.2⟩) h1) h⟩
/-! ### try -/
abbrev HdM : Type := Str × Option Nat × (Addr → Addr → MS)
def unbD (i : Option Nat) (D : En) : En := match i with
  | none => D
  | some i => { nx := fun ρ M => D.nx (ρ.set i none) M, rt := D.rt, bk := fun ρ M => D.bk (ρ.set i none) M, ct := fun ρ M => D.ct (ρ.set i none) M }
def bndD (i : Option Nat) (d : Da) (ρ : Sl) : Sl := match i with
  | none => ρ
  | some i => ρ.set i (some d)
abbrev ExT := List ((Str × Str) × Bool)
/-- which clause catches which class -/
def ExOk (K : PySem.W.Frag) (X : ExT) : Prop := ∀ c x b, X.lookup (c, x) = some b → PySem.W.exmOne K (.ref (He.ga K c)) (.ref (He.ga K x)) = some b
theorem ExOk.nil {K : PySem.W.Frag} : ExOk K [] := fun _ _ _ h => by cases h
theorem ExOk.cons {K : PySem.W.Frag} {c x : Str} {b : Bool} {X : ExT} (h : PySem.W.exmOne K (.ref (He.ga K c)) (.ref (He.ga K x)) = some b) (r : ExOk K X) : ExOk K (((c, x), b) :: X) := fun c' x' b' e => by
  rw [List.lookup_cons] at e
  split at e
  · rename_i q
    have q : (c', x') = (c, x) := by simpa using q
    cases q
    cases e
    exact h
  · exact r _ _ _ e
def mMix (X : ExT) (W : WD) (D : En) : List HdM → WD
  | [] => W
  | (x, i, ts) :: r => fun c fs ρ M => match X.lookup (c, x) with
    | some true => (i.isSome = true → c = x) ∧ ∀ a dd, ts a dd (unbD i D) (bndD i (.exv a dd c fs) ρ) M
    | some false => mMix X W D r c fs ρ M
    | none => False
def mTry (X : ExT) (hs : List HdM) (tb : WD → MS) (W : WD) : MS := fun D ρ M => tb (mMix X W D hs) D ρ M
inductive HdS (K : PySem.W.Frag) : List Hd → List HdM → Prop
  | nil : HdS K [] []
  | only {x : Str} {ts : TS} {ms : MS} {l : List Hd} {lm : List HdM} : SS K (fun _ => ts) (fun _ => ms) → HdS K l lm → HdS K ((.ref (He.ga K x), none, fun _ _ _ => ts) :: l) ((x, none, fun _ _ => ms) :: lm)
  | as_ {x : Str} {i : Nat} {ts : Addr → Value → Option Addr → TS} {ms : Addr → Addr → MS} {l : List Hd} {lm : List HdM} : (∀ a dd, SS K (fun _ => ts a (.ref (He.ga K x)) (some dd)) (fun _ => ms a dd)) → HdS K l lm → HdS K ((.ref (He.ga K x), some i, ts) :: l) ((x, some i, ms) :: lm)
theorem FN.unb {χ φ : List Addr} {H : Hp} {P' : Sl → Mem → Prop} {P : L2.St → Hp → Prop} {i : Nat} (n : FN K χ H φ P' P) : FN K χ H φ (fun ρ M => P' (ρ.set i none) M) (fun σ H => P (σ.set i none) H) := fun σ' H' φ' ρ' M' A r m h => n _ _ _ _ _ A r.gone m h
theorem mix_run {χ φ : List Addr} {H : Hp} {D : Ends} {D' : En} {W : WX} {W' : WD} {X : ExT} (hX : ExOk K X) {l : List Hd} {lm : List HdM} (k : HdS K l lm) (w : FW K χ H φ W' W) (n : FN K χ H φ D'.nx D.nx) (t : FE K χ H φ D'.rt D.rt) (b : FN K χ H φ D'.bk D.bk) (c : FN K χ H φ D'.ct D.ct) :
    FW K χ H φ (mMix X W' D' lm) (wMix K W D l) := by
  induction k with
  | nil => exact w
  | @only x ts ms l lm s r ih =>
    intro cl fs vfs dd σ' H' φ' ρ' M' A r' m' hd n1 n2 rf h
    simp only [mMix] at h
    split at h
    · rename_i e
      refine ⟨true, hX _ _ _ e, fun _ a ha => ?_, (fun (q : true = false) => by cases q)⟩
      exact s.run (W := W0) r' m' FW0 (n.adv A) (t.adv A) (b.adv A) (c.adv A) (h.2 a dd)
    · rename_i e
      exact ⟨false, hX _ _ _ e, (fun (q : false = true) => by cases q), fun _ => ih _ _ _ _ _ _ _ _ _ A r' m' hd n1 n2 rf h⟩
    · exact h.elim
  | @as_ x i ts ms l lm s r ih =>
    intro cl fs vfs dd σ' H' φ' ρ' M' A r' m' hd n1 n2 rf h
    simp only [mMix] at h
    split at h
    · rename_i e
      obtain ⟨hc, h⟩ := h
      obtain rfl := hc rfl
      refine ⟨true, hX _ _ _ e, fun _ a ha => ?_, (fun (q : true = false) => by cases q)⟩
      exact (s a dd).run (W := W0) (D' := unbD (some i) D') (r'.set (.exv hd n1 n2 rf)) m' FW0 (FN.unb (n.adv A)) (t.adv A) (FN.unb (b.adv A)) (FN.unb (c.adv A)) (h a dd)
    · rename_i e
      exact ⟨false, hX _ _ _ e, (fun (q : false = true) => by cases q), fun _ => ih _ _ _ _ _ _ _ _ _ A r' m' hd n1 n2 rf h⟩
    · exact h.elim
theorem S_try {X : ExT} (hX : ExOk K X) {l : List Hd} {lm : List HdM} {tb : WX → TS} {mb : WD → MS} (s : SS K tb mb) (k : HdS K l lm) : SS K (fun W => tTry K tb W l) (fun W => mTry X lm mb W) := ⟨fun r m w n t b c h =>
  s.run r m (mix_run hX k w n t b c) n t b c h⟩
theorem S_try0 {X : ExT} (hX : ExOk K X) {l : List Hd} {lm : List HdM} {tb : WX → TS} {mb : WD → MS} (s : SS K tb mb) (k : HdS K l lm) : SS K (fun _ => tTry K tb (fun _ _ _ _ => False) l) (fun _ => mTry X lm mb WD0) := ⟨fun r m w n t b c h =>
  s.run r m (mix_run hX k FW0 n t b c) n t b c h⟩
/-! ### raise, by the field's name -/
def mRaise (c f : Str) (s : MA) (W : WD) : MS := fun _ ρ M => s ρ M fun ds M1 => match ds with
  | [d] => W c [(f, d)] ρ M1
  | _ => False
theorem raise_run {c f : Str} {χ φ : List Addr} {H : Hp} {W : WX} {W' : WD} {σ : L2.St} {ρ : Sl} {M : Mem} (s : SA K as ms) (r : Rs K H φ χ σ ρ) (m : Mm K H φ χ M) (w : FW K χ H φ W' W) {D : En} (h : mRaise c f (ms W') W' D ρ M) :
    as W σ H fun vs H1 => ∃ v, vs = [v] ∧ ∀ d, H1 d = none → W (.ref (He.ga K c)) (some d) σ (upd H1 d (.xd [(f, v)])) := by
  refine s.run r m w (fun vs ds H1 φ1 M1 A1 m1 r1 h1 => ?_) h
  split at h1
  · rename_i d
    obtain ⟨v, rfl, h2⟩ := r1.one
    refine ⟨v, rfl, fun dd hdd => ?_⟩
    have A2 : Adv H1 φ1 (upd H1 dd (.xd [(f, v)])) φ1 := Adv.new hdd
    exact w _ _ [(f, v)] dd _ _ φ1 _ _ (A1.trans A2) (r.adv (A1.trans A2)) (m1.new hdd) upd_same (m1.nin hdd) (fun q => m1.hid dd q hdd) (.cons (h2.adv A2) .nil) h1
  · exact h1.elim
theorem RpL.mk_ints {H : Hp} {φ χ : List Addr} : ∀ ns : List Int, RpL K H φ χ (ns.map V.int) (ns.map Da.int)
  | [] => .nil
  | n :: ns => .cons (.int n) (RpL.mk_ints ns)
/-- the law's promise at its end -/
def sp_law0 (K : PySem.W.Frag) : Sp := fun vs H Q _ => ∃ (a : Addr) (ns : List Int), vs = [.ref a] ∧ SqL K H a (ns.map V.int) ∧ ns.length ≤ 63 ∧ ∀ H', Q (.bl true) H'
theorem law_up (K : PySem.W.Frag) {f : MP} (h : ∀ ns : List Int, ns.length ≤ 63 → f [.kl (ns.map Da.int)] [] (fun d _ => d = .bl true) XD0) : ∀ vs H Q E, sp_law0 K vs H Q E → up K f vs H Q E := by
  rintro vs H Q E ⟨a, ns, rfl, hs, hl, q⟩
  refine ⟨[], [], [], [.kl (ns.map Da.int)], fun d _ => d = .bl true, XD0, .cons ?_ .nil, ⟨by simp, rfl, (fun _ h => by cases h), (fun _ h => by cases h), (fun n a d h => by simp at h)⟩, ?_, (fun _ _ _ _ _ _ _ _ _ _ _ _ _ h => h.elim), h ns hl⟩
  · rcases hs with hs | hs
    · rcases hs with hs | ⟨ob, hs⟩
      · exact .klR hs (.inl rfl) (by simp) (by simp) (RpL.mk_ints ns)
      · exact .klR hs (.inr ⟨ob, rfl⟩) (by simp) (by simp) (RpL.mk_ints ns)
    · exact .klK (fun _ => .inr hs) (RpL.mk_ints ns)
  · rintro v d H' φ' M' A m r rfl
    cases r
    exact q H'
end
end Z

namespace Z
open PySem PySem.Spec PyProof.Rows L2 Evl
theorem S_raisevalue {K : PySem.W.Frag} (c : Str) {as : WX → TA} {ms : WD → MA} (s : SA K as ms) : SS K (fun W => tRaisevalue (He.ga K c) W (as W)) (fun W => mRaise c "value" (ms W) W) := ⟨fun r m w n t b k h => raise_run s r m w h⟩
end Z

namespace Z
open PySem PySem.Spec PyProof.Rows L2 Evl
theorem S_raisename {K : PySem.W.Frag} (c : Str) {as : WX → TA} {ms : WD → MA} (s : SA K as ms) : SS K (fun W => tRaisename (He.ga K c) W (as W)) (fun W => mRaise c "name" (ms W) W) := ⟨fun r m w n t b k h => raise_run s r m w h⟩
end Z

namespace Z
open PySem PySem.Spec PyProof.Rows L2 Evl
theorem S_raisebound {K : PySem.W.Frag} (c : Str) {as : WX → TA} {ms : WD → MA} (s : SA K as ms) : SS K (fun W => tRaisebound (He.ga K c) W (as W)) (fun W => mRaise c "bound" (ms W) W) := ⟨fun r m w n t b k h => raise_run s r m w h⟩
end Z

/-! T11: own classes over data -/
namespace Z
open PySem PySem.Spec PyProof.Rows L2 Evl
section
variable {K : PySem.W.Frag} {χ φ : List Addr} {H : Hp} {M : Mem} {v : V} {d : Da}
theorem vO (m : Mm K H φ χ M) (h : Rp K H φ χ v d) {c : Str} {fds : List (Str × Da)} (e : look M d = .obj c fds) : ∃ a dx fs, v = .ref a ∧ H a = some (.ins (He.ga K c) dx fs) ∧ RpF K H φ χ fs fds := by
  cases h with
  | obj h n m r => cases e; exact ⟨_, _, _, rfl, h, r⟩
  | cell h =>
    obtain ⟨d, e1, _, c⟩ := m.look h
    have e2 : M.getD _ (.gl "") = Da.obj _ _ := e
    rw [e1] at e2
    subst e2
    obtain ⟨dx, vs, q, r⟩ := c
    exact ⟨_, dx, vs, rfl, q, r⟩
  | _ => cases e
theorem RpF.lookN {f : Str} : ∀ {vs : List (Str × V)} {ds : List (Str × Da)}, RpF K H φ χ vs ds → ds.lookup f = none → vs.lookup f = none
  | _, _, .nil, _ => rfl
  | _, _, .cons (k := k) h r, e => by
    rw [List.lookup_cons] at e ⊢
    cases q : f == k with
    | true => rw [q] at e; cases e
    | false => rw [q] at e; exact r.lookN e
def putFD (f : Str) (d : Da) : List (Str × Da) → List (Str × Da)
  | [] => [(f, d)]
  | (g, x) :: r => if g = f then (g, d) :: r else (g, x) :: putFD f d r
theorem RpF.put {f : Str} (hd : Rp K H φ χ v d) : ∀ {vs : List (Str × V)} {ds : List (Str × Da)}, RpF K H φ χ vs ds → RpF K H φ χ (putF f v vs) (putFD f d ds)
  | _, _, .nil => .cons hd .nil
  | _, _, .cons (k := k) h r => by
    unfold putF putFD
    by_cases q : k = f
    · rw [if_pos q, if_pos q]; exact .cons hd r
    · rw [if_neg q, if_neg q]; exact .cons h (r.put hd)
theorem RpF.len : ∀ {vs : List (Str × V)} {ds : List (Str × Da)}, RpF K H φ χ vs ds → vs.length = ds.length
  | _, _, .nil => rfl
  | _, _, .cons _ r => by rw [List.length_cons, List.length_cons, r.len]
end
section
variable {K : PySem.W.Frag} {ta tb : WX → TE} {ma mb : WD → ME} {as as' : WX → TA} {ms ms' : WD → MA}
/-- e.f -/
def mFld (c f : Str) (ma : ME) : ME := fun ρ M Q => ma ρ M fun x M1 => match look M1 x with
  | .obj c' fds => c' = c ∧ match fds.lookup f with
    | some d => Q d M1
    | none => False
  | _ => False
theorem E_fld {c f : Str} (cl : Cls K (He.ga K c)) (na : NoAttr K (He.ga K c) f) (a : SE K ta ma) : SE K (fun W => tFld K (ta W) f) (fun W => mFld c f (ma W)) := ⟨fun r m w fe h =>
  a.run r m w (fun v d H1 φ1 M1 A1 m1 r1 h1 => by
    split at h1
    · rename_i c' fds e
      obtain ⟨rfl, h1⟩ := h1
      obtain ⟨a, dx, fs, rfl, ha, rf⟩ := vO m1 r1 e
      split at h1
      · rename_i d' ed
        obtain ⟨u, hu, ru⟩ := rf.look ed
        exact ⟨a, _, dx, fs, u, rfl, ha, cl, na, hu, (fe.adv A1).pure m1 ru h1⟩
      · exact h1.elim
    · exact h1.elim) h⟩
/-- e.f = value, in the making of an instance -/
def mFldS (c f : Str) (mo mv : ME) : MS := fun D ρ M => mv ρ M fun y M1 => mo ρ M1 fun o M2 => match o with
  | .cell n => match M2[n]? with
    | some (.obj c' fds) => c' = c ∧ fds.length < 1000 ∧ D.nx ρ (M2.set n (.obj c' (putFD f y fds)))
    | _ => False
  | _ => False
theorem S_fldS {c f : Str} (cl : Cls K (He.ga K c)) (na : NoAttr K (He.ga K c) f) (a : SE K ta ma) (b : SE K tb mb) : SS K (fun W => sFld K (ta W) (tb W) f) (fun W => mFldS c f (ma W) (mb W)) := ⟨fun r m w n t bk ct h =>
  b.run r m w (fun y dy H1 φ1 M1 A1 m1 r1 h1 => a.run (r.adv A1) m1 (w.adv A1) (fun o d H2 φ2 M2 A2 m2 r2 h2 => by
    split at h2
    · cases r2 with
      | cell hx =>
        split at h2
        · rename_i k c' fds e
          obtain ⟨rfl, hl, h2⟩ := h2
          obtain ⟨dx, fs, e1, rf⟩ := m2.at_ _ _ _ hx e
          have A3 := Adv.mut (H := H2) (o := HO.ins (He.ga K c') dx (putF f y fs)) (List.mem_of_getElem? hx)
          refine ⟨_, _, dx, fs, rfl, e1, cl, na, by rw [rf.len]; exact hl, n _ _ _ _ _ ((A1.trans A2).trans A3) (r.adv ((A1.trans A2).trans A3)) (m2.mut (d := .obj _ _) hx ⟨dx, _, upd_same, (rf.put (r1.adv A2)).adv A3⟩) h2⟩
        · exact h2.elim
    · exact h2.elim) h1) h⟩
/-- defaults -/
def DfL (K : PySem.W.Frag) (dvs : List V) (dfs : List Da) : Prop := ∀ H φ χ, RpL K H φ χ dvs dfs
theorem DfL.nil : DfL K [] [] := fun _ _ _ => .nil
/-- o.m(..) -/
def mMeth (c m : Str) (pm : List Nat) (n mm : Nat) (f : MP) (dfs : List Da) (ma : ME) (s sk : MA) : ME := fun ρ M Q => ma ρ M fun x M1 => match look M1 x with
  | .obj c' fds => c' = c ∧ fds.lookup m = none ∧ s ρ M1 fun ds M2 => sk ρ M2 fun es M3 => ds.length = n ∧ es.length = mm ∧ f (perm pm ((x :: ds) ++ es ++ dfs)) M3 Q XD0
  | _ => False
def mMethS (c m : Str) (pm : List Nat) (n mm : Nat) (f : MP) (dfs : List Da) (ma : ME) (s sk : MA) (W : WD) : ME := fun ρ M Q => ma ρ M fun x M1 => match look M1 x with
  | .obj c' fds => c' = c ∧ fds.lookup m = none ∧ s ρ M1 fun ds M2 => sk ρ M2 fun es M3 => ds.length = n ∧ es.length = mm ∧ f (perm pm ((x :: ds) ++ es ++ dfs)) M3 Q fun c fs M4 => W c fs ρ M4
  | _ => False
theorem E_meth (c m : Str) (pm : List Nat) (n mm : Nat) (f : MP) {dvs : List V} {dfs : List Da} (D : DfL K dvs dfs) (a : SE K ta ma) (s : SA K as ms) (sk : SA K as' ms') : SE K (fun W => tMethP K c m pm n mm (up K f) dvs (fun _ => E0) (ta W) (as W) (as' W)) (fun W => mMeth c m pm n mm f dfs (ma W) (ms W) (ms' W)) := ⟨fun {χ W W' σ H φ ρ M Q Q'} r mM w fe h =>
  a.run r mM w (fun x dx H1 φ1 M1 A1 m1 r1 h1 => by
    split at h1
    · rename_i c' fds e
      obtain ⟨rfl, hn, h1⟩ := h1
      obtain ⟨ad, dd, fs, rfl, ha, rf⟩ := vO m1 r1 e
      refine ⟨ad, dd, fs, rfl, ha, rf.lookN hn, ?_⟩
      exact s.run (r.adv A1) m1 (w.adv A1) (fun vs ds H2 φ2 M2 A2 m2 r2 h2 => sk.run (r.adv (A1.trans A2)) m2 (w.adv (A1.trans A2)) (fun ws es H3 φ3 M3 A3 m3 r3 h3 => ⟨by rw [r2.len]; exact h3.1, by rw [r3.len]; exact h3.2.1, φ3, χ, M3, _, Q', XD0,
        (((RpL.cons (r1.adv (A2.trans A3)) (r2.adv A3)).app r3).app (D _ _ _)).perm pm, m3, fe.adv ((A1.trans A2).trans A3), fun _ _ _ _ _ _ _ _ _ _ _ _ _ h => h.elim, h3.2.2⟩) h2) h1
    · exact h1.elim) h⟩
theorem E_methS (c m : Str) (pm : List Nat) (n mm : Nat) (f : MP) {dvs : List V} {dfs : List Da} (D : DfL K dvs dfs) (a : SE K ta ma) (s : SA K as ms) (sk : SA K as' ms') : SE K (fun W => tMethP K c m pm n mm (up K f) dvs (WE W) (ta W) (as W) (as' W)) (fun W => mMethS c m pm n mm f dfs (ma W) (ms W) (ms' W) W) := ⟨fun {χ W W' σ H φ ρ M Q Q'} r mM w fe h =>
  a.run r mM w (fun x dx H1 φ1 M1 A1 m1 r1 h1 => by
    split at h1
    · rename_i c' fds e
      obtain ⟨rfl, hn, h1⟩ := h1
      obtain ⟨ad, dd, fs, rfl, ha, rf⟩ := vO m1 r1 e
      refine ⟨ad, dd, fs, rfl, ha, rf.lookN hn, ?_⟩
      exact s.run (r.adv A1) m1 (w.adv A1) (fun vs ds H2 φ2 M2 A2 m2 r2 h2 => sk.run (r.adv (A1.trans A2)) m2 (w.adv (A1.trans A2)) (fun ws es H3 φ3 M3 A3 m3 r3 h3 => ⟨by rw [r2.len]; exact h3.1, by rw [r3.len]; exact h3.2.1, φ3, χ, M3, _, Q', fun c fs M4 => W' c fs ρ M4,
        (((RpL.cons (r1.adv (A2.trans A3)) (r2.adv A3)).app r3).app (D _ _ _)).perm pm, m3, fe.adv ((A1.trans A2).trans A3), fun c fs vfs dd H4 φ4 M4 A4 m4 hd n1 n2 rf q => w _ _ _ _ _ _ _ _ _ (((A1.trans A2).trans A3).trans A4) (r.adv (((A1.trans A2).trans A3).trans A4)) m4 hd n1 n2 rf q, h3.2.2⟩) h2) h1
    · exact h1.elim) h⟩
/-- C(..): a new cell, __init__, then the instance as a datum -/
def mMakeE (c : Str) (pm : List Nat) (f : MP) (dfs ds es : List Da) (M2 : Mem) (Q : TK) (E : XD) : Prop :=
  f (perm pm ((.cell M2.length :: ds) ++ es ++ dfs)) (M2 ++ [.obj c []]) (fun d M3 => d = .non ∧ leave M2.length Q (.cell M2.length) M3) (leaveX M2.length E)
def mMake (c : Str) (pm : List Nat) (n mm : Nat) (f : MP) (dfs : List Da) (s sk : MA) : ME := fun ρ M Q => s ρ M fun ds M1 => sk ρ M1 fun es M2 => ds.length = n ∧ es.length = mm ∧ mMakeE c pm f dfs ds es M2 Q XD0
def mMakeS (c : Str) (pm : List Nat) (n mm : Nat) (f : MP) (dfs : List Da) (s sk : MA) (W : WD) : ME := fun ρ M Q => s ρ M fun ds M1 => sk ρ M1 fun es M2 => ds.length = n ∧ es.length = mm ∧ mMakeE c pm f dfs ds es M2 Q fun c fs M4 => W c fs ρ M4
theorem make_run {c : Str} {pm : List Nat} {f : MP} {dvs : List V} {dfs ds es : List Da} (D : DfL K dvs dfs) {χ φ : List Addr} {H : Hp} {M : Mem} {Q : VK} {Q' : TK} {E : XK} {E' : XD} {vs ws : List V} (m : Mm K H φ χ M) (r : RpL K H φ χ vs ds) (r2 : RpL K H φ χ ws es) (fe : FE K χ H φ Q' Q) (fx : FX K χ H φ E' E)
    (h : mMakeE c pm f dfs ds es M Q' E') (x dx : Addr) (hx : H x = none) (hd : H dx = none) (ne : dx ≠ x) : up K f (perm pm ((V.ref x :: vs) ++ ws ++ dvs)) (upd (upd H dx (.own x)) x (.ins (He.ga K c) dx [])) (fun v H3 => v = .non ∧ Q (.ref x) H3) E := by
  have A1 : Adv H φ (upd H dx (.own x)) φ := Adv.new hd
  have hx1 : (upd H dx (.own x)) x = none := by rw [upd_ne (Ne.symm ne)]; exact hx
  have A2 : Adv (upd H dx (.own x)) φ (upd (upd H dx (.own x)) x (.ins (He.ga K c) dx [])) (φ ++ [x]) := Adv.newC hx1
  have m2 : Mm K (upd (upd H dx (.own x)) x (.ins (He.ga K c) dx [])) (φ ++ [x]) χ (M ++ [.obj c []]) := (m.new hd).newC hx1 ⟨dx, [], upd_same, .nil⟩
  have A := A1.trans A2
  have at_ : (φ ++ [x])[M.length]? = some x := by
    rw [← m.len]
    exact snoc_at _ _
  unfold mMakeE at h
  refine ⟨φ ++ [x], χ, M ++ [.obj c []], perm pm ((.cell M.length :: ds) ++ es ++ dfs), fun d M3 => d = .non ∧ leave M.length Q' (.cell M.length) M3, leaveX M.length E', (((RpL.cons (.cell at_) (r.adv A)).app (r2.adv A)).app (D _ _ _)).perm pm, m2, ?_, ?_, h⟩
  · rintro v d H3 φ3 M3 A3 m3 r3 ⟨rfl, d', M', k, q⟩
    cases r3
    refine ⟨rfl, ?_⟩
    obtain ⟨φ4, A4, m4, r4⟩ := k.run (Nat.le_of_eq m.len) (A.trans A3) m3 (.cell (A3.at_ at_))
    exact fe _ _ _ _ _ A4 m4 r4 q
  · rintro c fs vfs dd H3 φ3 M3 A3 m3 hd n1 n2 rf ⟨M', hk, he⟩
    rcases hk with rfl | ⟨h1, rfl, h2, h3⟩
    · exact fx _ _ _ _ _ _ _ (A.trans A3) m3 hd n1 n2 rf he
    · exact fx _ _ _ _ _ _ _ ((A.trans A3).cut (Nat.le_of_eq m.len)) (m3.cut h2) hd (nin_take n1) n2 (rf.cut h3) he
theorem E_make (c : Str) (pm : List Nat) (n mm : Nat) (f : MP) {dvs : List V} {dfs : List Da} (D : DfL K dvs dfs) (s : SA K as ms) (sk : SA K as' ms') : SE K (fun W => tMakeP K c pm n mm (up K f) dvs (fun _ => E0) (as W) (as' W)) (fun W => mMake c pm n mm f dfs (ms W) (ms' W)) := ⟨fun {χ W W' σ H φ ρ M Q Q'} r mM w fe h =>
  s.run r mM w (fun vs ds H1 φ1 M1 A1 m1 r1 h1 => sk.run (r.adv A1) m1 (w.adv A1) (fun ws es H2 φ2 M2 A2 m2 r2 h2 => ⟨by rw [r1.len]; exact h2.1, by rw [r2.len]; exact h2.2.1,
    make_run D m2 (r1.adv A2) r2 (fe.adv (A1.trans A2)) (fun _ _ _ _ _ _ _ _ _ _ _ _ _ h => h.elim) h2.2.2⟩) h1) h⟩
theorem E_makeS (c : Str) (pm : List Nat) (n mm : Nat) (f : MP) {dvs : List V} {dfs : List Da} (D : DfL K dvs dfs) (s : SA K as ms) (sk : SA K as' ms') : SE K (fun W => tMakeP K c pm n mm (up K f) dvs (WE W) (as W) (as' W)) (fun W => mMakeS c pm n mm f dfs (ms W) (ms' W) W) := ⟨fun {χ W W' σ H φ ρ M Q Q'} r mM w fe h =>
  s.run r mM w (fun vs ds H1 φ1 M1 A1 m1 r1 h1 => sk.run (r.adv A1) m1 (w.adv A1) (fun ws es H2 φ2 M2 A2 m2 r2 h2 => ⟨by rw [r1.len]; exact h2.1, by rw [r2.len]; exact h2.2.1,
    make_run D m2 (r1.adv A2) r2 (fe.adv (A1.trans A2)) (fun c fs vfs dd H4 φ4 M4 A4 m4 hd n1 n2 rf q => w _ _ _ _ _ _ _ _ _ ((A1.trans A2).trans A4) (r.adv ((A1.trans A2).trans A4)) m4 hd n1 n2 rf q) h2.2.2⟩) h1) h⟩
end
section
variable {K : PySem.W.Frag}
theorem FX0 {χ φ : List Addr} {H : Hp} {E : XK} : FX K χ H φ XD0 E := fun _ _ _ _ _ _ _ _ _ _ _ _ _ h => h.elim
/-! len, ==, in, isinstance -/
def nLenO (c : Str) (pm : List Nat) (f : MP) (dfs : List Da) : List Da → Mem → TK → Prop := fun ds M Q => match ds with
  | [x] => match look M x with
    | .obj c' _ => c' = c ∧ f (perm pm ([x] ++ dfs)) M (fun d M' => ∃ i : Int, d = .int i ∧ 0 ≤ i ∧ i < 2 ^ 63 ∧ Q (.int i) M') XD0
    | _ => False
  | _ => False
theorem C_lenO {c : Str} {pm : List Nat} {f : MP} {dvs : List V} {dfs : List Da} (D : DfL K dvs dfs) : SC K (rLenO K c pm (up K f) dvs) (nLenO c pm f dfs) := by
  intro χ H φ M x dx Q Q' m hx fe h
  unfold nLenO at h
  split at h
  · obtain ⟨v, rfl, h1⟩ := hx.one
    split at h
    · rename_i c' fds e
      obtain ⟨rfl, h⟩ := h
      obtain ⟨a, dd, fs, rfl, ha, rf⟩ := vO m h1 e
      refine ⟨a, dd, fs, rfl, ha, φ, χ, M, _, _, _, ((RpL.cons h1 .nil).app (D _ _ _)).perm pm, m, ?_, FX0, h⟩
      rintro v d H' φ' M' A m' r' ⟨i, rfl, h0, hi, q⟩
      obtain rfl := vInt r'
      exact ⟨i, rfl, h0, hi, fe _ _ _ _ _ A m' (.int i) q⟩
    · exact h.elim
  · exact h.elim
def nEqO (c : Str) (pm : List Nat) (f : MP) (dfs : List Da) : MO := fun x y M Q => match look M x with
  | .obj c1 _ => match look M y with
    | .obj c2 _ => c1 = c ∧ c2 = c ∧ f (perm pm ([x, y] ++ dfs)) M (fun d M' => ∃ b : Bool, d = .bl b ∧ Q (.bl b) M') XD0
    | _ => False
  | _ => False
theorem O_eqO {c : Str} {pm : List Nat} {f : MP} {dvs : List V} {dfs : List Da} (D : DfL K dvs dfs) : SO K (rEqO K c pm (up K f) dvs) (nEqO c pm f dfs) := by
  intro χ H φ M x y dx dy Q Q' m hx hy fe h
  unfold nEqO at h
  split at h
  · rename_i c1 fds e1
    split at h
    · rename_i c2 gds e2
      obtain ⟨rfl, rfl, h⟩ := h
      obtain ⟨a, dd, fs, rfl, ha, rf⟩ := vO m hx e1
      obtain ⟨b, de, gs, rfl, hb, rg⟩ := vO m hy e2
      refine ⟨a, b, dd, de, fs, gs, rfl, rfl, ha, hb, φ, χ, M, _, _, _, ((RpL.cons hx (.cons hy .nil)).app (D _ _ _)).perm pm, m, ?_, FX0, h⟩
      rintro v d H' φ' M' A m' r' ⟨i, rfl, q⟩
      obtain rfl := vBl r'
      exact ⟨i, rfl, fe _ _ _ _ _ A m' (.bl i) q⟩
    · exact h.elim
  · exact h.elim
def nInO (c : Str) (pm : List Nat) (f : MP) (dfs : List Da) : MO := fun x y M Q => match look M y with
  | .obj c2 _ => c2 = c ∧ f (perm pm ([y, x] ++ dfs)) M (fun d M' => ∃ b : Bool, d = .bl b ∧ Q (.bl b) M') XD0
  | _ => False
def nNinO (c : Str) (pm : List Nat) (f : MP) (dfs : List Da) : MO := fun x y M Q => match look M y with
  | .obj c2 _ => c2 = c ∧ f (perm pm ([y, x] ++ dfs)) M (fun d M' => ∃ b : Bool, d = .bl b ∧ Q (.bl (!b)) M') XD0
  | _ => False
theorem O_inO {c : Str} {pm : List Nat} {f : MP} {dvs : List V} {dfs : List Da} (D : DfL K dvs dfs) : SO K (rInO K c pm (up K f) dvs) (nInO c pm f dfs) := by
  intro χ H φ M x y dx dy Q Q' m hx hy fe h
  unfold nInO at h
  split at h
  · rename_i c2 gds e2
    obtain ⟨rfl, h⟩ := h
    obtain ⟨b, de, gs, rfl, hb, rg⟩ := vO m hy e2
    refine ⟨b, de, gs, rfl, hb, φ, χ, M, _, _, _, ((RpL.cons hy (.cons hx .nil)).app (D _ _ _)).perm pm, m, ?_, FX0, h⟩
    rintro v d H' φ' M' A m' r' ⟨i, rfl, q⟩
    obtain rfl := vBl r'
    exact ⟨i, rfl, fe _ _ _ _ _ A m' (.bl i) q⟩
  · exact h.elim
theorem O_ninO {c : Str} {pm : List Nat} {f : MP} {dvs : List V} {dfs : List Da} (D : DfL K dvs dfs) : SO K (rNinO K c pm (up K f) dvs) (nNinO c pm f dfs) := by
  intro χ H φ M x y dx dy Q Q' m hx hy fe h
  unfold nNinO at h
  split at h
  · rename_i c2 gds e2
    obtain ⟨rfl, h⟩ := h
    obtain ⟨b, de, gs, rfl, hb, rg⟩ := vO m hy e2
    refine ⟨b, de, gs, rfl, hb, φ, χ, M, _, _, _, ((RpL.cons hy (.cons hx .nil)).app (D _ _ _)).perm pm, m, ?_, FX0, h⟩
    rintro v d H' φ' M' A m' r' ⟨i, rfl, q⟩
    obtain rfl := vBl r'
    exact ⟨i, rfl, fe _ _ _ _ _ A m' (.bl (!i)) q⟩
  · exact h.elim
def nIsiO (c : Str) : List Da → Mem → TK → Prop := fun ds M Q => match ds with
  | [x, .gl c'] => c' = c ∧ match look M x with
    | .obj c2 _ => c2 = c ∧ Q (.bl true) M
    | _ => match tyDa M x with
      | some _ => Q (.bl false) M
      | none => False
  | _ => False
theorem C_isiO {c : Str} (I : IsO K c) : SC K (rIsi K) (nIsiO c) := by
  intro χ H φ M x dx Q Q' m hx f h
  unfold nIsiO at h
  split at h
  · rename_i d c'
    obtain ⟨rfl, h⟩ := h
    obtain ⟨v, w, rfl, h1, h2⟩ := hx.two
    cases h2
    split at h
    · rename_i c2 fds e
      obtain ⟨rfl, h⟩ := h
      obtain ⟨a, dd, fs, rfl, ha, rf⟩ := vO m h1 e
      exact ⟨_, _, _, _, true, rfl, .own _, I.tyX ha, I.me, f.pure m (.bl _) h⟩
    · split at h
      · rename_i a e
        exact ⟨v, _, _, _, false, rfl, .own _, tyDa_X m h1 e, I.ty a (tyDa_in e), f.pure m (.bl _) h⟩
      · exact h.elim
  · exact h.elim
/-! == of dicts -/
def pdK : List (Key × Da) → Prop := fun ks => ∀ p ∈ ks, pd p.2
def eqKD (ks ls : List (Key × Da)) : Bool := decide (ks.length = ls.length) && ks.all fun p => match valD ls p.1 with
  | some e => eqD p.2 e
  | none => false
theorem RpK.weakP {H : Hp} {φ χ : List Addr} : ∀ {vs : List (Key × V)} {ds : List (Key × Da)}, RpK K H φ χ vs ds → pdK ds → RpK K H [] [] vs ds
  | _, _, .nil, _ => .nil
  | _, _, .cons h r, p => .cons (h.weak (p _ (List.mem_cons_self ..)).1) (r.weakP fun q hq => p q (List.mem_cons_of_mem _ hq))
theorem valD_mem {ls : List (Key × Da)} {k : Key} {d : Da} (h : valD ls k = some d) : (k, d) ∈ ls := by
  unfold valD at h
  obtain ⟨p, h1, h2⟩ := Option.map_eq_some_iff.1 h
  have := List.find?_some h1
  have e : p.1 = k := by simpa using this
  have m := List.mem_of_find?_eq_some h1
  rw [← e, ← h2]
  exact m
theorem khit_of {H : Hp} {us : List (Key × V)} {ls : List (Key × Da)} (rl : RpK K H [] [] us ls) (pl : pdK ls) : ∀ {vs : List (Key × V)} {ks : List (Key × Da)}, RpK K H [] [] vs ks → pdK ks →
    KHit (EqI K H 60) us vs (ks.all fun p => match valD ls p.1 with | some e => eqD p.2 e | none => false)
  | _, _, .nil, _ => .nil
  | _, _, .cons (k := k) (v := v) (d := d) (ds := r) h rr, p => by
    rw [List.all_cons]
    rcases rl.val (k := k) with ⟨e1, e2⟩ | ⟨u, d', e1, e2, rd⟩
    · simp only [e2, Bool.false_and]
      exact .miss e1
    · simp only [e2]
      have p1 := p _ (List.mem_cons_self ..)
      have p2 := pl _ (valD_mem e2)
      exact .hit e1 (eqI_of (n := 59) p1.1 p2.1 p1.2 p2.2 h rd) (khit_of rl pl rr fun q hq => p q (List.mem_cons_of_mem _ hq))
def nEqK : MO := fun x y M Q => match look M x with
  | .dct ks => match look M y with
    | .dct ls => pdK ks ∧ pdK ls ∧ Q (.bl (eqKD ks ls)) M
    | _ => False
  | _ => False
theorem O_eqK : SO K (rEqK K) nEqK := by
  intro χ H φ M x y dx dy Q Q' m hx hy fe h
  unfold nEqK at h
  split at h
  · rename_i ks e1
    split at h
    · rename_i ls e2
      obtain ⟨p1, p2, q⟩ := h
      obtain ⟨a, vs, rfl, ha, r1⟩ := vD m hx e1
      obtain ⟨b, us, rfl, hb, r2⟩ := vD m hy e2
      refine ⟨a, b, vs, us, _, rfl, rfl, ha, hb, fun _ => khit_of (r2.weakP p2) p2 (r1.weakP p1) p1, ?_⟩
      rw [r1.len, r2.len]
      exact fe.pure m (.bl _) q
    · exact h.elim
  · exact h.elim
end
end Z

/-! T12: comprehensions: a new list as a cell; two fors; dicts -/
namespace Z
open PySem PySem.Spec PyProof.Rows L2 Evl
/-- what stays true of the rest of the heap while a new object at D grows -/
theorem grow {χ : List Addr} {H0 : Hp} {φ0 : List Addr} {D : Addr} {z o1 o2 : HO} {H1 H2 : Hp} {φ1 φ2 : List Addr} (hd : H1 D = some o1) (n1 : D ∉ φ1) (A : Adv (upd H0 D z) φ0 (upd H1 D z) φ1) (B : Adv H1 φ1 H2 φ2) : Adv (upd H0 D z) φ0 (upd (upd H2 D o2) D z) φ2 := by
  rw [upd_upd]
  have n2 : D ∉ φ2 := B.nin hd n1
  refine A.trans ⟨fun a o e n => ?_, ?_, fun a e => ?_⟩
  · by_cases q : a = D
    · subst q
      rw [upd_same] at e ⊢
      exact e
    · rw [upd_ne q] at e ⊢
      exact B.keep a o e n
  · obtain ⟨ψ, e, q⟩ := B.pre
    refine ⟨ψ, e, fun a ha => ?_⟩
    have na : a ≠ D := fun z => n2 (by rw [e, ← z]; exact List.mem_append_right _ ha)
    rw [upd_ne na]
    exact q a ha
  · by_cases q : a = D
    · subst q
      rw [upd_same]
      simp
    · rw [upd_ne q] at e ⊢
      exact B.dom a e
theorem ungrow {H0 : Hp} {φ0 : List Addr} {D : Addr} {z : HO} {H1 : Hp} {φ1 : List Addr} (hD : H0 D = none) (A : Adv (upd H0 D z) φ0 (upd H1 D z) φ1) (hd : H1 D ≠ none) : Adv H0 φ0 H1 φ1 := by
  refine ⟨fun a o e n => ?_, ?_, fun a e => ?_⟩
  · have na : a ≠ D := ne_of_none e hD
    have := A.keep a o (by rw [upd_ne na]; exact e) n
    rw [upd_ne na] at this
    exact this
  · obtain ⟨ψ, e, q⟩ := A.pre
    refine ⟨ψ, e, fun a ha => ?_⟩
    have z := q a ha
    by_cases na : a = D
    · rw [na]; exact hD
    · rw [upd_ne na] at z; exact z
  · by_cases na : a = D
    · rw [na]; exact hd
    · have := A.dom a (by rw [upd_ne na]; exact e)
      rw [upd_ne na] at this
      exact this
theorem drop_at {α : Type} {l : List α} {k : Nat} {d : α} {ds : List α} (e2 : l.drop k = d :: ds) : k < l.length ∧ l[k]? = some d ∧ l.drop (k + 1) = ds := by
  refine ⟨?_, ?_, ?_⟩
  · have := congrArg List.length e2
    rw [List.length_drop] at this
    simp at this
    omega
  · have := congrArg (fun l => l[0]?) e2
    simpa using this
  · have := congrArg List.tail e2
    simpa using this
section
variable {K : PySem.W.Frag} {ta tb : WX → TE} {ma mb : WD → ME} {as as' : WX → TA} {ms ms' : WD → MA}
/-! ### one for, as a new cell -/
theorem N_lc {wi : WX → TI} {mi : WD → MI} {g : TG} {mg : MG} {tt : TT} {mt : MT} {te : TE} {me : ME} {vs : List Nat} (i : SI K wi mi) (v : SV K vs g mg) (t : ST K (fun _ => tt) (fun _ => mt)) (e : SE K (fun _ => te) (fun _ => me)) :
    SN K (fun W => tLc (wi W) g tt te vs) (fun W => mLc (mi W) mg mt me vs) := ⟨fun {χ W W' σ H φ ρ M Q Q'} r m w sh f h => by
  refine i.run r m w (fun J I H0 φ0 M0 A0 m0 T st h1 => ?_) h
  obtain ⟨hlen, h1⟩ := h1
  intro D hD
  have h0 : H D = none := by
    cases e : H D with
    | none => rfl
    | some o => exact absurd hD (A0.dom D (by rw [e]; simp))
  have nD : D ∉ φ0 := m0.nin hD
  have hχ : ∀ a ∈ D :: χ, a ∈ χ ∨ H0 a = none := hidden hD
  have AD : Adv H0 φ0 (upd H0 D (.lst [])) φ0 := Adv.new hD
  have inD : D ∈ D :: χ := List.mem_cons_self ..
  let Inv : Nat → Nat → Hp → Prop := fun k j H1 => ∃ φ1 M1 vs1 acc, k + j = I.items.length ∧ Adv (upd H0 D (.lst [])) φ0 (upd H1 D (.lst [])) φ1 ∧ D ∉ φ1 ∧ Mm K H1 φ1 (D :: χ) M1 ∧ Rs K H1 φ1 (D :: χ) σ ρ ∧ I.still M1 ∧ H1 D = some (.lst vs1) ∧ RpL K H1 φ1 (D :: χ) vs1 acc ∧ acc.length ≤ k ∧
    lcL I.still mg mt me vs ρ (I.items.drop k) acc M1 Q'
  refine ⟨Inv, ⟨I.items.length, φ0, M0, [], [], by omega, by rw [upd_upd]; exact Adv.refl, nD, m0.hideN hD, (r.adv A0).hideN hD, st, upd_same, .nil, Nat.le_refl _, by rw [List.drop_zero]; exact h1⟩, ?_⟩
  rintro k j H1 ⟨φ1, M1, vs1, acc, hk, A1, n1, m1, r1, st1, hd1, ra, la, q⟩
  have A01 : Adv H0 φ0 H1 φ1 := ungrow hD A1 (by rw [hd1]; simp)
  obtain ⟨go, stop⟩ := T H1 φ1 M1 (D :: χ) hχ A01.toX m1 st1
  cases e2 : I.items.drop k with
  | nil =>
    have hl : I.items.length ≤ k := by
      have := congrArg List.length e2
      rw [List.length_drop] at this
      simp at this
      omega
    have : k = I.items.length := by omega
    subst this
    rw [e2] at q
    exact .inl ⟨stop, f D (.lst acc) _ φ1 _ (A0.trans A01) h0 n1 (fun c => m0.hid D c hD) m1 ⟨vs1, hd1, ra⟩ q⟩
  | cons d ds =>
    obtain ⟨hl, ed, eds⟩ := drop_at e2
    rw [e2] at q
    obtain ⟨g1, y1⟩ := go k hl
    refine .inr ⟨g1, fun H' => ∃ φ' M' vs' acc', Adv (upd H0 D (.lst [])) φ0 (upd H' D (.lst [])) φ' ∧ D ∉ φ' ∧ Mm K H' φ' (D :: χ) M' ∧ Rs K H' φ' (D :: χ) σ ρ ∧ I.still M' ∧ H' D = some (.lst vs') ∧ RpL K H' φ' (D :: χ) vs' acc' ∧ acc'.length ≤ k + 1 ∧
      lcL I.still mg mt me vs ρ ds acc' M' Q', ?_, ?_⟩
    · rintro H' ⟨φ', M', vs', acc', a1, a2, a3, a4, a5, a6, a7, a8, a9⟩
      exact ⟨j - 1, by omega, φ', M', vs', acc', by omega, a1, a2, a3, a4, a5, a6, a7, a8, by rw [eds]; exact a9⟩
    · intro x H2 y
      obtain ⟨d', hd', A2, m2, rx⟩ := y1 x H2 y
      rw [ed] at hd'
      cases hd'
      refine v.run ((r1.adv A2).wipe vs) m2 rx (fun σ3 H3 φ3 ρ3 M3 A3 r3 m3 e3 h3 => ⟨e3.trans (wipe_wipe vs), ?_⟩) q
      refine t.run (W := W0) r3 m3 FW0 (fun b H4 φ4 M4 A4 m4 h4 => ?_) h3
      have A14 := (A2.trans A3).trans A4
      have hd4 : H4 D = some (.lst vs1) := A14.keep D _ hd1 n1
      have n4 : D ∉ φ4 := A14.nin hd1 n1
      cases b with
      | false =>
        refine iteF ?_
        obtain ⟨s4, q4⟩ := h4
        have sh := grow (χ := χ) (o2 := .lst vs1) hd1 n1 A1 A14
        rw [show upd (upd H4 D (.lst vs1)) D (.lst []) = upd H4 D (.lst []) from upd_upd] at sh
        exact ⟨φ4, M4, vs1, acc, sh, n4, m4, r1.adv A14, s4, hd4, ra.adv A14, by omega, q4⟩
      | true =>
        refine iteT ?_
        refine e.run (W := W0) (r3.adv A4) m4 FW0 (fun u z H5 φ5 M5 A5 m5 r5 h5 => ?_) h4
        obtain ⟨s5, q5⟩ := h5
        have A15 := A14.trans A5
        have hd5 : H5 D = some (.lst vs1) := A15.keep D _ hd1 n1
        have n5 : D ∉ φ5 := A15.nin hd1 n1
        refine ⟨vs1, hd5, ?_, φ5, M5, vs1 ++ [u], acc ++ [z], grow (χ := χ) hd1 n1 A1 A15, n5, m5.updH inD, (r1.adv A15).updH inD, s5, upd_same, ((ra.adv A15).app (.cons r5 .nil)).at_ inD, ?_, q5⟩
        · rw [ra.len, sizeLine_eq]
          omega
        · rw [List.length_append]
          simp
          omega⟩
/-! ### a dict -/
def dcL (still : Mem → Prop) (g : MG) (tt : MT) (tk tv : ME) (vs : List Nat) (ρ : Sl) : List Da → List (Key × Da) → Mem → TK → Prop
  | [], acc, M, Q => Q (.dct acc) M
  | d :: ds, acc, M, Q => g d (wipeD ρ vs) M fun ρ2 M2 => tt ρ2 M2 fun b M3 => if b = true then tk ρ2 M3 fun y M4 => tv ρ2 M4 fun z M5 => ∃ k, keyD y = some k ∧ still M5 ∧ dcL still g tt tk tv vs ρ ds (putD acc k z) M5 Q else still M3 ∧ dcL still g tt tk tv vs ρ ds acc M3 Q
def mDc (mi : MI) (g : MG) (tt : MT) (tk tv : ME) (vs : List Nat) : ME := fun ρ M Q => mi ρ M fun I M1 => I.items.length ≤ 1000000 ∧ dcL I.still g tt tk tv vs ρ I.items [] M1 Q
theorem putD_len1 (kds : List (Key × Da)) (k : Key) (d : Da) : (putD kds k d).length ≤ kds.length + 1 := by
  unfold putD
  split
  · rw [List.length_map]; omega
  · rw [List.length_append]; simp
theorem E_dc {wi : WX → TI} {mi : WD → MI} {g : TG} {mg : MG} {tt : TT} {mt : MT} {tk tv : TE} {mk mv : ME} {vs : List Nat} (i : SI K wi mi) (v : SV K vs g mg) (t : ST K (fun _ => tt) (fun _ => mt)) (ek : SE K (fun _ => tk) (fun _ => mk)) (ev : SE K (fun _ => tv) (fun _ => mv)) :
    SE K (fun W => tDc (wi W) g tt tk tv vs) (fun W => mDc (mi W) mg mt mk mv vs) := ⟨fun {χ W W' σ H φ ρ M Q Q'} r m w f h => by
  refine i.run r m w (fun J I H0 φ0 M0 A0 m0 T st h1 => ?_) h
  obtain ⟨hlen, h1⟩ := h1
  intro D hD
  have nD : D ∉ φ0 := m0.nin hD
  have hχ : ∀ a ∈ D :: χ, a ∈ χ ∨ H0 a = none := hidden hD
  have AD : Adv H0 φ0 (upd H0 D (.dK [])) φ0 := Adv.new hD
  have inD : D ∈ D :: χ := List.mem_cons_self ..
  let Inv : Nat → Nat → Hp → Prop := fun k j H1 => ∃ φ1 M1 vs1 acc, k + j = I.items.length ∧ Adv (upd H0 D (.dK [])) φ0 (upd H1 D (.dK [])) φ1 ∧ D ∉ φ1 ∧ Mm K H1 φ1 (D :: χ) M1 ∧ Rs K H1 φ1 (D :: χ) σ ρ ∧ I.still M1 ∧ H1 D = some (.dK vs1) ∧ RpK K H1 φ1 (D :: χ) vs1 acc ∧ acc.length ≤ k ∧
    dcL I.still mg mt mk mv vs ρ (I.items.drop k) acc M1 Q'
  refine ⟨Inv, ⟨I.items.length, φ0, M0, [], [], by omega, by rw [upd_upd]; exact Adv.refl, nD, m0.hideN hD, (r.adv A0).hideN hD, st, upd_same, .nil, Nat.le_refl _, by rw [List.drop_zero]; exact h1⟩, ?_⟩
  rintro k j H1 ⟨φ1, M1, vs1, acc, hk, A1, n1, m1, r1, st1, hd1, ra, la, q⟩
  have A01 : Adv H0 φ0 H1 φ1 := ungrow hD A1 (by rw [hd1]; simp)
  obtain ⟨go, stop⟩ := T H1 φ1 M1 (D :: χ) hχ A01.toX m1 st1
  cases e2 : I.items.drop k with
  | nil =>
    have hl : I.items.length ≤ k := by
      have := congrArg List.length e2
      rw [List.length_drop] at this
      simp at this
      omega
    have : k = I.items.length := by omega
    subst this
    rw [e2] at q
    exact .inl ⟨stop, f _ _ _ φ1 _ (A0.trans A01) m1.bare (.dct hd1 rfl n1 (fun c => m0.hid D c hD) ra.bare) q⟩
  | cons d ds =>
    obtain ⟨hl, ed, eds⟩ := drop_at e2
    rw [e2] at q
    obtain ⟨g1, y1⟩ := go k hl
    refine .inr ⟨g1, fun H' => ∃ φ' M' vs' acc', Adv (upd H0 D (.dK [])) φ0 (upd H' D (.dK [])) φ' ∧ D ∉ φ' ∧ Mm K H' φ' (D :: χ) M' ∧ Rs K H' φ' (D :: χ) σ ρ ∧ I.still M' ∧ H' D = some (.dK vs') ∧ RpK K H' φ' (D :: χ) vs' acc' ∧ acc'.length ≤ k + 1 ∧
      dcL I.still mg mt mk mv vs ρ ds acc' M' Q', ?_, ?_⟩
    · rintro H' ⟨φ', M', vs', acc', a1, a2, a3, a4, a5, a6, a7, a8, a9⟩
      exact ⟨j - 1, by omega, φ', M', vs', acc', by omega, a1, a2, a3, a4, a5, a6, a7, a8, by rw [eds]; exact a9⟩
    · intro x H2 y
      obtain ⟨d', hd', A2, m2, rx⟩ := y1 x H2 y
      rw [ed] at hd'
      cases hd'
      refine v.run ((r1.adv A2).wipe vs) m2 rx (fun σ3 H3 φ3 ρ3 M3 A3 r3 m3 e3 h3 => ⟨e3.trans (wipe_wipe vs), ?_⟩) q
      refine t.run (W := W0) r3 m3 FW0 (fun b H4 φ4 M4 A4 m4 h4 => ?_) h3
      have A14 := (A2.trans A3).trans A4
      have hd4 : H4 D = some (.dK vs1) := A14.keep D _ hd1 n1
      have n4 : D ∉ φ4 := A14.nin hd1 n1
      cases b with
      | false =>
        refine iteF ?_
        obtain ⟨s4, q4⟩ := h4
        have sh := grow (χ := χ) (o2 := .dK vs1) hd1 n1 A1 A14
        rw [show upd (upd H4 D (.dK vs1)) D (.dK []) = upd H4 D (.dK []) from upd_upd] at sh
        exact ⟨φ4, M4, vs1, acc, sh, n4, m4, r1.adv A14, s4, hd4, ra.adv A14, by omega, q4⟩
      | true =>
        refine iteT ?_
        refine ek.run (W := W0) (r3.adv A4) m4 FW0 (fun u z H5 φ5 M5 A5 m5 r5 h5 => ?_) h4
        refine ev.run (W := W0) (r3.adv (A4.trans A5)) m5 FW0 (fun u2 z2 H6 φ6 M6 A6 m6 r6 h6 => ?_) h5
        obtain ⟨kk, ekk, s6, q6⟩ := h6
        have A16 := (A14.trans A5).trans A6
        have hd6 : H6 D = some (.dK vs1) := A16.keep D _ hd1 n1
        have n6 : D ∉ φ6 := A16.nin hd1 n1
        refine ⟨vs1, kk, keyD_of r5 ekk, hd6, ?_, φ6, M6, putK vs1 kk u2, putD acc kk z2, grow (χ := χ) hd1 n1 A1 A16, n6, m6.updH inD, (r1.adv A16).updH inD, s6, upd_same, ((ra.adv A16).put r6).at_ inD, ?_, q6⟩
        · rw [ra.len, sizeLine_eq]
          omega
        · have := putD_len1 acc kk z2
          omega⟩
end
end Z

/-! T13: two fors; enumerate of lists and tuples -/
namespace Z
open PySem PySem.Spec PyProof.Rows L2 Evl
def lcIn (still : Mem → Prop) (g : MG) (tt : MT) (te : ME) (vs : List Nat) (ρ : Sl) (C : List Da → Mem → Prop) : List Da → List Da → Mem → Prop
  | [], acc, M => C acc M
  | d :: ds, acc, M => g d (wipeD ρ vs) M fun ρ2 M2 => tt ρ2 M2 fun b M3 => if b = true then te ρ2 M3 fun y M4 => acc.length ≤ 1000000 ∧ still M4 ∧ lcIn still g tt te vs ρ C ds (acc ++ [y]) M4 else still M3 ∧ lcIn still g tt te vs ρ C ds acc M3
def lcL2 (still : Mem → Prop) (g : MG) (tt : MT) (mi : MI) (g1 : MG) (tt1 : MT) (te : ME) (vs vs1 : List Nat) (ρ : Sl) : List Da → List Da → Mem → TK → Prop
  | [], acc, M, Q => Q (.lst acc) M
  | d :: ds, acc, M, Q => g d (wipeD ρ vs) M fun ρ2 M2 => tt ρ2 M2 fun b M3 => if b = true then mi ρ2 M3 fun I1 M4 => lcIn I1.still g1 tt1 te vs1 ρ2 (fun acc' M5 => still M5 ∧ lcL2 still g tt mi g1 tt1 te vs vs1 ρ ds acc' M5 Q) I1.items acc M4
      else still M3 ∧ lcL2 still g tt mi g1 tt1 te vs vs1 ρ ds acc M3 Q
def mLc2 (mi : MI) (g : MG) (tt : MT) (mi1 : MI) (g1 : MG) (tt1 : MT) (te : ME) (vs vs1 : List Nat) : ME := fun ρ M Q => mi ρ M fun I M1 => lcL2 I.still g tt mi1 g1 tt1 te vs vs1 ρ I.items [] M1 Q
section
variable {K : PySem.W.Frag} {as : WX → TA} {ms : WD → MA}
theorem lc2_run {wi : WX → TI} {mi : WD → MI} {g : TG} {mg : MG} {tt : TT} {mt : MT} {wi1 : TI} {mi1 : MI} {g1 : TG} {mg1 : MG} {tt1 : TT} {mt1 : MT} {te : TE} {me : ME} {vs vs1 : List Nat} (i : SI K wi mi) (v : SV K vs g mg) (t : ST K (fun _ => tt) (fun _ => mt))
    (i1 : SI K (fun _ => wi1) (fun _ => mi1)) (v1 : SV K vs1 g1 mg1) (t1 : ST K (fun _ => tt1) (fun _ => mt1)) (e : SE K (fun _ => te) (fun _ => me))
    {χ : List Addr} {W : WX} {W' : WD} {σ : L2.St} {H : Hp} {φ : List Addr} {ρ : Sl} {M : Mem} {Q : VK} {Q' : TK} (r : Rs K H φ χ σ ρ) (m : Mm K H φ χ M) (w : FW K χ H φ W' W)
    (f : ∀ D vs2 acc H' φ' M', Adv H φ H' φ' → H D = none → D ∉ φ' → D ∉ χ → Mm K H' φ' (D :: χ) M' → H' D = some (.lst vs2) → RpL K H' φ' (D :: χ) vs2 acc → Q' (.lst acc) M' → Q (.ref D) H')
    (h : mLc2 (mi W') mg mt mi1 mg1 mt1 me vs vs1 ρ M Q') : tLc2 (wi W) g tt wi1 g1 tt1 te vs vs1 σ H Q := by
  refine i.run r m w (fun J I H0 φ0 M0 A0 m0 T st h1 => ?_) h
  intro D hD
  have h0 : H D = none := by
    cases e : H D with
    | none => rfl
    | some o => exact absurd hD (A0.dom D (by rw [e]; simp))
  have nD : D ∉ φ0 := m0.nin hD
  have hχ : ∀ a ∈ D :: χ, a ∈ χ ∨ H0 a = none := hidden hD
  have inD : D ∈ D :: χ := List.mem_cons_self ..
  let Inv : Nat → Nat → Hp → Prop := fun k j H1 => ∃ φ1 M1 vs2 acc, k + j = I.items.length ∧ Adv (upd H0 D (.lst [])) φ0 (upd H1 D (.lst [])) φ1 ∧ D ∉ φ1 ∧ Mm K H1 φ1 (D :: χ) M1 ∧ Rs K H1 φ1 (D :: χ) σ ρ ∧ I.still M1 ∧ H1 D = some (.lst vs2) ∧ RpL K H1 φ1 (D :: χ) vs2 acc ∧
    lcL2 I.still mg mt mi1 mg1 mt1 me vs vs1 ρ (I.items.drop k) acc M1 Q'
  refine ⟨Inv, ⟨I.items.length, φ0, M0, [], [], by omega, by rw [upd_upd]; exact Adv.refl, nD, m0.hideN hD, (r.adv A0).hideN hD, st, upd_same, .nil, by rw [List.drop_zero]; exact h1⟩, ?_⟩
  rintro k j H1 ⟨φ1, M1, vs2, acc, hk, A1, n1, m1, r1, st1, hd1, ra, q⟩
  have A01 : Adv H0 φ0 H1 φ1 := ungrow hD A1 (by rw [hd1]; simp)
  obtain ⟨go, stop⟩ := T H1 φ1 M1 (D :: χ) hχ A01.toX m1 st1
  cases e2 : I.items.drop k with
  | nil =>
    have hl : I.items.length ≤ k := by
      have := congrArg List.length e2
      rw [List.length_drop] at this
      simp at this
      omega
    have : k = I.items.length := by omega
    subst this
    rw [e2] at q
    exact .inl ⟨stop, f D vs2 acc _ φ1 _ (A0.trans A01) h0 n1 (fun c => m0.hid D c hD) m1 hd1 ra q⟩
  | cons d ds =>
    obtain ⟨hl, ed, eds⟩ := drop_at e2
    rw [e2] at q
    obtain ⟨g1', y1⟩ := go k hl
    let Nx : Hp → Prop := fun H' => ∃ φ' M' vs' acc', Adv (upd H0 D (.lst [])) φ0 (upd H' D (.lst [])) φ' ∧ D ∉ φ' ∧ Mm K H' φ' (D :: χ) M' ∧ Rs K H' φ' (D :: χ) σ ρ ∧ I.still M' ∧ H' D = some (.lst vs') ∧ RpL K H' φ' (D :: χ) vs' acc' ∧
      lcL2 I.still mg mt mi1 mg1 mt1 me vs vs1 ρ ds acc' M' Q'
    refine .inr ⟨g1', Nx, ?_, ?_⟩
    · rintro H' ⟨φ', M', vs', acc', a1, a2, a3, a4, a5, a6, a7, a9⟩
      exact ⟨j - 1, by omega, φ', M', vs', acc', by omega, a1, a2, a3, a4, a5, a6, a7, by rw [eds]; exact a9⟩
    · intro x H2 y
      obtain ⟨d', hd', A2, m2, rx⟩ := y1 x H2 y
      rw [ed] at hd'
      cases hd'
      refine v.run ((r1.adv A2).wipe vs) m2 rx (fun σ3 H3 φ3 ρ3 M3 A3 r3 m3 e3 h3 => ⟨e3.trans (wipe_wipe vs), ?_⟩) q
      refine t.run (W := W0) r3 m3 FW0 (fun b H4 φ4 M4 A4 m4 h4 => ?_) h3
      have A14 := (A2.trans A3).trans A4
      have hd4 : H4 D = some (.lst vs2) := A14.keep D _ hd1 n1
      have n4 : D ∉ φ4 := A14.nin hd1 n1
      cases b with
      | false =>
        refine iteF ?_
        obtain ⟨s4, q4⟩ := h4
        have sh := grow (χ := χ) (o2 := .lst vs2) hd1 n1 A1 A14
        rw [show upd (upd H4 D (.lst vs2)) D (.lst []) = upd H4 D (.lst []) from upd_upd] at sh
        exact ⟨φ4, M4, vs2, acc, sh, n4, m4, r1.adv A14, s4, hd4, ra.adv A14, q4⟩
      | true =>
        refine iteT ?_
        refine i1.run (W := W0) (r3.adv A4) m4 FW0 (fun J1 I1 H5 φ5 M5 A5 m5 T1 st5 h5 => ?_) h4
        have A15 := A14.trans A5
        have hd5 : H5 D = some (.lst vs2) := A15.keep D _ hd1 n1
        have n5 : D ∉ φ5 := A15.nin hd1 n1
        have r35 := r3.adv (A4.trans A5)
        let Inv1 : Nat → Nat → Hp → Prop := fun k1 j1 H6 => ∃ φ6 M6 vs3 acc3, k1 + j1 = I1.items.length ∧ Adv (upd H5 D (.lst [])) φ5 (upd H6 D (.lst [])) φ6 ∧ D ∉ φ6 ∧ Mm K H6 φ6 (D :: χ) M6 ∧ Rs K H6 φ6 (D :: χ) σ ρ ∧ Rs K H6 φ6 (D :: χ) σ3 ρ3 ∧ I1.still M6 ∧ H6 D = some (.lst vs3) ∧ RpL K H6 φ6 (D :: χ) vs3 acc3 ∧
          Adv (upd H0 D (.lst [])) φ0 (upd H6 D (.lst [])) φ6 ∧
          lcIn I1.still mg1 mt1 me vs1 ρ3 (fun acc' M5 => I.still M5 ∧ lcL2 I.still mg mt mi1 mg1 mt1 me vs vs1 ρ ds acc' M5 Q') (I1.items.drop k1) acc3 M6
        have sh5 := grow (χ := χ) (o2 := .lst []) hd1 n1 A1 A15
        rw [show upd (upd H5 D (.lst [])) D (.lst []) = upd H5 D (.lst []) from upd_upd] at sh5
        refine ⟨Inv1, ⟨I1.items.length, φ5, M5, vs2, acc, by omega, Adv.refl, n5, m5, r1.adv A15, r35, st5, hd5, ra.adv A15, sh5, by rw [List.drop_zero]; exact h5⟩, ?_⟩
        rintro k1 j1 H6 ⟨φ6, M6, vs3, acc3, hk1, A6, n6, m6, r6, r63, st6, hd6, ra6, sh6, q6⟩
        have X6 : AdvX (D :: χ) H5 φ5 H6 φ6 := by
          refine ⟨fun a o ea na nx => ?_, ?_⟩
          · have ne : a ≠ D := fun z => nx (by rw [z]; exact inD)
            have := A6.keep a o (by rw [upd_ne ne]; exact ea) na
            rw [upd_ne ne] at this
            exact this
          · obtain ⟨ψ, eψ, zz⟩ := A6.pre
            refine ⟨ψ, eψ, fun a ha => ?_⟩
            have na : a ≠ D := fun z => n6 (by rw [eψ, ← z]; exact List.mem_append_right _ ha)
            have := zz a ha
            rw [upd_ne na] at this
            exact this
        obtain ⟨go1, stop1⟩ := T1 H6 φ6 M6 (D :: χ) (fun a ha => .inl ha) X6 m6 st6
        cases e7 : I1.items.drop k1 with
        | nil =>
          have hl1 : I1.items.length ≤ k1 := by
            have := congrArg List.length e7
            rw [List.length_drop] at this
            simp at this
            omega
          have : k1 = I1.items.length := by omega
          subst this
          rw [e7] at q6
          obtain ⟨s7, q7⟩ := q6
          exact .inl ⟨stop1, φ6, M6, vs3, acc3, sh6, n6, m6, r6, s7, hd6, ra6, q7⟩
        | cons d1 ds1 =>
          obtain ⟨hl1, ed1, eds1⟩ := drop_at e7
          rw [e7] at q6
          obtain ⟨g2, y2⟩ := go1 k1 hl1
          refine .inr ⟨g2, fun H' => ∃ φ' M' vs' acc', Adv (upd H5 D (.lst [])) φ5 (upd H' D (.lst [])) φ' ∧ D ∉ φ' ∧ Mm K H' φ' (D :: χ) M' ∧ Rs K H' φ' (D :: χ) σ ρ ∧ Rs K H' φ' (D :: χ) σ3 ρ3 ∧ I1.still M' ∧ H' D = some (.lst vs') ∧ RpL K H' φ' (D :: χ) vs' acc' ∧
            Adv (upd H0 D (.lst [])) φ0 (upd H' D (.lst [])) φ' ∧ lcIn I1.still mg1 mt1 me vs1 ρ3 (fun acc' M5 => I.still M5 ∧ lcL2 I.still mg mt mi1 mg1 mt1 me vs vs1 ρ ds acc' M5 Q') ds1 acc' M', ?_, ?_⟩
          · rintro H' ⟨φ', M', vs', acc', a1, a2, a3, a4, a5, a6, a7, a8, a9, b1⟩
            exact ⟨j1 - 1, by omega, φ', M', vs', acc', by omega, a1, a2, a3, a4, a5, a6, a7, a8, a9, by rw [eds1]; exact b1⟩
          · intro x1 H7 y7
            obtain ⟨d1', hd1', A7, m7, rx7⟩ := y2 x1 H7 y7
            rw [ed1] at hd1'
            cases hd1'
            refine v1.run ((r63.adv A7).wipe vs1) m7 rx7 (fun σ8 H8 φ8 ρ8 M8 A8 r8 m8 e8 h8 => ⟨e8.trans (wipe_wipe vs1), ?_⟩) q6
            refine t1.run (W := W0) r8 m8 FW0 (fun b H9 φ9 M9 A9 m9 h9 => ?_) h8
            have A69 := (A7.trans A8).trans A9
            have hd9 : H9 D = some (.lst vs3) := A69.keep D _ hd6 n6
            have n9 : D ∉ φ9 := A69.nin hd6 n6
            cases b with
            | false =>
              refine iteF ?_
              obtain ⟨s9, q9⟩ := h9
              have a := grow (χ := χ) (o2 := .lst vs3) hd6 n6 A6 A69
              have b := grow (χ := χ) (o2 := .lst vs3) hd6 n6 sh6 A69
              rw [show upd (upd H9 D (.lst vs3)) D (.lst []) = upd H9 D (.lst []) from upd_upd] at a b
              exact ⟨φ9, M9, vs3, acc3, a, n9, m9, r6.adv A69, r63.adv A69, s9, hd9, ra6.adv A69, b, q9⟩
            | true =>
              refine iteT ?_
              refine e.run (W := W0) (r8.adv A9) m9 FW0 (fun u z Ha φa Ma Aa ma ra' ha => ?_) h9
              obtain ⟨la, sa, qa⟩ := ha
              have A6a := A69.trans Aa
              have hda : Ha D = some (.lst vs3) := A6a.keep D _ hd6 n6
              have na : D ∉ φa := A6a.nin hd6 n6
              refine ⟨vs3, hda, ?_, φa, Ma, vs3 ++ [u], acc3 ++ [z], grow (χ := χ) hd6 n6 A6 A6a, na, ma.updH inD, (r6.adv A6a).updH inD, (r63.adv A6a).updH inD, sa, upd_same, ((ra6.adv A6a).app (.cons ra' .nil)).at_ inD, grow (χ := χ) hd6 n6 sh6 A6a, qa⟩
              rw [ra6.len, sizeLine_eq]
              omega
theorem E_lc2 {wi : WX → TI} {mi : WD → MI} {g : TG} {mg : MG} {tt : TT} {mt : MT} {wi1 : TI} {mi1 : MI} {g1 : TG} {mg1 : MG} {tt1 : TT} {mt1 : MT} {te : TE} {me : ME} {vs vs1 : List Nat} (i : SI K wi mi) (v : SV K vs g mg) (t : ST K (fun _ => tt) (fun _ => mt))
    (i1 : SI K (fun _ => wi1) (fun _ => mi1)) (v1 : SV K vs1 g1 mg1) (t1 : ST K (fun _ => tt1) (fun _ => mt1)) (e : SE K (fun _ => te) (fun _ => me)) : SE K (fun W => tLc2 (wi W) g tt wi1 g1 tt1 te vs vs1) (fun W => mLc2 (mi W) mg mt mi1 mg1 mt1 me vs vs1) := ⟨fun r m w fe h =>
  lc2_run i v t i1 v1 t1 e r m w (fun D vs2 acc H' φ' M' A hD nD nx m' hd ra q => fe _ _ _ φ' _ A m'.bare (.lst hd nD nx ra.bare) q) h⟩
theorem N_lc2 {wi : WX → TI} {mi : WD → MI} {g : TG} {mg : MG} {tt : TT} {mt : MT} {wi1 : TI} {mi1 : MI} {g1 : TG} {mg1 : MG} {tt1 : TT} {mt1 : MT} {te : TE} {me : ME} {vs vs1 : List Nat} (i : SI K wi mi) (v : SV K vs g mg) (t : ST K (fun _ => tt) (fun _ => mt))
    (i1 : SI K (fun _ => wi1) (fun _ => mi1)) (v1 : SV K vs1 g1 mg1) (t1 : ST K (fun _ => tt1) (fun _ => mt1)) (e : SE K (fun _ => te) (fun _ => me)) : SN K (fun W => tLc2 (wi W) g tt wi1 g1 tt1 te vs vs1) (fun W => mLc2 (mi W) mg mt mi1 mg1 mt1 me vs vs1) := ⟨fun r m w sh f h =>
  lc2_run i v t i1 v1 t1 e r m w (fun D vs2 acc H' φ' M' A hD nD nx m' hd ra q => f D (.lst acc) _ φ' _ A hD nD nx m' ⟨vs2, hd, ra⟩ q) h⟩
/-! enumerate of a list or a tuple -/
def iEnumA (K : PySem.W.Frag) (ta : TA) : TI := fun σ H R => ta σ H fun vs H1 => ∃ a xs, vs = [.ref a] ∧ ((SqL K H1 a xs ∧ R (Ite K a) H1) ∨ (SqT K H1 a xs ∧ R (IteT K a) H1))
theorem pi_enumA {X : Cx} {e : Expr} {ta : TA} {p pos tpos : Pos} {elts : List Expr} {kk : Nat} (hg : Gl X "enumerate") (hm : X.mg "enumerate" = none) (ha : PA X [e] ta) (hs : starEach [e] X.env = [(false, eval e X.env)] := by rfl) :
    PI X (.Tuple elts kk tpos) (.Call (.Name "enumerate" p) [e] [] pos) (iEnumA X.K ta) := by
  refine ⟨fun pins s σ H R I h => ?_⟩
  refine Call_ (ld_blt I hg hm boot_enumerate (PyProof.Rows.callWith_type1 (thn (ha.run pos pins s σ H _ I h) fun us s1 ⟨vs, H1, I1, r1, q1⟩ => ?_) hs rfl))
  obtain ⟨a, xs, ex, q1⟩ := q1
  subst ex
  cases r1 with
  | cons r rr =>
    cases rr
    cases r
    rcases q1 with ⟨hq, q⟩ | ⟨hq, q⟩
    · exact enum_list I1 hq q
    · exact enum_tup I1 hq q
def mEnumA (s : MA) : MI := fun ρ M R => s ρ M fun xs M1 => match xs with
  | [x] => match look M1 x with
    | .lst ds => R ⟨enuD ds, fun M2 => look M2 x = .lst ds⟩ M1
    | .tup ds => R ⟨enuD ds, fun M2 => look M2 x = .tup ds⟩ M1
    | _ => False
  | _ => False
theorem I_enumA (s : SA K as ms) : SI K (fun W => iEnumA K (as W)) (fun W => mEnumA (ms W)) := ⟨fun {χ W W' σ H φ ρ M R R'} r m w f h => by
  refine s.run r m w (fun vs xs H1 φ1 M1 A1 m1 r1 h1 => ?_) h
  split at h1
  · rename_i x
    obtain ⟨v, rfl, hv⟩ := r1.one
    split at h1
    · rename_i ds e
      obtain ⟨a, vs, rfl, hs, rl⟩ := vL m1 hv e
      refine ⟨a, vs, rfl, .inl ⟨hs, f _ _ _ _ _ A1 m1 ?_ e h1⟩⟩
      intro H φ M χ1 hχ A m st
      have hv2 := Rp.at1 hχ A hv
      obtain ⟨b, ws, eb, hs2, rl2⟩ := vL m hv2 st
      cases eb
      refine ⟨fun i hi => ?_, ⟨ws, hs2, by show _ ≤ (enuD ds).length; rw [enuD_len, rl2.len]; exact Nat.le_refl _⟩⟩
      have hi : i < ds.length := by rw [← enuD_len]; exact hi
      obtain ⟨y, hy, ry⟩ := rl2.get (i := i) (d := ds[i]) (by simp [hi])
      refine ⟨⟨ws, y, hs2, hy⟩, ?_⟩
      rintro u H' ⟨T, z, rfl, hT, rfl, hz⟩
      have ez : z = y := Option.some.inj ((hz ws hs2).symm.trans hy)
      subst ez
      refine ⟨_, enuD_at (List.getElem?_eq_getElem hi), Adv.new hT, m.new hT, ?_⟩
      exact .tup upd_same (m.nin hT) (fun c => m.hid T c hT) (.cons (.int _) (.cons (ry.adv (Adv.new hT)) .nil))
    · rename_i ds e
      obtain ⟨a, vs, rfl, hs, rl⟩ := vT m1 hv e
      refine ⟨a, vs, rfl, .inr ⟨hs, f _ _ _ _ _ A1 m1 ?_ e h1⟩⟩
      intro H φ M χ1 hχ A m st
      have hv2 := Rp.at1 hχ A hv
      obtain ⟨b, ws, eb, hs2, rl2⟩ := vT m hv2 st
      cases eb
      refine ⟨fun i hi => ?_, ⟨ws, hs2, by show _ ≤ (enuD ds).length; rw [enuD_len, rl2.len]; exact Nat.le_refl _⟩⟩
      have hi : i < ds.length := by rw [← enuD_len]; exact hi
      obtain ⟨y, hy, ry⟩ := rl2.get (i := i) (d := ds[i]) (by simp [hi])
      refine ⟨⟨ws, y, hs2, hy⟩, ?_⟩
      rintro u H' ⟨T, z, rfl, hT, rfl, hz⟩
      have ez : z = y := Option.some.inj ((hz ws hs2).symm.trans hy)
      subst ez
      refine ⟨_, enuD_at (List.getElem?_eq_getElem hi), Adv.new hT, m.new hT, ?_⟩
      exact .tup upd_same (m.nin hT) (fun c => m.hid T c hT) (.cons (.int _) (.cons (ry.adv (Adv.new hT)) .nil))
    · exact h1.elim
  · exact h1.elim⟩
end
end Z

/-! T14: == and != of data with dicts and cells within; instances compared with other things -/
namespace Z
open PySem PySem.Spec PyProof.Rows L2 Evl
mutual
/-- plain, dicts too -/
def plE : Da → Bool
  | .non => true
  | .bl _ => true
  | .int _ => true
  | .str _ => true
  | .tup ds => plEL ds
  | .lst ds => plEL ds
  | .dct ks => plEK ks && decide ((ks.map (·.1)).Nodup)
  | _ => false
def plEL : List Da → Bool
  | [] => true
  | d :: ds => plE d && plEL ds
def plEK : List (Key × Da) → Bool
  | [] => true
  | (_, d) :: ds => plE d && plEK ds
end
mutual
def dpE : Da → Nat
  | .tup ds => dpEL ds + 1
  | .lst ds => dpEL ds + 1
  | .dct ks => dpEK ks + 1
  | _ => 0
def dpEL : List Da → Nat
  | [] => 0
  | d :: ds => max (dpE d) (dpEL ds)
def dpEK : List (Key × Da) → Nat
  | [] => 0
  | (_, d) :: ds => max (dpE d) (dpEK ds)
end
mutual
/-- ==, where it is known: a dict is compared with dicts alone -/
def eqE : Da → Da → Option Bool
  | .tup a, .tup b => eqEL a b
  | .lst a, .lst b => if a.length = b.length then eqEL a b else some false
  | .dct a, .dct b => if a.length = b.length then eqEK b a else some false
  | .dct _, _ => none
  | _, .dct _ => none
  | .non, y => some (eqD .non y)
  | .bl a, y => some (eqD (.bl a) y)
  | .int a, y => some (eqD (.int a) y)
  | .str a, y => some (eqD (.str a) y)
  | .tup a, y => some (eqD (.tup a) y)
  | .lst a, y => some (eqD (.lst a) y)
  | _, _ => none
def eqEL : List Da → List Da → Option Bool
  | [], [] => some true
  | x :: xs, y :: ys => match eqE x y, eqEL xs ys with
    | some p, some q => some (p && q)
    | _, _ => none
  | _, _ => some false
def eqEK (ls : List (Key × Da)) : List (Key × Da) → Option Bool
  | [] => some true
  | (k, d) :: r => match valD ls k with
    | none => some false
    | some e => match eqE d e, eqEK ls r with
      | some p, some q => some (p && q)
      | _, _ => none
end
section
variable {K : PySem.W.Frag} {χ φ : List Addr} {H : Hp}
mutual
theorem Rp.detE : ∀ {x y : Da} {v : V}, plE x = true → plE y = true → Rp K H φ χ v x → Rp K H φ χ v y → x = y
  | .non, y, v, _, py, hx, hy => by cases hx; cases hy <;> first | rfl | cases py
  | .bl b, y, v, _, py, hx, hy => by cases hx; cases hy <;> first | rfl | cases py
  | .int b, y, v, _, py, hx, hy => by cases hx; cases hy <;> first | rfl | cases py
  | .str b, y, v, _, py, hx, hy => by cases hx; cases hy <;> first | rfl | cases py
  | .tup ds, y, v, px, py, hx, hy => by
    cases hx with
    | tup h1 n1 m1 r1 =>
      cases hy with
      | tup h2 n2 m2 r2 =>
        rw [h1] at h2
        cases h2
        unfold plE at px py
        rw [RpL.detE px py r1 r2]
      | lst h2 n2 m2 r2 => rw [h1] at h2; cases h2
      | dct h2 c2 n2 m2 r2 => rw [h1] at h2; cases h2; cases c2
      | _ => cases py
  | .lst ds, y, v, px, py, hx, hy => by
    cases hx with
    | lst h1 n1 m1 r1 =>
      cases hy with
      | lst h2 n2 m2 r2 =>
        rw [h1] at h2
        cases h2
        unfold plE at px py
        rw [RpL.detE px py r1 r2]
      | tup h2 n2 m2 r2 => rw [h1] at h2; cases h2
      | dct h2 c2 n2 m2 r2 => rw [h1] at h2; cases h2; cases c2
      | _ => cases py
  | .dct ds, y, v, px, py, hx, hy => by
    cases hx with
    | dct h1 c1 n1 m1 r1 =>
      cases hy with
      | dct h2 c2 n2 m2 r2 =>
        rw [h1] at h2
        cases h2
        rw [c1] at c2
        cases c2
        unfold plE at px py
        rw [Bool.and_eq_true] at px py
        rw [RpK.detE px.1 py.1 r1 r2]
      | tup h2 n2 m2 r2 => rw [h1] at h2; cases h2; cases c1
      | lst h2 n2 m2 r2 => rw [h1] at h2; cases h2; cases c1
      | _ => cases py
  | .ty _, _, _, px, _, _, _ => by cases px
  | .gl _, _, _, px, _, _, _ => by cases px
  | .obj _ _, _, _, px, _, _, _ => by cases px
  | .kl _, _, _, px, _, _, _ => by cases px
  | .kt _, _, _, px, _, _, _ => by cases px
  | .cell _, _, _, px, _, _, _ => by cases px
  | .exv _ _ _ _, _, _, px, _, _, _ => by cases px
theorem RpL.detE : ∀ {xs ys : List Da} {vs : List V}, plEL xs = true → plEL ys = true → RpL K H φ χ vs xs → RpL K H φ χ vs ys → xs = ys
  | [], ys, vs, _, _, hx, hy => by cases hx; cases hy; rfl
  | x :: xs, ys, vs, px, py, hx, hy => by
    cases hx with
    | cons h1 r1 =>
      cases hy with
      | cons h2 r2 =>
        unfold plEL at px py
        rw [Bool.and_eq_true] at px py
        rw [Rp.detE px.1 py.1 h1 h2, RpL.detE px.2 py.2 r1 r2]
theorem RpK.detE : ∀ {xs ys : List (Key × Da)} {vs : List (Key × V)}, plEK xs = true → plEK ys = true → RpK K H φ χ vs xs → RpK K H φ χ vs ys → xs = ys
  | [], ys, vs, _, _, hx, hy => by cases hx; cases hy; rfl
  | (k, x) :: xs, ys, vs, px, py, hx, hy => by
    cases hx with
    | cons h1 r1 =>
      cases hy with
      | cons h2 r2 =>
        unfold plEK at px py
        rw [Bool.and_eq_true] at px py
        rw [Rp.detE px.1 py.1 h1 h2, RpK.detE px.2 py.2 r1 r2]
end
theorem valD_nd {ks : List (Key × Da)} (nd : (ks.map (·.1)).Nodup) : ∀ p ∈ ks, valD ks p.1 = some p.2 := by
  induction ks with
  | nil => intro p h; cases h
  | cons q r ih =>
    obtain ⟨k, d⟩ := q
    rw [List.map_cons, List.nodup_cons] at nd
    intro p hp
    unfold valD
    rw [List.find?_cons]
    rcases List.mem_cons.1 hp with rfl | hp
    · simp
    · have ne : k ≠ p.1 := fun e => nd.1 (by rw [e]; exact List.mem_map.2 ⟨p, hp, rfl⟩)
      rw [decide_eq_false ne]
      exact ih nd.2 p hp
mutual
theorem eqE_refl : ∀ {x : Da}, plE x = true → eqE x x = some true
  | .non, _ => rfl
  | .bl b, _ => by unfold eqE; simp [eqD]
  | .int b, _ => by unfold eqE; simp [eqD]
  | .str b, _ => by unfold eqE; simp [eqD]
  | .tup ds, p => by unfold plE at p; unfold eqE; exact eqEL_refl p
  | .lst ds, p => by unfold plE at p; unfold eqE; rw [if_pos rfl]; exact eqEL_refl p
  | .dct ks, p => by
    unfold plE at p
    rw [Bool.and_eq_true, decide_eq_true_eq] at p
    unfold eqE
    rw [if_pos rfl]
    exact eqEK_refl p.1 (valD_nd p.2)
  | .ty _, p => by cases p
  | .gl _, p => by cases p
  | .obj _ _, p => by cases p
  | .kl _, p => by cases p
  | .kt _, p => by cases p
  | .cell _, p => by cases p
  | .exv _ _ _ _, p => by cases p
theorem eqEL_refl : ∀ {xs : List Da}, plEL xs = true → eqEL xs xs = some true
  | [], _ => rfl
  | x :: xs, p => by
    unfold plEL at p
    rw [Bool.and_eq_true] at p
    unfold eqEL
    rw [eqE_refl p.1, eqEL_refl p.2]
    rfl
theorem eqEK_refl : ∀ {ks ls : List (Key × Da)}, plEK ks = true → (∀ p ∈ ks, valD ls p.1 = some p.2) → eqEK ls ks = some true
  | [], _, _, _ => rfl
  | (k, d) :: r, ls, p, h => by
    unfold plEK at p
    rw [Bool.and_eq_true] at p
    unfold eqEK
    rw [h (k, d) (List.mem_cons_self ..)]
    simp only
    rw [eqE_refl p.1, eqEK_refl p.2 fun q hq => h q (List.mem_cons_of_mem _ hq)]
    rfl
end
theorem plEK_mem : ∀ {ks : List (Key × Da)}, plEK ks = true → ∀ p ∈ ks, plE p.2 = true
  | [], _, _, h => by cases h
  | (k, d) :: r, p, q, h => by
    unfold plEK at p
    rw [Bool.and_eq_true] at p
    rcases List.mem_cons.1 h with rfl | h
    · exact p.1
    · exact plEK_mem p.2 q h
theorem dpEK_mem : ∀ {ks : List (Key × Da)}, ∀ p ∈ ks, dpE p.2 ≤ dpEK ks
  | [], _, h => by cases h
  | (k, d) :: r, q, h => by
    unfold dpEK
    rcases List.mem_cons.1 h with rfl | h
    · exact Nat.le_max_left ..
    · exact Nat.le_trans (dpEK_mem q h) (Nat.le_max_right ..)
theorem sc_depth {x : Da} (p : plE x = true) (h : dpE x ≤ 0) : plD x = true ∧ dpD x ≤ 0 := by
  cases x with
  | non => exact ⟨rfl, Nat.le_refl _⟩
  | bl _ => exact ⟨rfl, Nat.le_refl _⟩
  | int _ => exact ⟨rfl, Nat.le_refl _⟩
  | str _ => exact ⟨rfl, Nat.le_refl _⟩
  | tup _ => unfold dpE at h; omega
  | lst _ => unfold dpE at h; omega
  | dct _ => unfold dpE at h; omega
  | _ => cases p
theorem eqJ_of : ∀ (n : Nat) {x y : Da} {v w : V} {b : Bool}, plE x = true → plE y = true → dpE x ≤ n → dpE y ≤ n → eqE x y = some b → Rp K H φ χ v x → Rp K H φ χ w y → EqD K H (EqJ K H n) v w b := by
  intro n
  induction n with
  | zero =>
    intro x y v w b px py dx dy e hx hy
    obtain ⟨p1, d1⟩ := sc_depth px dx
    obtain ⟨p2, d2⟩ := sc_depth py dy
    have q := eqR_of (K := K) (H := H) 0 p1 p2 d1 d2 hx hy
    have eb : eqD x y = b := by
      cases x <;> first | (cases p1; done) | skip
      all_goals first
        | (unfold dpD at d1; omega)
        | skip
      all_goals cases y <;> first | (cases p2; done) | (unfold dpD at d2; omega) | skip
      all_goals (unfold eqE at e; exact Option.some.inj e)
    rw [eb] at q
    have q' : EqR K H (fun _ _ _ => False) v w b := q
    refine .old ?_
    cases q' with
    | sc h => exact .sc h
    | bi a j => exact .bi a j
    | ib i b => exact .ib i b
    | ll h1 h2 h3 => exact .ll h1 h2 h3
    | lst h1 h2 h3 h4 =>
      cases h4 with
      | nil => exact .lst h1 h2 h3 .nil
      | nilL => exact .lst h1 h2 h3 .nilL
      | nilR => exact .lst h1 h2 h3 .nilR
      | cons h _ => exact h.elim
    | tup h1 h2 h4 =>
      cases h4 with
      | nil => exact .tup h1 h2 .nil
      | nilL => exact .tup h1 h2 .nilL
      | nilR => exact .tup h1 h2 .nilR
      | cons h _ => exact h.elim
    | lt h1 h2 => exact .lt h1 h2
    | tl h1 h2 => exact .tl h1 h2
    | ls h1 h2 => exact .ls h1 h2
    | sl h1 h2 => exact .sl h1 h2
    | ts h1 h2 => exact .ts h1 h2
    | st h1 h2 => exact .st h1 h2
  | succ n ih =>
    have item : ∀ {x y : Da} {v w : V} {b : Bool}, plE x = true → plE y = true → dpE x ≤ n → dpE y ≤ n → eqE x y = some b → Rp K H φ χ v x → Rp K H φ χ w y → EqJ K H (n + 1) v w b := by
      intro x y v w b px py dx dy e hx hy
      by_cases same : ∃ a, v = .ref a ∧ w = .ref a
      · obtain ⟨a, rfl, rfl⟩ := same
        have e2 := Rp.detE px py hx hy
        subst e2
        rw [eqE_refl px] at e
        exact .inl ⟨a, rfl, rfl, (Option.some.inj e).symm⟩
      · exact .inr ⟨ih px py dx dy e hx hy, fun a e1 e2 => same ⟨a, e1, e2⟩⟩
    have items : ∀ {xs ys : List Da} {vs ws : List V} {r : Bool}, plEL xs = true → plEL ys = true → dpEL xs ≤ n → dpEL ys ≤ n → eqEL xs ys = some r → RpL K H φ χ vs xs → RpL K H φ χ ws ys → ∃ e, EqZ (EqJ K H (n + 1)) vs ws e ∧ r = (e.all id && decide (xs.length = ys.length)) := by
      intro xs
      induction xs with
      | nil =>
        intro ys vs ws r px py dx dy e hx hy
        cases hx
        cases hy with
        | nil => cases e; exact ⟨[], .nil, rfl⟩
        | cons h1 r1 => cases e; exact ⟨[], .nilL, rfl⟩
      | cons x xs ihx =>
        intro ys vs ws r px py dx dy e hx hy
        cases hx with
        | cons h1 r1 =>
          cases hy with
          | nil => cases e; exact ⟨[], .nilR, rfl⟩
          | @cons w y ws ys h2 r2 =>
            unfold plEL at px py
            rw [Bool.and_eq_true] at px py
            unfold dpEL at dx dy
            unfold eqEL at e
            cases e1 : eqE x y with
            | none => rw [e1] at e; cases e
            | some p =>
              cases e2 : eqEL xs ys with
              | none => rw [e1, e2] at e; cases e
              | some q =>
                rw [e1, e2] at e
                cases e
                obtain ⟨es, z, er⟩ := ihx px.2 py.2 (by omega) (by omega) e2 r1 r2
                refine ⟨p :: es, .cons (item px.1 py.1 (by omega) (by omega) e1 h1 h2) z, ?_⟩
                rw [er, List.all_cons, List.length_cons, List.length_cons, Bool.and_assoc]
                congr 2
                simp
    have hits : ∀ {ks ls : List (Key × Da)} {vs us : List (Key × V)} {r : Bool}, plEK ks = true → plEK ls = true → dpEK ks ≤ n → dpEK ls ≤ n → eqEK ls ks = some r → RpK K H φ χ vs ks → RpK K H φ χ us ls → KHit (EqJ K H (n + 1)) us vs r := by
      intro ks
      induction ks with
      | nil =>
        intro ls vs us r px py dx dy e hx hy
        cases hx
        cases e
        exact .nil
      | cons p ks ihk =>
        intro ls vs us r px py dx dy e hx hy
        obtain ⟨k, d⟩ := p
        cases hx with
        | cons h1 r1 =>
          unfold plEK at px
          rw [Bool.and_eq_true] at px
          unfold dpEK at dx
          unfold eqEK at e
          rcases hy.val (k := k) with ⟨v1, v2⟩ | ⟨u, d', v1, v2, rd⟩
          · rw [v2] at e
            cases e
            exact .miss v1
          · rw [v2] at e
            simp only at e
            cases e1 : eqE d d' with
            | none => rw [e1] at e; cases e
            | some p =>
              cases e2 : eqEK ls ks with
              | none => rw [e1, e2] at e; cases e
              | some q =>
                rw [e1, e2] at e
                cases e
                have m := valD_mem v2
                exact .hit v1 (item px.1 (plEK_mem py _ m) (by omega) (Nat.le_trans (dpEK_mem _ m) dy) e1 h1 rd) (ihk px.2 py (by omega) dy e2 r1 hy)
    intro x y v w b px py dx dy e hx hy
    cases hx <;> first | (cases px; done) | skip
    all_goals cases hy <;> first | (cases py; done) | skip
    all_goals unfold eqE at e
    all_goals first
      | (cases e; done)
      | (cases e; exact .old (.bi _ _))
      | (cases e; exact .old (.ib _ _))
      | (cases e; exact .old (scR rfl (by simp [eqD])))
      | (cases e; exact .old (.ts (SqT.of (by assumption)) rfl))
      | (cases e; exact .old (.st (SqT.of (by assumption)) rfl))
      | (cases e; exact .old (.ls (SqL.of (by assumption)) rfl))
      | (cases e; exact .old (.sl (SqL.of (by assumption)) rfl))
      | (cases e; exact .old (.lt (SqL.of (by assumption)) (SqT.of (by assumption))))
      | (cases e; exact .old (.tl (SqT.of (by assumption)) (SqL.of (by assumption))))
      | skip
    · rename_i a vs ds h1 n1 m1 r1 b ws es h2 n2 m2 r2
      unfold plE at px py
      unfold dpE at dx dy
      obtain ⟨bs, z, er⟩ := items px py (by omega) (by omega) e r1 r2
      rw [er, ← r1.len, ← r2.len]
      exact .old (.tup (SqT.of h1) (SqT.of h2) z)
    · rename_i a vs ds h1 n1 m1 r1 b ws es h2 n2 m2 r2
      unfold plE at px py
      unfold dpE at dx dy
      by_cases l : ds.length = es.length
      · rw [if_pos l] at e
        obtain ⟨bs, z, er⟩ := items px py (by omega) (by omega) e r1 r2
        rw [er, decide_eq_true l, Bool.and_true]
        exact .old (.lst (SqL.of h1) (SqL.of h2) (by rw [r1.len, r2.len]; exact l) z)
      · rw [if_neg l] at e
        cases e
        exact .old (.ll (SqL.of h1) (SqL.of h2) (by rw [r1.len, r2.len]; exact l))
    · rename_i a o vs ks h1 c1 n1 m1 r1 b o2 us ls h2 c2 n2 m2 r2
      unfold plE at px py
      rw [Bool.and_eq_true] at px py
      unfold dpE at dx dy
      have l1 := r1.len
      have l2 := r2.len
      by_cases l : ks.length = ls.length
      · rw [if_pos l] at e
        have q := EqD.dd (K := K) (E := EqJ K H (n + 1)) (rd_of h1 c1) (rd_of h2 c2) fun _ => hits px.1 py.1 (by omega) (by omega) e r1 r2
        rw [decide_eq_true (by omega), Bool.true_and] at q
        exact q
      · rw [if_neg l] at e
        cases e
        have q := EqD.dd (K := K) (E := EqJ K H (n + 1)) (r := true) (rd_of h1 c1) (rd_of h2 c2) fun z => absurd z (by omega)
        rw [decide_eq_false (by omega), Bool.false_and] at q
        exact q
/-- ==, != of data, cells looked through -/
def nEqE : MO := fun x y M Q => ∃ x' y' b, frz 0 4 M x = some x' ∧ frz 0 4 M y = some y' ∧ plE x' = true ∧ plE y' = true ∧ dpE x' ≤ 59 ∧ dpE y' ≤ 59 ∧ eqE x' y' = some b ∧ Q (.bl b) M
def nNeE : MO := fun x y M Q => ∃ x' y' b, frz 0 4 M x = some x' ∧ frz 0 4 M y = some y' ∧ plE x' = true ∧ plE y' = true ∧ dpE x' ≤ 59 ∧ dpE y' ≤ 59 ∧ eqE x' y' = some b ∧ Q (.bl (!b)) M
theorem O_eqE : SO K (rEqE K) nEqE := by
  intro χ H φ M x y dx dy Q Q' m hx hy f ⟨x', y', b, e1, e2, p1, p2, d1, d2, e, q⟩
  exact ⟨b, eqJ_of 60 p1 p2 (by omega) (by omega) e (frz_run m 4 hx e1) (frz_run m 4 hy e2), f.pure m (.bl _) q⟩
theorem O_neE : SO K (rNeE K) nNeE := by
  intro χ H φ M x y dx dy Q Q' m hx hy f ⟨x', y', b, e1, e2, p1, p2, d1, d2, e, q⟩
  exact ⟨b, eqJ_of 60 p1 p2 (by omega) (by omega) e (frz_run m 4 hx e1) (frz_run m 4 hy e2), f.pure m (.bl _) q⟩
end
end Z

/-! draws over data -/
namespace Z
open PySem PySem.Spec PyProof.Rows L2 Evl
def BoxD (n : Nat) (d : Da) : Prop := ∃ a b c : Int, d = .lst [.int a, .int b, .int c] ∧ 0 ≤ b ∧ b < 2147483648 ∧ 0 ≤ c ∧ c ≤ n
theorem leave_same {n : Nat} {Q : TK} {d : Da} {M : Mem} (h : Q d M) : leave n Q d M := ⟨d, M, .inl ⟨rfl, rfl⟩, h⟩
theorem atI_nat' {α : Type} (l : List α) (k : Nat) : atI l (k : Int) = l[k]? := by
  unfold atI ixN
  rw [if_pos (by omega)]
  by_cases h : (k : Int) < l.length
  · rw [if_pos h]
    simp
  · rw [if_neg h]
    symm
    rw [Option.bind_none, List.getElem?_eq_none_iff]
    omega
theorem atI_0 {α : Type} (l : List α) : atI l 0 = l[0]? := atI_nat' l 0
theorem atI_1 {α : Type} (l : List α) : atI l 1 = l[1]? := atI_nat' l 1
theorem atI_2 {α : Type} (l : List α) : atI l 2 = l[2]? := atI_nat' l 2
theorem atI_3 {α : Type} (l : List α) : atI l 3 = l[3]? := atI_nat' l 3
theorem atI_4 {α : Type} (l : List α) : atI l 4 = l[4]? := atI_nat' l 4
theorem atI_m1 {α : Type} (l : List α) : atI l (-1) = l.getLast? := by
  unfold atI ixN
  rw [if_neg (by omega), List.getLast?_eq_getElem?]
  by_cases h : -(l.length : Int) ≤ -1
  · rw [if_pos h]
    show l[(-1 + (l.length : Int)).toNat]? = _
    congr 1
    omega
  · rw [if_neg h]
    symm
    rw [Option.bind_none, List.getElem?_eq_none_iff]
    omega
theorem ixN_0 {n : Nat} (h : 0 < n) : ixN n 0 = some 0 := by
  unfold ixN
  rw [if_pos (by omega), if_pos (by omega)]
  rfl
theorem ixN_1 {n : Nat} (h : 1 < n) : ixN n 1 = some 1 := by
  unfold ixN
  rw [if_pos (by omega), if_pos (by omega)]
  rfl
theorem ixN_2 {n : Nat} (h : 2 < n) : ixN n 2 = some 2 := by
  unfold ixN
  rw [if_pos (by omega), if_pos (by omega)]
  rfl
theorem ixN_nat {n k : Nat} (h : k < n) : ixN n (k : Int) = some k := by
  unfold ixN
  rw [if_pos (by omega), if_pos (by omega)]
  simp
mutual
theorem plD_clo (n : Nat) : ∀ {d : Da}, plD d = true → cloD n d = true
  | .non, _ => rfl
  | .bl _, _ => rfl
  | .int _, _ => rfl
  | .str _, _ => rfl
  | .tup ds, p => by unfold plD at p; unfold cloD; exact plL_clo n p
  | .lst ds, p => by unfold plD at p; unfold cloD; exact plL_clo n p
  | .ty _, p => by cases p
  | .gl _, p => by cases p
  | .dct _, p => by cases p
  | .obj _ _, p => by cases p
  | .kl _, p => by cases p
  | .kt _, p => by cases p
  | .cell _, p => by cases p
  | .exv _ _ _ _, p => by cases p
theorem plL_clo (n : Nat) : ∀ {ds : List Da}, plL ds = true → cloL n ds = true
  | [], _ => rfl
  | d :: ds, p => by
    unfold plL at p
    rw [Bool.and_eq_true] at p
    unfold cloL
    rw [plD_clo n p.1, plL_clo n p.2]
    rfl
end
theorem frz_clo {n f : Nat} {M : Mem} {d : Da} (h : cloD n d = true) : frz n f M d = some d := by
  cases f with
  | zero => unfold frz; rw [if_pos h]
  | succ f => unfold frz; rw [if_pos h]
theorem cloL_all {n : Nat} : ∀ {ds : List Da}, cloL n ds = true ↔ ∀ d ∈ ds, cloD n d = true
  | [] => by simp [cloL]
  | d :: ds => by
    unfold cloL
    rw [Bool.and_eq_true, cloL_all (ds := ds)]
    simp
theorem BoxD.clo {n m : Nat} {b : Da} (h : BoxD n b) : cloD m b = true := by
  obtain ⟨a, b, c, rfl, _⟩ := h
  rfl
theorem BoxD.mono {n m : Nat} {b : Da} (h : BoxD n b) (l : n ≤ m) : BoxD m b := by
  obtain ⟨a, b, c, rfl, h1, h2, h3, h4⟩ := h
  exact ⟨a, b, c, rfl, h1, h2, h3, by omega⟩
/-- back from a def with cells of its own -/
theorem leave_box {Q : TK} {d d' : Da} {b b' : Da} {R S : Mem} {n : Nat} (B : BoxD n b') (cM : cloL (R.length + 1) (b :: R) = true) (hf : frz (R.length + 1) 4 (b' :: (R ++ S)) d = some d') (q : Q d' (b' :: R)) : leave (R.length + 1) Q d (b' :: (R ++ S)) := by
  refine ⟨d', b' :: R, .inr ⟨by simp, by simp, ?_, hf⟩, q⟩
  unfold cloL at cM ⊢
  rw [Bool.and_eq_true] at cM
  rw [B.clo, cM.2]
  rfl
theorem okM_list : okM "list" = okLs := rfl
theorem okM_str : okM "str" = okS := rfl
theorem okM_dict : okM "dict" = okDc := rfl
theorem okS_str {z : Str} {M : Mem} : okS (.str z) M = True := by simp [okS]
/-- an item by a draw -/
theorem atI_mem {α : Type} {xs : List α} {d : Int} (h0 : 0 ≤ d) (h1 : d < (xs.length : Int)) : ∃ v, v ∈ xs ∧ atI xs d = some v := by
  obtain ⟨k, rfl⟩ := Int.eq_ofNat_of_zero_le h0
  have h : k < xs.length := by omega
  exact ⟨xs[k], List.getElem_mem h, by rw [atI_nat']; simp [h]⟩
end Z

namespace Z
open PySem PySem.Spec PyProof.Rows L2 Evl
theorem set_last {α : Type} (R : List α) (x y : α) : (R ++ [x]).set R.length y = R ++ [y] := by simp
theorem get_last {α : Type} (R : List α) (x : α) : (R ++ [x])[R.length]? = some x := by simp
theorem look_last {b x : Da} {R : Mem} : look (b :: (R ++ [x])) (.cell (R.length + 1)) = x := by
  show List.getD _ _ _ = _
  simp
theorem perm_erase {α : Type} {l : List α} {i : Nat} (h : i < l.length) : (l[i] :: l.eraseIdx i).Perm l := by
  have e : l.take i ++ l[i] :: l.drop (i + 1) = l := by rw [← List.drop_eq_getElem_cons h, List.take_append_drop]
  rw [List.eraseIdx_eq_take_drop_succ]
  have q : (l[i] :: (l.take i ++ l.drop (i + 1))).Perm (l.take i ++ l[i] :: l.drop (i + 1)) := List.perm_middle.symm
  rw [e] at q
  exact q
def one (c : Nat) : Str := ⟨#[c]⟩
def letters : List Nat := ("abcdefghijklmnopqrstuvwxyz" : Str).cps.toList
def nmS (z : Str) : Bool := !decide (z = ("table" : Str)) && (decide (1 ≤ z.length) && (decide (z.length ≤ 8) && z.cps.toList.all fun c => decide (c ∈ letters)))
theorem seqI {d : Int} {n : Nat} (h0 : 0 ≤ d) (h1 : d < n) : seqIndex? d n = some d.toNat := by
  unfold seqIndex?
  first
    | (simp; omega)
    | (rw [if_neg (by omega)]; simp; omega)
theorem log_nat {n : Nat} (h : n < 9000) : ((n : Int)).natAbs.log2 < 9000 := by
  have h1 : ((n : Int)).natAbs = n := by omega
  rw [h1]
  have h2 := Nat.log2_le_self n
  omega
def stems : List Str := ["", "a", "tabl", "rest", "part", "zzzzzzz"]
def fixS (z : Str) : Str := if z = ("table" : Str) then "tables" else z
def formS (stem : Str) (c : Nat) (w : Nat) : Str := fixS (match w with | 0 => stem ++ one c | 1 => one c ++ stem | _ => one c)
theorem form_ok : ∀ stem ∈ stems, ∀ c ∈ letters, ∀ w ∈ [0, 1, 2], nmS (formS stem c w) = true := by decide +kernel
theorem form_ne : ∀ stem ∈ stems, ∀ w ∈ [0, 1, 2], ∀ c ∈ letters, ∀ d ∈ letters, c ≠ d → formS stem c w ≠ formS stem d w ∧ formS stem c 0 ≠ formS stem d w := by decide +kernel
def lett (i : Nat) : Nat := letters.getD i 0
theorem steps_ne : ∀ f ∈ List.range 26, ∀ s ∈ [1, 3, 5, 7, 9, 11], ∀ i ∈ List.range 13, ∀ j ∈ List.range 13, i ≠ j → lett ((f + s * i) % 26) ≠ lett ((f + s * j) % 26) := by decide +kernel
theorem lett_mem : ∀ i ∈ List.range 26, lett i ∈ letters := by decide +kernel
def nameK (stem : Str) (f s w k : Nat) : Str := formS stem (lett ((f + s * k) % 26)) (if k = 0 then 0 else w)
theorem nameK_ok {stem : Str} {f s w : Nat} (hs : stem ∈ stems) (hw : w < 3) (k : Nat) : nmS (nameK stem f s w k) = true := by
  refine form_ok stem hs _ (lett_mem _ (List.mem_range.mpr (Nat.mod_lt _ (by decide)))) _ ?_
  split
  · decide
  · simp; omega
theorem nameK_ne {stem : Str} {f s w i j : Nat} (hs : stem ∈ stems) (hf : f < 26) (hst : s ∈ [1, 3, 5, 7, 9, 11]) (hw : w < 3) (hi : i < 13) (hj : j < 13) (ne : i ≠ j) : nameK stem f s w i ≠ nameK stem f s w j := by
  have hc := steps_ne f (List.mem_range.mpr hf) s hst i (List.mem_range.mpr hi) j (List.mem_range.mpr hj) ne
  have m1 := lett_mem _ (List.mem_range.mpr (Nat.mod_lt (f + s * i) (by decide : 26 > 0)))
  have m2 := lett_mem _ (List.mem_range.mpr (Nat.mod_lt (f + s * j) (by decide : 26 > 0)))
  have hw3 : w ∈ [0, 1, 2] := by simp; omega
  unfold nameK
  by_cases e1 : i = 0
  · rw [if_pos e1, if_neg (fun z => ne (e1.trans z.symm))]
    exact (form_ne stem hs w hw3 _ m1 _ m2 hc).2
  · rw [if_neg e1]
    by_cases e2 : j = 0
    · rw [if_pos e2]
      exact ((form_ne stem hs w hw3 _ m2 _ m1 hc.symm).2).symm
    · rw [if_neg e2]
      exact (form_ne stem hs w hw3 _ m1 _ m2 hc).1
theorem names_nodup {stem : Str} {f s w : Nat} (hs : stem ∈ stems) (hf : f < 26) (hst : s ∈ [1, 3, 5, 7, 9, 11]) (hw : w < 3) : ∀ m, m ≤ 13 → ((List.range m).map fun k => nameK stem f s w k).Nodup
  | 0, _ => by simp
  | m + 1, hm => by
    rw [List.range_succ, List.map_append, List.nodup_append]
    refine ⟨names_nodup hs hf hst hw m (by omega), by simp, fun a ha b hb => ?_⟩
    obtain ⟨k, hk, rfl⟩ := List.mem_map.mp ha
    have hk := List.mem_range.mp hk
    rw [List.map_singleton, List.mem_singleton] at hb
    rw [hb]
    intro e
    exact nameK_ne hs hf hst hw (by omega) (by omega) (by omega) e
end Z

namespace Z
open PySem PySem.Spec PyProof.Rows L2 Evl
/-! ### loops and comprehensions by an invariant; C: what follows a turn -/
theorem forL_ind {still : Mem → Prop} {g : MG} {tb : MS} {D : En} {n : Nat} {items : List Da} {ρ : Sl} {M : Mem} (P : Nat → Sl → Mem → Prop) (h0 : P 0 ρ M)
    (hs : ∀ k d ρ M, items[k]? = some d → P k ρ M → ∀ C : Sl → Mem → Prop, (∀ ρ' M' ρ3 M3, Wk n ρ' M' ρ3 M3 → still M3 → P (k + 1) ρ3 M3 → C ρ' M') → g d ρ M fun ρ1 M1 => tb { nx := C, rt := D.rt, bk := D.nx, ct := C } ρ1 M1)
    (he : ∀ ρ M, P items.length ρ M → D.nx ρ M) : forL still g tb D n items ρ M := by
  have go : ∀ (ds : List Da) (k : Nat) (ρ : Sl) (M : Mem), items.drop k = ds → k ≤ items.length → P k ρ M → forL still g tb D n ds ρ M := by
    intro ds
    induction ds with
    | nil =>
      intro k ρ M e l p
      have : items.length ≤ k := by
        have := congrArg List.length e
        rw [List.length_drop] at this
        simp at this
        omega
      have : k = items.length := by omega
      subst this
      exact he ρ M p
    | cons d ds ih =>
      intro k ρ M e l p
      have hl : k < items.length := by
        have := congrArg List.length e
        rw [List.length_drop] at this
        simp at this
        omega
      have ed : items[k]? = some d := by
        have := congrArg (fun l => l[0]?) e
        simpa using this
      have eds : items.drop (k + 1) = ds := by
        have := congrArg List.tail e
        simpa using this
      unfold forL
      exact hs k d ρ M ed p _ fun ρ' M' ρ3 M3 w s p' => ⟨ρ3, M3, w, s, ih (k + 1) ρ3 M3 eds hl p'⟩
  exact go items 0 ρ M rfl (Nat.zero_le _) h0
theorem Wk.same {n : Nat} {ρ : Sl} {M : Mem} : Wk n ρ M ρ M := .inl ⟨rfl, rfl⟩
theorem lcL_ind {still : Mem → Prop} {g : MG} {tt : MT} {te : ME} {vs : List Nat} {ρ : Sl} {items : List Da} {M : Mem} {Q : TK} (P : Nat → List Da → Mem → Prop) (h0 : P 0 [] M)
    (hs : ∀ k d acc M, items[k]? = some d → P k acc M → ∀ C : List Da → Mem → Prop, (∀ acc' M', still M' → P (k + 1) acc' M' → C acc' M') → g d (wipeD ρ vs) M fun ρ2 M2 => tt ρ2 M2 fun b M3 => if b = true then te ρ2 M3 fun y M4 => C (acc ++ [y]) M4 else C acc M3)
    (he : ∀ acc M, P items.length acc M → Q (.lst acc) M) : lcL still g tt te vs ρ items [] M Q := by
  have go : ∀ (ds : List Da) (k : Nat) (acc : List Da) (M : Mem), items.drop k = ds → k ≤ items.length → P k acc M → lcL still g tt te vs ρ ds acc M Q := by
    intro ds
    induction ds with
    | nil =>
      intro k acc M e l p
      have : items.length ≤ k := by
        have := congrArg List.length e
        rw [List.length_drop] at this
        simp at this
        omega
      have : k = items.length := by omega
      subst this
      exact he acc M p
    | cons d ds ih =>
      intro k acc M e l p
      have hl : k < items.length := by
        have := congrArg List.length e
        rw [List.length_drop] at this
        simp at this
        omega
      have ed : items[k]? = some d := by
        have := congrArg (fun l => l[0]?) e
        simpa using this
      have eds : items.drop (k + 1) = ds := by
        have := congrArg List.tail e
        simpa using this
      unfold lcL
      exact hs k d acc M ed p (fun acc' M' => still M' ∧ lcL still g tt te vs ρ ds acc' M' Q) fun acc' M' s p' => ⟨s, ih (k + 1) acc' M' eds hl p'⟩
  exact go items 0 [] M rfl (Nat.zero_le _) h0
/-- a comprehension that changes nothing -/
theorem lcL_pure {still : Mem → Prop} {i : Nat} {tt : MT} {te : ME} {vs : List Nat} {ρ : Sl} {items : List Da} {M : Mem} {Q : TK} (p : Da → Bool) (f : Da → Da)
    (ht : ∀ d ∈ items, ∀ R : Bool → Mem → Prop, R (p d) M → tt ((wipeD ρ vs).set i (some d)) M R) (hf : ∀ d ∈ items, p d = true → ∀ R : TK, R (f d) M → te ((wipeD ρ vs).set i (some d)) M R) (hS : still M) (q : Q (.lst ((items.filter p).map f)) M) :
    lcL still (hName i) tt te vs ρ items [] M Q := by
  refine lcL_ind (fun k acc M' => M' = M ∧ acc = ((items.take k).filter p).map f) ⟨rfl, rfl⟩ ?_ ?_
  · rintro k d acc M' e ⟨rfl, rfl⟩ C hC
    have hm : d ∈ items := List.mem_of_getElem? e
    have et : items.take (k + 1) = items.take k ++ [d] := by rw [List.take_add_one, e]; rfl
    refine ht d hm _ ?_
    cases c : p d with
    | true =>
      refine iteT (hf d hm c _ (hC _ _ hS ⟨rfl, ?_⟩))
      rw [et, List.filter_append]
      simp [c]
    | false =>
      refine iteF (hC _ _ hS ⟨rfl, ?_⟩)
      rw [et, List.filter_append]
      simp [c]
  · rintro acc M' ⟨rfl, rfl⟩
    rw [List.take_length]
    exact q
theorem rngD_at {lo : Int} {n k : Nat} {d : Da} (h : (rngD lo n)[k]? = some d) : k < n ∧ d = .int (lo + (k : Int)) := by
  unfold rngD at h
  rw [List.getElem?_map] at h
  by_cases l : k < n
  · rw [List.getElem?_range l] at h
    exact ⟨l, (Option.some.inj h).symm⟩
  · rw [List.getElem?_eq_none (by simp; omega)] at h
    cases h
theorem mapO_id {n f : Nat} {M : Mem} : ∀ {ds : List Da}, cloL n ds = true → mapO (frz n f M) ds = some ds
  | [], _ => rfl
  | d :: ds, h => by
    unfold cloL at h
    rw [Bool.and_eq_true] at h
    unfold mapO
    rw [frz_clo h.1, mapO_id h.2]
theorem mapOK_id {n f : Nat} {M : Mem} : ∀ {ds : List (Key × Da)}, cloK n ds = true → mapOK (frz n f M) ds = some ds
  | [], _ => rfl
  | (_, d) :: ds, h => by
    unfold cloK at h
    rw [Bool.and_eq_true] at h
    unfold mapOK
    rw [frz_clo h.1, mapOK_id h.2]
/-- a def's own list as a datum -/
theorem frz_cell {n m f : Nat} {M : Mem} {ds : List Da} (h : M[m]? = some (.lst ds)) (le : n ≤ m) (c : cloL n ds = true) : frz n (f + 1) M (.cell m) = some (.lst ds) := by
  have nc : ¬ cloD n (.cell m) = true := by
    unfold cloD
    simp
    exact le
  unfold frz
  rw [if_neg nc]
  simp only [h]
  rw [mapO_id c]
  rfl
theorem frz_cellD {n m f : Nat} {M : Mem} {ds : List (Key × Da)} (h : M[m]? = some (.dct ds)) (le : n ≤ m) (c : cloK n ds = true) : frz n (f + 1) M (.cell m) = some (.dct ds) := by
  have nc : ¬ cloD n (.cell m) = true := by
    unfold cloD
    simp
    exact le
  unfold frz
  rw [if_neg nc]
  simp only [h]
  rw [mapOK_id c]
  rfl
theorem plL_strs (zs : List Str) : plL (zs.map Da.str) = true := by
  induction zs with
  | nil => rfl
  | cons z zs ih =>
    show (plD (.str z) && plL (zs.map Da.str)) = true
    rw [ih]
    rfl
theorem clo_strs (n : Nat) (zs : List Str) : cloL n (zs.map Da.str) = true := by
  rw [cloL_all]
  intro d hd
  obtain ⟨z, _, rfl⟩ := List.mem_map.1 hd
  rfl
theorem plL_map {α : Type} {f : α → Da} (h : ∀ x, plD (f x) = true) (l : List α) : plL (l.map f) = true := by
  induction l with
  | nil => rfl
  | cons x l ih =>
    show (plD (f x) && plL (l.map f)) = true
    rw [h x, ih]
    rfl
theorem dpL_map {α : Type} {f : α → Da} (h : ∀ x, dpD (f x) = 0) (l : List α) : dpL (l.map f) = 0 := by
  induction l with
  | nil => rfl
  | cons x l ih =>
    show max (dpD (f x)) (dpL (l.map f)) = 0
    rw [h x, ih]
    rfl
theorem eqL_nil (xs : List Da) : eqL xs [] = xs.isEmpty := by
  cases xs <;> rfl
theorem plL_append {xs ys : List Da} : plL (xs ++ ys) = (plL xs && plL ys) := by
  induction xs with
  | nil => rfl
  | cons x xs ih =>
    show (plD x && plL (xs ++ ys)) = (plD x && plL xs && plL ys)
    rw [ih, Bool.and_assoc]
theorem dpL_append {xs ys : List Da} : dpL (xs ++ ys) = max (dpL xs) (dpL ys) := by
  induction xs with
  | nil => show dpL ys = max 0 (dpL ys); omega
  | cons x xs ih =>
    show max (dpD x) (dpL (xs ++ ys)) = max (max (dpD x) (dpL xs)) (dpL ys)
    rw [ih]
    omega
theorem plL_all {ds : List Da} : plL ds = true ↔ ∀ d ∈ ds, plD d = true := by
  induction ds with
  | nil => simp [plL]
  | cons d ds ih =>
    unfold plL
    rw [Bool.and_eq_true, ih]
    simp
theorem dpL_le {ds : List Da} {n : Nat} : dpL ds ≤ n ↔ ∀ d ∈ ds, dpD d ≤ n := by
  induction ds with
  | nil => simp [dpL]
  | cons d ds ih =>
    unfold dpL
    rw [Nat.max_le, ih]
    simp
theorem anyEq_strs (z : Str) (l : List Str) : anyEq (.str z) (l.map Da.str) = decide (z ∈ l) := by
  unfold anyEq
  induction l with
  | nil => simp
  | cons a l ih =>
    rw [List.map_cons, List.any_cons, ih]
    show (decide (a = z) || decide (z ∈ l)) = decide (z ∈ a :: l)
    by_cases h : a = z
    · simp [h]
    · have h2 : ¬ z = a := fun q => h q.symm
      simp [h, h2]
end Z

namespace Z
open PySem PySem.Spec PyProof.Rows L2 Evl
/-! looks, constructor by constructor -/
section
variable (M : Mem)
theorem look_non  : look M (.non) = .non := rfl
theorem lookE_non  : lookE M (.non) = .non := rfl
theorem look_bl (b : Bool) : look M (.bl b) = .bl b := rfl
theorem lookE_bl (b : Bool) : lookE M (.bl b) = .bl b := rfl
theorem look_int (i : Int) : look M (.int i) = .int i := rfl
theorem lookE_int (i : Int) : lookE M (.int i) = .int i := rfl
theorem look_str (s : Str) : look M (.str s) = .str s := rfl
theorem lookE_str (s : Str) : lookE M (.str s) = .str s := rfl
theorem look_tup (ds : List Da) : look M (.tup ds) = .tup ds := rfl
theorem lookE_tup (ds : List Da) : lookE M (.tup ds) = .tup ds := rfl
theorem look_lst (ds : List Da) : look M (.lst ds) = .lst ds := rfl
theorem lookE_lst (ds : List Da) : lookE M (.lst ds) = .lst ds := rfl
theorem look_dct (ds : List (Key × Da)) : look M (.dct ds) = .dct ds := rfl
theorem lookE_dct (ds : List (Key × Da)) : lookE M (.dct ds) = .dct ds := rfl
theorem look_obj (c : Str) (fs : List (Str × Da)) : look M (.obj c fs) = .obj c fs := rfl
theorem lookE_obj (c : Str) (fs : List (Str × Da)) : lookE M (.obj c fs) = .obj c fs := rfl
theorem look_ty (n : String) : look M (.ty n) = .ty n := rfl
theorem lookE_ty (n : String) : lookE M (.ty n) = .ty n := rfl
theorem look_gl (x : Str) : look M (.gl x) = .gl x := rfl
theorem lookE_gl (x : Str) : lookE M (.gl x) = .gl x := rfl
theorem look_exv (a dd : Addr) (c : Str) (fs : List (Str × Da)) : look M (.exv a dd c fs) = .exv a dd c fs := rfl
theorem lookE_exv (a dd : Addr) (c : Str) (fs : List (Str × Da)) : lookE M (.exv a dd c fs) = .exv a dd c fs := rfl
theorem look_cell (n : Nat) : look M (.cell n) = M[n]?.getD (.gl "") := List.getD_eq_getElem?_getD
theorem lookE_cell (n : Nat) : lookE M (.cell n) = M[n]?.getD (.gl "") := List.getD_eq_getElem?_getD
theorem look_kl (ds : List Da) : look M (.kl ds) = .lst ds := rfl
theorem look_kt (ds : List Da) : look M (.kt ds) = .tup ds := rfl
theorem tyDa_non  : tyDa M (.non) = some "NoneType" := rfl
theorem tyDa_bl (b : Bool) : tyDa M (.bl b) = some "bool" := rfl
theorem tyDa_int (i : Int) : tyDa M (.int i) = some "int" := rfl
theorem tyDa_str (s : Str) : tyDa M (.str s) = some "str" := rfl
theorem tyDa_tup (ds : List Da) : tyDa M (.tup ds) = some "tuple" := rfl
theorem tyDa_lst (ds : List Da) : tyDa M (.lst ds) = some "list" := rfl
theorem tyDa_dct (ds : List (Key × Da)) : tyDa M (.dct ds) = some "dict" := rfl
theorem tyDa_kt (ds : List Da) : tyDa M (.kt ds) = some "tuple" := rfl
theorem tyDa_cell (n : Nat) : tyDa M (.cell n) = match M[n]?.getD (.gl "") with | .lst _ => some "list" | .dct _ => some "dict" | _ => none := by
  rw [← List.getD_eq_getElem?_getD]
  rfl
theorem nonD_non  : nonD (.non) = true := rfl
theorem nonD_bl (b : Bool) : nonD (.bl b) = false := rfl
theorem nonD_int (i : Int) : nonD (.int i) = false := rfl
theorem nonD_str (s : Str) : nonD (.str s) = false := rfl
theorem nonD_tup (ds : List Da) : nonD (.tup ds) = false := rfl
theorem nonD_lst (ds : List Da) : nonD (.lst ds) = false := rfl
theorem nonD_dct (ds : List (Key × Da)) : nonD (.dct ds) = false := rfl
theorem nonD_obj (c : Str) (fs : List (Str × Da)) : nonD (.obj c fs) = false := rfl
theorem nonD_ty (n : String) : nonD (.ty n) = false := rfl
theorem nonD_gl (x : Str) : nonD (.gl x) = false := rfl
theorem nonD_exv (a dd : Addr) (c : Str) (fs : List (Str × Da)) : nonD (.exv a dd c fs) = false := rfl
/-- plain or a dict -/
def pdd : Da → Bool
  | .dct _ => true
  | d => plD d
def tyP : Da → String
  | .non => "NoneType"
  | .bl _ => "bool"
  | .int _ => "int"
  | .str _ => "str"
  | .tup _ => "tuple"
  | .lst _ => "list"
  | _ => "dict"
variable {M} {d : Da}
theorem pdd_of (h : plD d = true) : pdd d = true := by
  cases d <;> first | exact h | rfl
theorem look_pdd (h : pdd d = true) : look M d = d := by
  cases d <;> first | rfl | cases h
theorem lookE_pdd (h : pdd d = true) : lookE M d = d := by
  cases d <;> first | rfl | cases h
theorem tyDa_pdd (h : pdd d = true) : tyDa M d = some (tyP d) := by
  cases d <;> first | rfl | cases h
theorem look_pl (h : plD d = true) : look M d = d := look_pdd (pdd_of h)
theorem lookE_pl (h : plD d = true) : lookE M d = d := lookE_pdd (pdd_of h)
theorem tyDa_pl (h : plD d = true) : tyDa M d = some (tyP d) := tyDa_pdd (pdd_of h)
theorem leaveX_same {n : Nat} {E : XD} {c : Str} {fs : List (Str × Da)} {M : Mem} (h : E c fs M) : leaveX n E c fs M := ⟨M, .inl rfl, h⟩
end
/-- a block, statement by statement: what follows stands hidden in N -/
theorem seq_hide {t u : MS} {D : En} {ρ : Sl} {M : Mem} (h : ∀ N : Sl → Mem → Prop, (∀ ρ' M', u D ρ' M' → N ρ' M') → t { nx := N, rt := D.rt, bk := D.bk, ct := D.ct } ρ M) : mSeq t u D ρ M := h _ fun _ _ h => h
theorem cut_hide {t u : MS} {D : En} {ρ : Sl} {M : Mem} (h : ∀ N : Sl → Mem → Prop, (∀ ρ' M', u D ρ' M' → N ρ' M') → t { nx := N, rt := D.rt, bk := D.bk, ct := D.ct } ρ M) : mCut t u D ρ M := ⟨_, h _ fun _ _ h => h, fun _ _ h => h⟩
/-- an end, hidden -/
theorem end_hide {P : TK → Prop} {Q : TK} (h : ∀ R : TK, (∀ d M, Q d M → R d M) → P R) (m : ∀ R : TK, (∀ d M, Q d M → R d M) → (∀ d M, R d M → Q d M) → P R → P Q) : P Q := m Q (fun _ _ h => h) (fun _ _ h => h) (h Q fun _ _ h => h)
def strD : Da → Bool
  | .str _ => true
  | _ => false
theorem strs_of {ds : List Da} (h : ds.all strD = true) : ∃ zs : List Str, ds = zs.map Da.str := by
  induction ds with
  | nil => exact ⟨[], rfl⟩
  | cons d ds ih =>
    rw [List.all_cons, Bool.and_eq_true] at h
    obtain ⟨zs, e⟩ := ih h.2
    cases d with
    | str z => exact ⟨z :: zs, by rw [e]; rfl⟩
    | _ => cases h.1
theorem tyB_str {d : Da} (h : plD d = true) : tyB "str" (tyP d) = strD d := by
  cases d <;> first | rfl | cases h
theorem natc_0 : ((0 : Nat) : Int) = 0 := rfl
theorem natc_1 : ((1 : Nat) : Int) = 1 := rfl
theorem natc_2 : ((2 : Nat) : Int) = 2 := rfl
theorem natc_3 : ((3 : Nat) : Int) = 3 := rfl
theorem natc_4 : ((4 : Nat) : Int) = 4 := rfl
theorem natc_5 : ((5 : Nat) : Int) = 5 := rfl
theorem natc_6 : ((6 : Nat) : Int) = 6 := rfl
theorem natc_7 : ((7 : Nat) : Int) = 7 := rfl
theorem natc_8 : ((8 : Nat) : Int) = 8 := rfl
theorem natc_9 : ((9 : Nat) : Int) = 9 := rfl
theorem natc_10 : ((10 : Nat) : Int) = 10 := rfl
theorem natc_11 : ((11 : Nat) : Int) = 11 := rfl
theorem natc_12 : ((12 : Nat) : Int) = 12 := rfl
theorem natc_13 : ((13 : Nat) : Int) = 13 := rfl
theorem natc_14 : ((14 : Nat) : Int) = 14 := rfl
theorem natc_15 : ((15 : Nat) : Int) = 15 := rfl
theorem natc_16 : ((16 : Nat) : Int) = 16 := rfl
theorem q_bd {Q : TK} {M : Mem} {b b' : Bool} (h : Q (.bl b) M) (e : b' = b) : Q (.bl b') M := by
  rw [e]
  exact h
theorem leave_bl {Q : TK} {b : Bool} {M S : Mem} (cM : cloL M.length M = true) (q : Q (.bl b) M) : leave M.length Q (.bl b) (M ++ S) :=
  ⟨.bl b, M, .inr ⟨by simp, by simp, cM, frz_clo rfl⟩, q⟩
theorem set_lastM {M : Mem} {x y : Da} : (M ++ [x]).set M.length y = M ++ [y] := by simp
theorem if_hide {c : MT} {t u : MS} {D : En} {ρ : Sl} {M : Mem} (h : ∀ T U : Mem → Prop, (∀ M', t D ρ M' → T M') → (∀ M', u D ρ M' → U M') → c ρ M fun k M1 => if k = true then T M1 else U M1) : mIfS c t u D ρ M := h (fun M' => t D ρ M') (fun M' => u D ρ M') (fun _ h => h) fun _ h => h
theorem seq_run {t u : MS} {D : En} {ρ : Sl} {M : Mem} (h : t { nx := fun ρ M => u D ρ M, rt := D.rt, bk := D.bk, ct := D.ct } ρ M) : mSeq t u D ρ M := h
theorem next_run {D : En} {ρ : Sl} {M : Mem} (h : D.nx ρ M) : mNext D ρ M := h
theorem forL_step {still : Mem → Prop} {g : MG} {tb : MS} {D : En} {n : Nat} {d : Da} {ds : List Da} {ρ : Sl} {M : Mem} (h : ∀ C : Sl → Mem → Prop, (∀ ρ' M', still M' → forL still g tb D n ds ρ' M' → C ρ' M') → g d ρ M fun ρ1 M1 => tb { nx := C, rt := D.rt, bk := D.nx, ct := C } ρ1 M1) :
    forL still g tb D n (d :: ds) ρ M := by
  unfold forL
  exact h _ fun ρ' M' s f => ⟨ρ', M', .same, s, f⟩
theorem forL_end {still : Mem → Prop} {g : MG} {tb : MS} {D : En} {n : Nat} {ρ : Sl} {M : Mem} (h : D.nx ρ M) : forL still g tb D n [] ρ M := h
theorem valD_nil {κ : Type} [DecidableEq κ] {k : κ} : valD ([] : List (κ × Da)) k = none := rfl
theorem valD_cons {κ : Type} [DecidableEq κ] {k j : κ} {d : Da} {r : List (κ × Da)} : valD ((j, d) :: r) k = if j = k then some d else valD r k := by
  unfold valD
  rw [List.find?_cons]
  by_cases h : j = k <;> simp [h]
theorem tabD_nil {k : Str} : tabD [] k = none := rfl
theorem tabD_cons {k j : Str} {d : List Da} {r : List (Str × List Da)} : tabD ((j, d) :: r) k = if j = k then some d else tabD r k := by
  unfold tabD
  rw [List.find?_cons]
  by_cases h : j = k <;> simp [h]
theorem look_lastM {M : Mem} {x : Da} : look (M ++ [x]) (.cell M.length) = x := by
  rw [look_cell]
  simp
theorem valD_put (kds : List (Key × Da)) (k j : Key) (d : Da) : valD (putD kds k d) j = if k = j then some d else valD kds j := by
  unfold putD
  split
  · rename_i h
    have go : ∀ kds : List (Key × Da), valD (kds.map fun kv => if kv.1 = k then (kv.1, d) else kv) j = if k = j then (if (kds.any fun kv => decide (kv.1 = k)) = true then some d else none) else valD kds j := by
      intro kds
      induction kds with
      | nil => simp [valD]
      | cons p r ih =>
        obtain ⟨i, e⟩ := p
        rw [List.map_cons]
        by_cases c : i = k
        · subst c
          simp only [if_true]
          rw [valD_cons, valD_cons, ih]
          by_cases c2 : i = j
          · simp [c2]
          · simp [c2]
        · simp only [c, if_false]
          rw [valD_cons, valD_cons, ih]
          by_cases c2 : i = j
          · have c3 : ¬ k = j := fun z => c (c2.trans z.symm)
            simp [c2, c3]
          · rw [List.any_cons, decide_eq_false c, Bool.false_or, if_neg c2, if_neg c2]
    rw [go, h, if_pos rfl]
  · rename_i h
    have go : ∀ kds : List (Key × Da), ¬ (kds.any fun kv => decide (kv.1 = k)) = true → valD (kds ++ [(k, d)]) j = if k = j then some d else valD kds j := by
      intro kds
      induction kds with
      | nil => intro _; rw [List.nil_append, valD_cons]
      | cons p r ih =>
        intro h
        obtain ⟨i, e⟩ := p
        rw [List.any_cons] at h
        have h1 : ¬ i = k := fun z => h (by simp [z])
        have h2 := ih fun z => h (by rw [z]; simp)
        rw [List.cons_append, valD_cons, valD_cons, h2]
        by_cases c2 : i = j
        · have c3 : ¬ k = j := fun z => h1 (c2.trans z.symm)
          simp [c2, c3]
        · simp [c2]
    exact go kds h
theorem putD_len (kds : List (Key × Da)) (k : Key) (d : Da) : (putD kds k d).length ≤ kds.length + 1 := by
  unfold putD
  split
  · rw [List.length_map]; omega
  · rw [List.length_append]; simp
theorem mergeD_len : ∀ (l acc : List (Key × Da)), (mergeD acc l).length ≤ acc.length + l.length
  | [], acc => by show acc.length ≤ _; simp
  | (k, d) :: l, acc => by
    have h := mergeD_len l (putD acc k d)
    have h2 := putD_len acc k d
    show (mergeD (putD acc k d) l).length ≤ _
    rw [List.length_cons]
    omega
theorem mergeD_nil (acc : List (Key × Da)) : mergeD acc [] = acc := rfl
theorem mergeD_cons (acc : List (Key × Da)) (k : Key) (d : Da) (l : List (Key × Da)) : mergeD acc ((k, d) :: l) = mergeD (putD acc k d) l := rfl
theorem len_put {kds : List (Key × Da)} {k : Key} {d : Da} {n : Nat} (h : kds.length ≤ n) : (putD kds k d).length ≤ n + 1 := Nat.le_trans (putD_len _ _ _) (by omega)
theorem mMix_hit {X : ExT} {W : WD} {D : En} {c x : Str} {i : Option Nat} {ts : Addr → Addr → MS} {r : List HdM} {fs : List (Str × Da)} {ρ : Sl} {M : Mem} (e : X.lookup (c, x) = some true) (h1 : i.isSome = true → c = x) (h : ∀ a dd, ts a dd (unbD i D) (bndD i (.exv a dd c fs) ρ) M) :
    mMix X W D ((x, i, ts) :: r) c fs ρ M := by
  simp only [mMix, e]
  exact ⟨h1, h⟩
theorem mMix_miss {X : ExT} {W : WD} {D : En} {c x : Str} {i : Option Nat} {ts : Addr → Addr → MS} {r : List HdM} {fs : List (Str × Da)} {ρ : Sl} {M : Mem} (e : X.lookup (c, x) = some false) (h : mMix X W D r c fs ρ M) : mMix X W D ((x, i, ts) :: r) c fs ρ M := by
  simp only [mMix, e]
  exact h
end Z

/-! LT2: lists of texts, pairs of texts; comprehensions over texts -/
namespace Z
open PySem PySem.Spec PyProof.Rows L2 Evl
theorem lookup_one {α : Type} (k : Str) (d : α) : List.lookup k [(k, d)] = some d := by
  rw [List.lookup_cons, beq_self_eq_true]
def strF {α : Type} (e : α) (f : Str → α) : Da → α
  | .str z => f z
  | _ => e
theorem lcS {still : Mem → Prop} {i : Nat} {tt : MT} {te : ME} {vs : List Nat} {ρ : Sl} {M : Mem} {Q : TK} (zs : List Str) (p : Str → Bool) (f : Str → Da)
    (ht : ∀ z ∈ zs, ∀ R : Bool → Mem → Prop, R (p z) M → tt ((wipeD ρ vs).set i (some (.str z))) M R) (hf : ∀ z ∈ zs, p z = true → ∀ R : TK, R (f z) M → te ((wipeD ρ vs).set i (some (.str z))) M R) (hS : still M) (q : Q (.lst ((zs.filter p).map f)) M) :
    lcL still (hName i) tt te vs ρ (zs.map Da.str) [] M Q := by
  refine lcL_pure (strF false p) (strF .non f) (fun d hd R r => ?_) (fun d hd hp R r => ?_) hS ?_
  · obtain ⟨z, hz, rfl⟩ := List.mem_map.1 hd
    exact ht z hz R r
  · obtain ⟨z, hz, rfl⟩ := List.mem_map.1 hd
    exact hf z hz hp R r
  · rw [List.filter_map, List.map_map]
    exact q
theorem pdS (zs : List Str) : pdL (zs.map Da.str) := ⟨plL_strs zs, by rw [dpL_map (fun _ => rfl)]; omega⟩
theorem pdT (zs : List Str) : pd (.tup (zs.map Da.str)) := ⟨plL_strs zs, by unfold dpD; rw [dpL_map (fun _ => rfl)]; omega⟩
theorem pdLS (zs : List Str) : pd (.lst (zs.map Da.str)) := ⟨plL_strs zs, by unfold dpD; rw [dpL_map (fun _ => rfl)]; omega⟩
theorem eqL_strsD (xs ys : List Str) : eqL (xs.map Da.str) (ys.map Da.str) = decide (xs = ys) := by
  induction xs generalizing ys with
  | nil => cases ys <;> rfl
  | cons x xs ih =>
    cases ys with
    | nil => rfl
    | cons y ys =>
      show (decide (x = y) && eqL (xs.map Da.str) (ys.map Da.str)) = _
      rw [ih]
      by_cases h : x = y <;> simp [h]
theorem strs_nil (zs : List Str) : (zs.map Da.str).isEmpty = zs.isEmpty := by cases zs <;> rfl
/-- a pair of texts -/
def prD (p : Str × Str) : Da := .tup [.str p.1, .str p.2]
theorem pl_prs (ps : List (Str × Str)) : plL (ps.map prD) = true := plL_map (fun _ => rfl) ps
theorem dp_prs (ps : List (Str × Str)) : dpL (ps.map prD) ≤ 1 := by
  refine dpL_le.2 fun d hd => ?_
  obtain ⟨p, _, rfl⟩ := List.mem_map.1 hd
  exact Nat.le_of_eq rfl
theorem pdP (ps : List (Str × Str)) : pdL (ps.map prD) := ⟨pl_prs ps, Nat.le_trans (dp_prs ps) (by decide)⟩
theorem pdLP (ps : List (Str × Str)) : pd (.lst (ps.map prD)) := ⟨pl_prs ps, by have := dp_prs ps; unfold dpD; omega⟩
theorem eq_pr (p q : Str × Str) : eqD (prD p) (prD q) = decide (p = q) := by
  obtain ⟨a, b⟩ := p
  obtain ⟨c, d⟩ := q
  show (decide (a = c) && (decide (b = d) && true)) = _
  by_cases h : a = c <;> by_cases h2 : b = d <;> simp [h, h2]
theorem anyEq_prs (p : Str × Str) (l : List (Str × Str)) : anyEq (prD p) (l.map prD) = decide (p ∈ l) := by
  unfold anyEq
  induction l with
  | nil => simp
  | cons a l ih =>
    rw [List.map_cons, List.any_cons, ih, eq_pr]
    by_cases h : a = p
    · simp [h]
    · have h2 : ¬ p = a := fun q => h q.symm
      simp [h, h2]
theorem eqL_prs (xs ys : List (Str × Str)) : eqL (xs.map prD) (ys.map prD) = decide (xs = ys) := by
  induction xs generalizing ys with
  | nil => cases ys <;> rfl
  | cons x xs ih =>
    cases ys with
    | nil => rfl
    | cons y ys =>
      show (eqD (prD x) (prD y) && eqL (xs.map prD) (ys.map prD)) = _
      rw [ih, eq_pr]
      by_cases h : x = y <;> simp [h]
theorem enuD_get {ds : List Da} {k : Nat} {d : Da} (h : (enuD ds)[k]? = some d) : ∃ x, ds[k]? = some x ∧ d = .tup [.int (k : Nat), x] := by
  unfold enuD at h
  rw [List.getElem?_map, List.getElem?_zipIdx] at h
  cases e : ds[k]? with
  | none => rw [e] at h; cases h
  | some x =>
    rw [e] at h
    refine ⟨x, rfl, ?_⟩
    simpa using h.symm
theorem cutL_takeD {α : Type} (xs : List α) (m : Nat) : cutL xs none (some (m : Int)) = xs.take m := by
  unfold cutL
  have e1 : HT.sIx xs.length xs.length (some (m : Int)) = min m xs.length := HT.sIx_nat _ _ _
  rw [e1, show HT.sIx xs.length 0 none = 0 from rfl, List.drop_zero, Nat.sub_zero]
  by_cases h : m ≤ xs.length
  · rw [Nat.min_eq_left h]
  · rw [Nat.min_eq_right (by omega), List.take_of_length_le (by omega), List.take_of_length_le (by omega)]
theorem cutL_dropD {α : Type} (xs : List α) (n : Nat) : cutL xs (some (n : Int)) none = xs.drop n := by
  have e1 : HT.sIx xs.length 0 (some (n : Int)) = min n xs.length := HT.sIx_nat _ _ _
  have e2 : HT.sIx xs.length xs.length none = xs.length := rfl
  unfold cutL
  rw [e1, e2]
  by_cases h : n ≤ xs.length
  · rw [Nat.min_eq_left h]
    apply List.take_of_length_le
    rw [List.length_drop]
    exact Nat.le_refl _
  · rw [Nat.min_eq_right (by omega), Nat.sub_self, List.take_zero, List.drop_of_length_le (by omega)]
/-- a comprehension that changes nothing, any target -/
theorem lcL_pureG {still : Mem → Prop} {g : MG} {tt : MT} {te : ME} {vs : List Nat} {ρ : Sl} {items : List Da} {M : Mem} {Q : TK} (sl : Da → Sl) (p : Da → Bool) (f : Da → Da) (hg : ∀ d ∈ items, ∀ R : Sl → Mem → Prop, R (sl d) M → g d (wipeD ρ vs) M R)
    (ht : ∀ d ∈ items, ∀ R : Bool → Mem → Prop, R (p d) M → tt (sl d) M R) (hf : ∀ d ∈ items, p d = true → ∀ R : TK, R (f d) M → te (sl d) M R) (hS : still M) (q : Q (.lst ((items.filter p).map f)) M) :
    lcL still g tt te vs ρ items [] M Q := by
  refine lcL_ind (fun k acc M' => M' = M ∧ acc = ((items.take k).filter p).map f) ⟨rfl, rfl⟩ ?_ ?_
  · rintro k d acc M' e ⟨rfl, rfl⟩ C hC
    have hm : d ∈ items := List.mem_of_getElem? e
    have et : items.take (k + 1) = items.take k ++ [d] := by rw [List.take_add_one, e]; rfl
    refine hg d hm _ (ht d hm _ ?_)
    cases c : p d with
    | true =>
      refine iteT (hf d hm c _ (hC _ _ hS ⟨rfl, ?_⟩))
      rw [et, List.filter_append]
      simp [c]
    | false =>
      refine iteF (hC _ _ hS ⟨rfl, ?_⟩)
      rw [et, List.filter_append]
      simp [c]
  · rintro acc M' ⟨rfl, rfl⟩
    rw [List.take_length]
    exact q
def prF {α : Type} (e : α) (f : Str × Str → α) : Da → α
  | .tup [.str a, .str b] => f (a, b)
  | _ => e
theorem lcP {still : Mem → Prop} {i j : Nat} {tt : MT} {te : ME} {vs : List Nat} {ρ : Sl} {M : Mem} {Q : TK} (ps : List (Str × Str)) (p : Str × Str → Bool) (f : Str × Str → Da)
    (ht : ∀ x ∈ ps, ∀ R : Bool → Mem → Prop, R (p x) M → tt (((wipeD ρ vs).set i (some (.str x.1))).set j (some (.str x.2))) M R)
    (hf : ∀ x ∈ ps, p x = true → ∀ R : TK, R (f x) M → te (((wipeD ρ vs).set i (some (.str x.1))).set j (some (.str x.2))) M R) (hS : still M) (q : Q (.lst ((ps.filter p).map f)) M) :
    lcL still (hTup 2 (hCons (hName i) (hCons (hName j) hNil))) tt te vs ρ (ps.map prD) [] M Q := by
  refine lcL_pureG (prF [] fun x => ((wipeD ρ vs).set i (some (.str x.1))).set j (some (.str x.2))) (prF false p) (prF .non f) (fun d hd R r => ?_) (fun d hd R r => ?_) (fun d hd hp R r => ?_) hS ?_
  · obtain ⟨x, hx, rfl⟩ := List.mem_map.1 hd
    exact ⟨rfl, rfl, r⟩
  · obtain ⟨x, hx, rfl⟩ := List.mem_map.1 hd
    exact ht x hx R r
  · obtain ⟨x, hx, rfl⟩ := List.mem_map.1 hd
    exact hf x hx hp R r
  · rw [List.filter_map, List.map_map]
    exact q
/-! two fors -/
theorem lcIn_S {still : Mem → Prop} {i : Nat} {tt : MT} {te : ME} {vs : List Nat} {ρ : Sl} {C : List Da → Mem → Prop} {M : Mem} (p : Str → Bool) (f : Str → Da) : ∀ (zs : List Str) (acc : List Da), acc.length + zs.length ≤ 1000000 →
    (∀ z ∈ zs, ∀ R : Bool → Mem → Prop, R (p z) M → tt ((wipeD ρ vs).set i (some (.str z))) M R) → (∀ z ∈ zs, p z = true → ∀ R : TK, R (f z) M → te ((wipeD ρ vs).set i (some (.str z))) M R) → still M → C (acc ++ (zs.filter p).map f) M →
    lcIn still (hName i) tt te vs ρ C (zs.map Da.str) acc M
  | [], acc, _, _, _, _, h => by
    rw [List.filter_nil, List.map_nil, List.append_nil] at h
    exact h
  | z :: zs, acc, hl, ht, hf, hs, h => by
    rw [List.length_cons] at hl
    rw [List.map_cons]
    unfold lcIn
    refine ht z (List.mem_cons_self ..) _ ?_
    cases c : p z with
    | true =>
      refine iteT (hf z (List.mem_cons_self ..) c _ ⟨by omega, hs, ?_⟩)
      refine lcIn_S p f zs _ (by rw [List.length_append, List.length_singleton]; omega) (fun y hy => ht y (List.mem_cons_of_mem _ hy)) (fun y hy => hf y (List.mem_cons_of_mem _ hy)) hs ?_
      rw [List.filter_cons, if_pos c, List.map_cons] at h
      rw [List.append_assoc]
      exact h
    | false =>
      refine iteF ⟨hs, ?_⟩
      refine lcIn_S p f zs _ (by omega) (fun y hy => ht y (List.mem_cons_of_mem _ hy)) (fun y hy => hf y (List.mem_cons_of_mem _ hy)) hs ?_
      rw [List.filter_cons, if_neg (by rw [c]; simp)] at h
      exact h
theorem lcL2_pureG {still : Mem → Prop} {g : MG} {tt : MT} {mi : MI} {g1 : MG} {tt1 : MT} {te : ME} {vs vs1 : List Nat} {ρ : Sl} {M : Mem} {Q : TK} {items : List Da} (sl : Da → Sl) (out : Da → List Da) (hl : (items.flatMap out).length ≤ 900000)
    (hg : ∀ d ∈ items, ∀ R : Sl → Mem → Prop, R (sl d) M → g d (wipeD ρ vs) M R) (ht : ∀ d ∈ items, ∀ R : Bool → Mem → Prop, R true M → tt (sl d) M R)
    (hin : ∀ d ∈ items, ∀ (acc : List Da) (C : List Da → Mem → Prop), acc.length ≤ 900000 → C (acc ++ out d) M → mi (sl d) M fun I1 M4 => lcIn I1.still g1 tt1 te vs1 (sl d) C I1.items acc M4)
    (hS : still M) (q : Q (.lst (items.flatMap out)) M) : lcL2 still g tt mi g1 tt1 te vs vs1 ρ items [] M Q := by
  have go : ∀ (ds es : List Da), es ++ ds = items → lcL2 still g tt mi g1 tt1 te vs vs1 ρ ds (es.flatMap out) M Q := by
    intro ds
    induction ds with
    | nil =>
      intro es e
      rw [List.append_nil] at e
      subst e
      exact q
    | cons d ds ih =>
      intro es e
      have hd : d ∈ items := by rw [← e]; simp
      have hle : (es.flatMap out).length ≤ 900000 := by
        have e2 : (items.flatMap out).length = (es.flatMap out).length + ((d :: ds).flatMap out).length := by
          rw [← e, List.flatMap_append, List.length_append]
        omega
      unfold lcL2
      refine hg d hd _ (ht d hd _ (iteT (hin d hd _ _ hle ⟨hS, ?_⟩)))
      have e3 : es.flatMap out ++ out d = (es ++ [d]).flatMap out := by simp
      rw [e3]
      exact ih (es ++ [d]) (by rw [List.append_assoc]; exact e)
  exact go items [] rfl
/-! eqD, pair by pair of constructors -/
theorem eqD_non_non   : eqD (.non) (.non) = true := rfl
theorem eqD_non_bl  (b : Bool) : eqD (.non) (.bl b) = false := rfl
theorem eqD_non_int  (b : Int) : eqD (.non) (.int b) = false := rfl
theorem eqD_non_str  (b : Str) : eqD (.non) (.str b) = false := rfl
theorem eqD_non_tup  (b : List Da) : eqD (.non) (.tup b) = false := rfl
theorem eqD_non_lst  (b : List Da) : eqD (.non) (.lst b) = false := rfl
theorem eqD_non_dct  (b : List (Key × Da)) : eqD (.non) (.dct b) = false := rfl
theorem eqD_non_obj  (b : Str) (b' : List (Str × Da)) : eqD (.non) (.obj b b') = false := rfl
theorem eqD_bl_non (a : Bool)  : eqD (.bl a) (.non) = false := rfl
theorem eqD_bl_bl (a : Bool) (b : Bool) : eqD (.bl a) (.bl b) = decide (a = b) := rfl
theorem eqD_bl_int (a : Bool) (b : Int) : eqD (.bl a) (.int b) = ((if a then 1 else 0) == b) := rfl
theorem eqD_bl_str (a : Bool) (b : Str) : eqD (.bl a) (.str b) = false := rfl
theorem eqD_bl_tup (a : Bool) (b : List Da) : eqD (.bl a) (.tup b) = false := rfl
theorem eqD_bl_lst (a : Bool) (b : List Da) : eqD (.bl a) (.lst b) = false := rfl
theorem eqD_bl_dct (a : Bool) (b : List (Key × Da)) : eqD (.bl a) (.dct b) = false := rfl
theorem eqD_bl_obj (a : Bool) (b : Str) (b' : List (Str × Da)) : eqD (.bl a) (.obj b b') = false := rfl
theorem eqD_int_non (a : Int)  : eqD (.int a) (.non) = false := rfl
theorem eqD_int_bl (a : Int) (b : Bool) : eqD (.int a) (.bl b) = (a == (if b then 1 else 0)) := rfl
theorem eqD_int_int (a : Int) (b : Int) : eqD (.int a) (.int b) = decide (a = b) := rfl
theorem eqD_int_str (a : Int) (b : Str) : eqD (.int a) (.str b) = false := rfl
theorem eqD_int_tup (a : Int) (b : List Da) : eqD (.int a) (.tup b) = false := rfl
theorem eqD_int_lst (a : Int) (b : List Da) : eqD (.int a) (.lst b) = false := rfl
theorem eqD_int_dct (a : Int) (b : List (Key × Da)) : eqD (.int a) (.dct b) = false := rfl
theorem eqD_int_obj (a : Int) (b : Str) (b' : List (Str × Da)) : eqD (.int a) (.obj b b') = false := rfl
theorem eqD_str_non (a : Str)  : eqD (.str a) (.non) = false := rfl
theorem eqD_str_bl (a : Str) (b : Bool) : eqD (.str a) (.bl b) = false := rfl
theorem eqD_str_int (a : Str) (b : Int) : eqD (.str a) (.int b) = false := rfl
theorem eqD_str_str (a : Str) (b : Str) : eqD (.str a) (.str b) = decide (a = b) := rfl
theorem eqD_str_tup (a : Str) (b : List Da) : eqD (.str a) (.tup b) = false := rfl
theorem eqD_str_lst (a : Str) (b : List Da) : eqD (.str a) (.lst b) = false := rfl
theorem eqD_str_dct (a : Str) (b : List (Key × Da)) : eqD (.str a) (.dct b) = false := rfl
theorem eqD_str_obj (a : Str) (b : Str) (b' : List (Str × Da)) : eqD (.str a) (.obj b b') = false := rfl
theorem eqD_tup_non (a : List Da)  : eqD (.tup a) (.non) = false := rfl
theorem eqD_tup_bl (a : List Da) (b : Bool) : eqD (.tup a) (.bl b) = false := rfl
theorem eqD_tup_int (a : List Da) (b : Int) : eqD (.tup a) (.int b) = false := rfl
theorem eqD_tup_str (a : List Da) (b : Str) : eqD (.tup a) (.str b) = false := rfl
theorem eqD_tup_tup (a : List Da) (b : List Da) : eqD (.tup a) (.tup b) = eqL a b := rfl
theorem eqD_tup_lst (a : List Da) (b : List Da) : eqD (.tup a) (.lst b) = false := rfl
theorem eqD_tup_dct (a : List Da) (b : List (Key × Da)) : eqD (.tup a) (.dct b) = false := rfl
theorem eqD_tup_obj (a : List Da) (b : Str) (b' : List (Str × Da)) : eqD (.tup a) (.obj b b') = false := rfl
theorem eqD_lst_non (a : List Da)  : eqD (.lst a) (.non) = false := rfl
theorem eqD_lst_bl (a : List Da) (b : Bool) : eqD (.lst a) (.bl b) = false := rfl
theorem eqD_lst_int (a : List Da) (b : Int) : eqD (.lst a) (.int b) = false := rfl
theorem eqD_lst_str (a : List Da) (b : Str) : eqD (.lst a) (.str b) = false := rfl
theorem eqD_lst_tup (a : List Da) (b : List Da) : eqD (.lst a) (.tup b) = false := rfl
theorem eqD_lst_lst (a : List Da) (b : List Da) : eqD (.lst a) (.lst b) = eqL a b := rfl
theorem eqD_lst_dct (a : List Da) (b : List (Key × Da)) : eqD (.lst a) (.dct b) = false := rfl
theorem eqD_lst_obj (a : List Da) (b : Str) (b' : List (Str × Da)) : eqD (.lst a) (.obj b b') = false := rfl
theorem eqD_dct_non (a : List (Key × Da))  : eqD (.dct a) (.non) = false := rfl
theorem eqD_dct_bl (a : List (Key × Da)) (b : Bool) : eqD (.dct a) (.bl b) = false := rfl
theorem eqD_dct_int (a : List (Key × Da)) (b : Int) : eqD (.dct a) (.int b) = false := rfl
theorem eqD_dct_str (a : List (Key × Da)) (b : Str) : eqD (.dct a) (.str b) = false := rfl
theorem eqD_dct_tup (a : List (Key × Da)) (b : List Da) : eqD (.dct a) (.tup b) = false := rfl
theorem eqD_dct_lst (a : List (Key × Da)) (b : List Da) : eqD (.dct a) (.lst b) = false := rfl
theorem eqD_dct_dct (a : List (Key × Da)) (b : List (Key × Da)) : eqD (.dct a) (.dct b) = false := rfl
theorem eqD_dct_obj (a : List (Key × Da)) (b : Str) (b' : List (Str × Da)) : eqD (.dct a) (.obj b b') = false := rfl
theorem eqD_obj_non (a : Str) (a' : List (Str × Da))  : eqD (.obj a a') (.non) = false := rfl
theorem eqD_obj_bl (a : Str) (a' : List (Str × Da)) (b : Bool) : eqD (.obj a a') (.bl b) = false := rfl
theorem eqD_obj_int (a : Str) (a' : List (Str × Da)) (b : Int) : eqD (.obj a a') (.int b) = false := rfl
theorem eqD_obj_str (a : Str) (a' : List (Str × Da)) (b : Str) : eqD (.obj a a') (.str b) = false := rfl
theorem eqD_obj_tup (a : Str) (a' : List (Str × Da)) (b : List Da) : eqD (.obj a a') (.tup b) = false := rfl
theorem eqD_obj_lst (a : Str) (a' : List (Str × Da)) (b : List Da) : eqD (.obj a a') (.lst b) = false := rfl
theorem eqD_obj_dct (a : Str) (a' : List (Str × Da)) (b : List (Key × Da)) : eqD (.obj a a') (.dct b) = false := rfl
theorem eqD_obj_obj (a : Str) (a' : List (Str × Da)) (b : Str) (b' : List (Str × Da)) : eqD (.obj a a') (.obj b b') = false := rfl
theorem eqL_nn : eqL [] [] = true := rfl
theorem eqL_nc (y : Da) (ys : List Da) : eqL [] (y :: ys) = false := rfl
theorem eqL_cn (y : Da) (ys : List Da) : eqL (y :: ys) [] = false := rfl
theorem eqL_cc (x y : Da) (xs ys : List Da) : eqL (x :: xs) (y :: ys) = (eqD x y && eqL xs ys) := rfl
end Z

/-! L11: str(o) by an own __str__, o == y with y no instance, f-strings, xs[::-1] -/
namespace Z
open PySem PySem.Spec PyProof.Rows L2 Evl
section
variable {X : Cx} {k n : Nat} {ps : List Str} {sp : Sp} {C m : Str} {pm : List Nat} {dvs : List V}
theorem run_in2 {pins : List (Addr × Obj)} {σ : L2.St} {H : Hp} {s : Shared} {Q : VK} {a : Addr} {us : List Value} {vs : List V} {E' : Value → Shared → Prop} (F : FokM X.prog X.w X.K X.mg X.base CX0 k C m ps sp n [] dvs pm) (hr : Room (k + 2) X.A)
    (I : Inv X pins σ H s) (r : Vals vs us) (l1 : vs.length = n) (h : sp (perm pm ((V.ref a :: vs) ++ dvs)) H Q E0) : wpAny (model X.prog X.w) X.A.in1.in1 (call (.ref (He.ma X.K (He.ga X.K C) m)) (Value.ref a :: us)) (EP X pins σ Q) E' s := by
  obtain ⟨fd, ds, rd, F1, b⟩ := F.ex
  have r1 : Vals (V.ref a :: vs) (Value.ref a :: us) := .cons rfl r
  have n1 : (Value.ref a :: us).length = n + 1 := by rw [List.length_cons, ← r.length, l1]
  have b1 := b s (Value.ref a :: us) [] I.kIn n1 rfl
  rw [List.append_nil] at b1
  refine wpAny_call (codeAny_mono (F1.run X.A.in1.in1 X.stack s H ⟨Value.ref a :: us, []⟩ (perm pm ((Value.ref a :: us) ++ ds)) (perm pm ((V.ref a :: vs) ++ dvs)) Q E0 hr.in1.in1 I.env0.in1.in1 b1 (perm_rel (r1.append rd) pm) h) fun r s' hq => ?_)
  cases r with
  | error e => exact hq.elim
  | ok fl =>
    cases fl with
    | ret u => exact I.after hq
    | next => exact False.elim hq
    | brk => exact False.elim hq
    | cont => exact False.elim hq
/-- str(o) by an own __str__ -/
def rStrO (K : PySem.W.Frag) (C : Str) (pm : List Nat) (sp : Sp) (dvs : List V) : List V → Hp → VK → Prop := fun xs H Q => ∃ a dx fs, xs = [.ref a] ∧ H a = some (.ins (He.ga K C) dx fs) ∧ sp (perm pm ([V.ref a] ++ dvs)) H (fun v H' => ∃ z : Str, v = .str z ∧ Q (.str z) H') E0
theorem call_strO (hm : Meth X.K (He.ga X.K C) "__str__" (He.ma X.K (He.ga X.K C) "__str__")) (F : FokM X.prog X.w X.K X.mg X.base CX0 k C "__str__" ps sp 0 [] dvs pm) (hr : Room (k + 2) X.A) : CallR X (.type "str") (rStrO X.K C pm sp dvs) := by
  intro pins s σ H xs us Q I r h
  obtain ⟨a, dx, fs, rfl, ha, hq⟩ := h
  obtain ⟨u, rfl, ru⟩ := vals1 r
  cases ru
  obtain ⟨mA, O, _⟩ := ins_get I.hok ha
  obtain ⟨od, J, _⟩ := O.look
  refine PySem.W.kso_call hr.in1.in1.units0 I.kIn J hm.at_ hm.fn (wpAny_mono (run_in2 (us := []) F hr I .nil rfl hq) (fun v s' hv => ?_) fun _ _ z => z)
  obtain ⟨w, H', I', rw_, z, rfl, q⟩ := hv
  obtain ⟨t, rfl⟩ := rw_
  exact ⟨.str z, H', I', ⟨_, rfl⟩, q⟩
theorem notFirst_ty {K : PySem.W.Frag} {C : Addr} {T : String} (h : T ∈ (["NoneType", "bool", "int", "str", "tuple", "list", "dict"] : List String)) : PySem.W.notFirst K C (.type T) = true := by
  simp only [List.mem_cons, List.not_mem_nil, or_false] at h
  rcases h with rfl | rfl | rfl | rfl | rfl | rfl | rfl <;> rfl
/-- o == y, an instance and a thing of a built-in type, by an own __eq__ -/
def rEqX (K : PySem.W.Frag) (C : Str) (pm : List Nat) (sp : Sp) (dvs : List V) : R2 := fun x y H Q => ∃ a dx fs T, x = .ref a ∧ H a = some (.ins (He.ga K C) dx fs) ∧ TyX K H y (.type T) ∧ T ∈ (["NoneType", "bool", "int", "str", "tuple", "list", "dict"] : List String) ∧ sp (perm pm ([V.ref a, y] ++ dvs)) H (fun v H' => ∃ i : Bool, v = .bl i ∧ Q (.bl i) H') E0
theorem op_eqX (hm : Meth X.K (He.ga X.K C) "__eq__" (He.ma X.K (He.ga X.K C) "__eq__")) (F : FokM X.prog X.w X.K X.mg X.base CX0 k C "__eq__" ps sp 1 [] dvs pm) (hr : Room k X.A) : OpR X (compareOp .Eq) (rEqX X.K C pm sp dvs) := by
  intro pins s σ H x y v u Q I rx ry h
  obtain ⟨a, dx, fs, T, rfl, ha, ty, hT, hq⟩ := h
  cases rx
  obtain ⟨mA, O, _⟩ := ins_get I.hok ha
  obtain ⟨od, J, _⟩ := O.look
  obtain ⟨P, kx, hP, _⟩ := L2.kit_of I ry ty
  obtain ⟨m, hF⟩ := I.fr
  refine PySem.W.cmp_ofEq (PySem.W.cmp_K (op := .Eq) (tb := .type T) hr.units0 hF I.ok.mod.kin J (kx.ty _ _ I.kIn hP) (notFirst_ty hT) hm.at_ hm.fn (wpAny_mono (run_at (us := [u]) (vs := [y]) F hr I (.cons ry .nil) rfl hq) (fun v s' hv => ?_) fun _ _ z => z))
  obtain ⟨w, H', I', rw_, i, rfl, q⟩ := hv
  cases rw_
  exact ⟨.bl i, H', I', rfl, q⟩
/-! ### f-strings -/
abbrev TJ := Str → L2.St → Hp → (Str → Hp → Prop) → Prop
def jNil : TJ := fun acc _ H Q => Q acc H
def jCons (t : TE) (r : TJ) : TJ := fun acc σ H Q => t σ H fun x H1 => ∃ y : Str, x = .str y ∧ (acc ++ y).length ≤ sizeLine ∧ r (acc ++ y) σ H1 Q
inductive PJs (X : Cx) : List Expr → TJ → Prop where
  | nil : PJs X [] jNil
  | cons {e : Expr} {t : TE} {es : List Expr} {r : TJ} (h : PE X e t) (q : PJs X es r) : PJs X (e :: es) (jCons t r)
theorem PJs.old {es : List Expr} {r : TJ} (h : PJs X es r) : ∃ ts, PJ X es ts ∧ r = tJs ts := by
  induction h with
  | nil => exact ⟨[], .nil, rfl⟩
  | cons h _ ih =>
    obtain ⟨ts, q, rfl⟩ := ih
    exact ⟨_, .cons h q, rfl⟩
def tJoin (r : TJ) : TE := fun σ H Q => r Str.empty σ H fun out H1 => Q (.str out) H1
theorem pe_join {v1 v2 : Expr} {rest : List Expr} {r : TJ} {pos : Pos} (h : PJs X (v1 :: v2 :: rest) r) : PE X (.JoinedStr (v1 :: v2 :: rest) pos) (tJoin r) := by
  obtain ⟨ts, q, rfl⟩ := h.old
  exact pe_joined q
end
end Z

/-! T15: str(o), o == y, f-strings, xs[::-1] over data -/
namespace Z
open PySem PySem.Spec PyProof.Rows L2 Evl
section
variable {K : PySem.W.Frag} {χ φ : List Addr} {H : Hp} {M : Mem}
def nStrO (c : Str) (pm : List Nat) (f : MP) (dfs : List Da) : List Da → Mem → TK → Prop := fun ds M Q => match ds with
  | [x] => match look M x with
    | .obj c1 _ => c1 = c ∧ f (perm pm ([x] ++ dfs)) M (fun d M' => ∃ z : Str, d = .str z ∧ Q (.str z) M') XD0
    | _ => False
  | _ => False
theorem C_strO {c : Str} {pm : List Nat} {f : MP} {dvs : List V} {dfs : List Da} (D : DfL K dvs dfs) : SC K (rStrO K c pm (up K f) dvs) (nStrO c pm f dfs) := by
  intro χ H φ M x dx Q Q' m hx fe h
  unfold nStrO at h
  split at h
  · obtain ⟨v, rfl, h1⟩ := hx.one
    split at h
    · rename_i c' fds e
      obtain ⟨rfl, h⟩ := h
      obtain ⟨a, dd, fs, rfl, ha, rf⟩ := vO m h1 e
      refine ⟨a, dd, fs, rfl, ha, φ, χ, M, _, _, _, ((RpL.cons h1 .nil).app (D _ _ _)).perm pm, m, ?_, FX0, h⟩
      rintro v d H' φ' M' A m' r' ⟨z, rfl, q⟩
      obtain ⟨rfl, hz⟩ := vStr r'
      exact ⟨z, rfl, fe _ _ _ _ _ A m' (.str hz) q⟩
    · exact h.elim
  · exact h.elim
def nEqX (c : Str) (pm : List Nat) (f : MP) (dfs : List Da) : MO := fun x y M Q => match look M x with
  | .obj c1 _ => c1 = c ∧ (tyDa M y).isSome = true ∧ f (perm pm ([x, y] ++ dfs)) M (fun d M' => ∃ b : Bool, d = .bl b ∧ Q (.bl b) M') XD0
  | _ => False
theorem O_eqX {c : Str} {pm : List Nat} {f : MP} {dvs : List V} {dfs : List Da} (D : DfL K dvs dfs) : SO K (rEqX K c pm (up K f) dvs) (nEqX c pm f dfs) := by
  intro χ H φ M x y dx dy Q Q' m hx hy fe h
  unfold nEqX at h
  split at h
  · rename_i c1 fds e1
    obtain ⟨rfl, t, h⟩ := h
    obtain ⟨T, hT⟩ := Option.isSome_iff_exists.1 t
    obtain ⟨a, dd, fs, rfl, ha, rf⟩ := vO m hx e1
    refine ⟨a, dd, fs, T, rfl, ha, tyDa_X m hy hT, tyDa_in hT, φ, χ, M, _, _, _, ((RpL.cons hx (.cons hy .nil)).app (D _ _ _)).perm pm, m, ?_, FX0, h⟩
    rintro v d H' φ' M' A m' r' ⟨i, rfl, q⟩
    obtain rfl := vBl r'
    exact ⟨i, rfl, fe _ _ _ _ _ A m' (.bl i) q⟩
  · exact h.elim
/-! f-strings -/
abbrev MJ := Str → Sl → Mem → (Str → Mem → Prop) → Prop
def kNil : MJ := fun acc _ M Q => Q acc M
def kCons (t : ME) (r : MJ) : MJ := fun acc ρ M Q => t ρ M fun d M1 => match d with
  | .str y => (acc ++ y).length ≤ sizeLine ∧ r (acc ++ y) ρ M1 Q
  | _ => False
def mJoin (r : MJ) : ME := fun ρ M Q => r Str.empty ρ M fun out M1 => Q (.str out) M1
def mFmt (t : ME) : ME := fun ρ M Q => t ρ M fun d M1 => match d with
  | .str y => Q (.str y) M1
  | .int i => i.natAbs.log2 < 1920 ∧ (toString i : Str).length ≤ sizeLine ∧ Q (.str (toString i)) M1
  | _ => False
def FJ (K : PySem.W.Frag) (χ : List Addr) (H : Hp) (φ : List Addr) (Q' : Str → Mem → Prop) (Q : Str → Hp → Prop) : Prop := ∀ z H' φ' M', z.length ≤ sizeLine → Adv H φ H' φ' → Mm K H' φ' χ M' → Q' z M' → Q z H'
theorem FJ.adv {H1 : Hp} {φ1 : List Addr} {Q' : Str → Mem → Prop} {Q : Str → Hp → Prop} (f : FJ K χ H φ Q' Q) (A : Adv H φ H1 φ1) : FJ K χ H1 φ1 Q' Q := fun z H' φ' M' l B => f z H' φ' M' l (A.trans B)
structure SJ (K : PySem.W.Frag) (tj : WX → TJ) (mj : WD → MJ) : Prop where
  run : ∀ {χ W W' σ H φ ρ M Q Q' acc}, acc.length ≤ sizeLine → Rs K H φ χ σ ρ → Mm K H φ χ M → FW K χ H φ W' W → FJ K χ H φ Q' Q → mj W' acc ρ M Q' → tj W acc σ H Q
variable {te : WX → TE} {me : WD → ME} {tj : WX → TJ} {mj : WD → MJ}
theorem K_nil : SJ K (fun _ => jNil) (fun _ => kNil) := ⟨fun l _ m _ f h => f _ _ _ _ l Adv.refl m h⟩
theorem K_cons (a : SE K te me) (s : SJ K tj mj) : SJ K (fun W => jCons (te W) (tj W)) (fun W => kCons (me W) (mj W)) := ⟨fun _ r m w f h =>
  a.run r m w (fun v d H1 φ1 M1 A1 m1 r1 h1 => by
    cases d with
    | str y =>
      obtain ⟨rfl, _⟩ := vStr r1
      exact ⟨y, rfl, h1.1, s.run h1.1 (r.adv A1) m1 (w.adv A1) (f.adv A1) h1.2⟩
    | _ => exact h1.elim) h⟩
theorem E_join (s : SJ K tj mj) : SE K (fun W => tJoin (tj W)) (fun W => mJoin (mj W)) := ⟨fun r m w f h =>
  s.run (by show (0 : Nat) ≤ sizeLine; exact Nat.zero_le _) r m w (fun z H1 φ1 M1 l A m1 q => f _ _ _ _ _ A m1 (.str l) q) h⟩
theorem E_fmt (a : SE K te me) : SE K (fun W => tFmt (te W)) (fun W => mFmt (me W)) := ⟨fun r m w f h =>
  a.run r m w (fun v d H1 φ1 M1 A1 m1 r1 h1 => by
    cases d with
    | str y =>
      obtain ⟨rfl, l⟩ := vStr r1
      exact .inl ⟨y, rfl, l, f _ _ _ _ _ A1 m1 (.str l) h1⟩
    | int i =>
      obtain rfl := vInt r1
      exact .inr ⟨i, rfl, h1.1, f _ _ _ _ _ A1 m1 (.str h1.2.1) h1.2.2⟩
    | _ => exact h1.elim) h⟩
/-! xs[::-1] -/
def mRev (t : ME) : ME := fun ρ M Q => t ρ M fun d M1 => match look M1 d with
  | .lst ds => Q (.lst ds.reverse) M1
  | _ => False
theorem RpL.rev {vs : List V} {ds : List Da} (r : RpL K H φ χ vs ds) : RpL K H φ χ vs.reverse ds.reverse := by
  have go : ∀ {vs : List V} {ds : List Da} {ws : List V} {es : List Da}, RpL K H φ χ vs ds → RpL K H φ χ ws es → RpL K H φ χ (vs.reverseAux ws) (ds.reverseAux es) := by
    intro vs
    induction vs with
    | nil => intro ds ws es h q; cases h; exact q
    | cons v vs ih => intro ds ws es h q; cases h with | @cons _ d _ ds' h1 r1 => exact ih (ds := ds') (es := d :: es) (ws := v :: ws) r1 (.cons h1 q)
  exact go r .nil
theorem E_rev (a : SE K te me) : SE K (fun W => tRevL K (te W)) (fun W => mRev (me W)) := ⟨fun r m w f h =>
  a.run r m w (fun v d H1 φ1 M1 A1 m1 r1 h1 => by
    split at h1
    · rename_i ds e
      obtain ⟨b, vs, rfl, hs, rr⟩ := vL m1 r1 e
      exact ⟨b, vs, rfl, hs, fun p hp => (f.adv A1).lst m1 rr.rev hp h1⟩
    · exact h1.elim) h⟩
end
end Z

/-! L12: sorted(texts), sorted(dict), dict(pairs), < of tuples of ints, statements and expressions while a dict is locked -/
namespace Z
open PySem PySem.Spec PyProof.Rows L2 Evl
section
variable {X : Cx}
def rSortD : List V → Hp → VK → Prop := fun xs H Q => ∃ (a : Addr) (kvs : List (Key × V)) (ks : List Str), xs = [.ref a] ∧ Rd H a (.dK kvs) ∧ kvs.map (·.1) = ks.map Sum.inr ∧ ks.length < 64 ∧
    ∀ ys p, ys.Perm ks → sortedS ys = true → H p = none → Q (.ref p) (upd H p (.lst (ys.map V.str)))
def rSortA (K : PySem.W.Frag) : List V → Hp → VK → Prop := fun xs H Q => rSortedS K xs H Q ∨ rSortD xs H Q
theorem call_sortA (hc : X.calm = true) : CallR X (.builtin "sorted") (rSortA X.K) := CallR.or cr_sortedS (call_sortedD hc)
def rDictP (K : PySem.W.Frag) : List V → Hp → VK → Prop := fun xs H Q => ∃ (a : Addr) (ps : List Addr) (kvs : List (Key × V)), xs = [.ref a] ∧ SqL K H a (ps.map V.ref) ∧ Paired (fun p kv => SqT K H p [kV kv.1, kv.2]) ps kvs ∧
    ∀ p, H p = none → Q (.ref p) (upd H p (.dK (mergeK [] kvs)))
theorem call_dictA (hc : X.calm = true) : CallR X (.type "dict") (rDictP X.K) := call_dictP hc
def ltT (ns ms : List Int) : Bool := Ob.lexAt (fun j => decide (ns.getD j 0 = ms.getD j 0)) (fun j => decide (ns.getD j 0 < ms.getD j 0)) (decide (ns.length < ms.length)) 0 (min ns.length ms.length)
def rLtT (K : PySem.W.Frag) : R2 := fun x y H Q => ∃ (a b : Addr) (ns ms : List Int), x = .ref a ∧ y = .ref b ∧ SqT K H a (ns.map V.int) ∧ SqT K H b (ms.map V.int) ∧ Q (.bl (ltT ns ms)) H
theorem op_ltT (hu : X.A.units < cLine) : OpR X (compareOp .Lt) (rLtT X.K) := by
  intro pins s σ H x y v u Q I rx ry h
  obtain ⟨a, b, ns, ms, rfl, rfl, ha, hb, q⟩ := h
  cases rx
  cases ry
  obtain ⟨its, r1, p1, _⟩ := I.tuple ha
  obtain ⟨its2, r2, p2, _⟩ := I.tuple hb
  have i1 : IntsAre its ns := Vals.ints r1
  have i2 : IntsAre its2 ms := Vals.ints r2
  have e1 : its.toArray.size = ns.length := by rw [List.size_toArray]; exact i1.length
  have e2 : its2.toArray.size = ms.length := by rw [List.size_toArray]; exact i2.length
  have at1 : ∀ j (h1 : j < its.toArray.size), ∃ t, its.toArray[j] = .int (ns.getD j 0) t := fun j h1 => PyProof.Rows.IntsAre.int_at i1 _ _ (by simp at h1; simp [h1])
  have at2 : ∀ j (h1 : j < its2.toArray.size), ∃ t, its2.toArray[j] = .int (ms.getD j 0) t := fun j h1 => PyProof.Rows.IntsAre.int_at i2 _ _ (by simp at h1; simp [h1])
  have R := Ob.RcOp.tuples_lt (A := X.A) (s := s) (e := fun j => decide (ns.getD j 0 = ms.getD j 0)) (r := fun j => decide (ns.getD j 0 < ms.getD j 0)) p1 p2 hu (fun j h1 h2 => by
    obtain ⟨t, et⟩ := at1 j h1
    obtain ⟨t', et'⟩ := at2 j h2
    rw [et, et']
    have z : (ns.getD j 0 == ms.getD j 0) = decide (ns.getD j 0 = ms.getD j 0) := by
      by_cases q : ns.getD j 0 = ms.getD j 0
      · rw [decide_eq_true q]; exact beq_iff_eq.mpr q
      · rw [decide_eq_false q]; exact beq_eq_false_iff_ne.mpr q
    rw [← z]
    exact SeqAt.EqAt.int_int _ _ _ _) (fun j h1 h2 _ => by
    obtain ⟨t, et⟩ := at1 j h1
    obtain ⟨t', et'⟩ := at2 j h2
    rw [et, et']
    exact Ob.RcOp.lt_int _ _ _ _)
  rw [e1, e2] at R
  have z : wpAny (model X.prog X.w) X.A (compareOp .Lt (.ref a) (.ref b)) (EP X pins σ Q) X.xe s := R X.prog X.w X.xe (EP X pins σ Q) ⟨.bl _, H, I, rfl, q⟩
  exact z
/-! ### while a dict is locked -/
def lkW (W : WX) (d : Addr) (od : Obj) (u : HO) : WX := fun c x σ' H' => H' d = some (.frz od u) ∧ W c x σ' (upd H' d u)
def lkD (D : Ends) (d : Addr) (od : Obj) (u : HO) : Ends := ⟨fun σ' H' => H' d = some (.frz od u) ∧ D.nx σ' (upd H' d u), fun v H' => H' d = some (.frz od u) ∧ D.rt v (upd H' d u), fun σ' H' => H' d = some (.frz od u) ∧ D.bk σ' (upd H' d u), fun σ' H' => H' d = some (.frz od u) ∧ D.ct σ' (upd H' d u)⟩
def tLockW (t : WX → TS) (W : WX) : TS := fun D σ H => (∃ d u, H d = some u ∧ Mut (some u) ∧ ∀ od, t (lkW W d od u) (lkD D d od u) σ (upd H d (.frz od u))) ∨ t W D σ H
theorem takes_lock {W : WX} {d : Addr} {od : Obj} {u : HO} (tk : L2.Takes X W) (hn : ∀ o' u', X.H_0 d ≠ some (.frz o' u')) : L2.Takes X (lkW W d od u) := fun e s' ⟨a, B, sI, pins, σ, H, cls, dd, eu, I, nb, up, sky, na, os, ag, e1, w⟩ =>
  tk e s' ⟨a, B, sI, pins, σ, _, cls, dd, eu, I.unlock e1 hn, nb, up, sky, by rw [upd_ne (fun q => by rw [q, e1] at na; cases na)]; exact na, os, ag, w⟩
theorem ps_lockW {st : Stmt} {t : WX → TS} {W : WX} (tk : L2.Takes X W) (h : ∀ W2, L2.Takes X W2 → PS X st (t W2)) : PS X st (tLockW t W) := by
  refine ⟨fun pins s σ H D I hw => ?_⟩
  rcases hw with ⟨d, u, hd, mu, hw⟩ | hw
  · obtain ⟨od, I1⟩ := I.lock hd mu
    have hn := I.nofrz hd mu
    refine thn ((h _ (takes_lock tk hn)).run pins s σ _ _ I1 (hw od)) fun f s1 q => ?_
    cases f with
    | next => obtain ⟨σ', H', I2, e, q⟩ := q; exact ⟨σ', _, I2.unlock e hn, q⟩
    | brk => obtain ⟨σ', H', I2, e, q⟩ := q; exact ⟨σ', _, I2.unlock e hn, q⟩
    | cont => obtain ⟨σ', H', I2, e, q⟩ := q; exact ⟨σ', _, I2.unlock e hn, q⟩
    | ret v => obtain ⟨x, σ', H', I2, r, e, q⟩ := q; exact ⟨x, σ', _, I2.unlock e hn, r, q⟩
  · exact (h W tk).run pins s σ H D I hw
theorem takes_no : L2.Takes X (fun _ _ _ _ => False) := fun e s' ⟨a, B, sI, pins, σ, H, cls, dd, eu, I, nb, up, sky, na, os, ag, w⟩ => w.elim
def tLockO (t : TE) : TE := fun σ H Q => tLockE t σ H Q ∨ t σ H Q
theorem pe_lockO {e : Expr} {t : TE} (h : PE X e t) : PE X e (tLockO t) := ⟨fun pins s σ H Q I hw => hw.elim ((pe_lock h).run pins s σ H Q I) (h.run pins s σ H Q I)⟩
/-- a, b = .. of a tuple or a list -/
def gTL (K : PySem.W.Frag) (n : Nat) (t : TGs) : TG := fun v σ H Q => gTup K n t v σ H Q ∨ gLst K n t v σ H Q
theorem pg_tl {es : List Expr} {k : Nat} {t : TGs} {n : Nat} {pos : Pos} (hc : X.calm = true) (h : PGs X es t)
    (hn : (assignEach es X.env).length = n := by rfl) (hst : (assignEach es X.env).findIdx? (·.1) = none := by rfl) : PG X (.Tuple es k pos) (gTL X.K n t) :=
  ⟨fun pins s σ H v u Q I r hw => hw.elim ((pg_tup hc h hn hst).run pins s σ H v u Q I r) ((pg_lst hc h hn hst).run pins s σ H v u Q I r)⟩
end
/-- what a call binds where defaults and keyword-only ones fill up -/
theorem mbindsD {K : PySem.W.Frag} {x qual : Str} {params : Arguments} {body : List Stmt} {scope : Scope} {dvs : List V} {kws : List (Str × V)} {f : Addr} {fd : FuncData} {ps ks : List Str} {n j : Nat} {p : List Nat} {ms : List (Str × V)} (F : FunD K x qual params body scope dvs kws f fd) (hd : dvs ≠ []) (hk : kws ≠ []) (hms : ∀ q ∈ ms, q ∈ kws)
    (h : ∀ (T D : Addr) (doc pm : Value) (an : Option Addr) (cdv ct : Value) (us its mv ws : List Value), us.length = n + 1 → its.length = dvs.length → mv.length = ms.length → ws.length = ks.length →
      ∃ k, bindArgs (PySem.W.fnOf x qual params body scope (.ref T) (.ref D) doc pm an cdv ct) ⟨us, ks.zip ws⟩ = seqItems? (.ref T) >>= k ∧ KwChain D ((ms.map (·.1)).zip mv) (k (some its.toArray)) (ps.zip (perm p (us ++ ws ++ (its.drop j ++ mv))))) :
    ∃ ds, Vals (dvs.drop j ++ ms.map (·.2)) ds ∧ ∀ (s : Shared) (us ws : List Value), K.In s.heap → us.length = n + 1 → ws.length = ks.length → BindsTo s fd ⟨us, ks.zip ws⟩ (ps.zip (perm p (us ++ ws ++ ds))) := by
  obtain ⟨oc, od, dV, kV, doc, pm, an, cdv, ct, osl, rfl, lk, hcd, hD, hK⟩ := F.ex
  rcases hD with ⟨e, _⟩ | ⟨_, T, o, its, m, rfl, lT, oT, rT⟩
  · exact absurd e hd
  · rcases hK with e | ⟨D, rfl, hq⟩
    · exact absurd e hk
    · obtain ⟨mv, hl, rk, hks⟩ := kwd_vals (ms := ms) fun q hm => hq q (hms q hm)
      refine ⟨its.drop j ++ mv, (rT.drop j).append rk, fun s us ws X l1 l2 => ?_⟩
      obtain ⟨k, e1, e2⟩ := h T D doc pm an cdv ct us its mv ws l1 rT.length.symm hl l2
      refine BindsTo.of_looks fun M => ?_
      rw [e1]
      exact looks_items X lT oT (KwChain.looks X hks e2)
end Z

/-! T16: sorted, dict(..), < of tuples, walks over dicts, over data (mkT16.py prints T16.lean from T16.tmpl) -/
namespace Z
open PySem PySem.Spec PyProof.Rows L2 Evl
section
variable {K : PySem.W.Frag} {χ φ : List Addr} {H : Hp} {M : Mem} {v : V} {d : Da}
/-! ### sorted -/
theorem strs_len : ∀ {ns : List Str} {vs : List V}, RpL K H φ χ vs (ns.map Da.str) → ∀ z ∈ ns, z.length ≤ sizeLine
  | [], _, _, z, hz => by cases hz
  | n :: ns, _, .cons h r, z, hz => by
    rcases List.mem_cons.1 hz with rfl | hz
    · exact (vStr h).2
    · exact strs_len r z hz
theorem strs_rp : ∀ {ns : List Str}, (∀ z ∈ ns, z.length ≤ sizeLine) → RpL K H φ χ (ns.map V.str) (ns.map Da.str)
  | [], _ => .nil
  | n :: ns, h => .cons (.str (h n (List.mem_cons_self ..))) (strs_rp fun z hz => h z (List.mem_cons_of_mem _ hz))
def keysS : List (Key × Da) → Option (List Str)
  | [] => some []
  | (.inr z, _) :: r => (keysS r).map (z :: ·)
  | _ => none
theorem keysS_of : ∀ {kvs : List (Key × V)} {kds : List (Key × Da)} {zs : List Str}, RpK K H φ χ kvs kds → keysS kds = some zs → kvs.map (·.1) = zs.map Sum.inr
  | _, _, _, .nil, e => by cases e; rfl
  | _, _, zs, .cons (k := k) (ds := ds) h r, e => by
    cases k with
    | inl i => cases e
    | inr z =>
      have e : (keysS ds).map (z :: ·) = some zs := e
      obtain ⟨ys, e1, rfl⟩ := Option.map_eq_some_iff.1 e
      rw [List.map_cons, List.map_cons, keysS_of r e1]
def nSort : List Da → Mem → TK → Prop := fun ds M Q => match ds with
  | [x] => match look M x with
    | .lst es => match strsD es with
      | some zs => zs.length < 64 ∧ ∀ ys, ys.Perm zs → sortedS ys = true → Q (.lst (ys.map Da.str)) M
      | none => False
    | .dct kds => match keysS kds with
      | some zs => zs.length < 64 ∧ (∀ z ∈ zs, z.length ≤ sizeLine) ∧ ∀ ys, ys.Perm zs → sortedS ys = true → Q (.lst (ys.map Da.str)) M
      | none => False
    | _ => False
  | _ => False
theorem C_sort : SC K (rSortA K) nSort := by
  intro χ H φ M x dx Q Q' m hx f h
  unfold nSort at h
  split at h
  · obtain ⟨v, rfl, h1⟩ := hx.one
    split at h
    · rename_i es e
      split at h
      · rename_i zs e2
        obtain ⟨a, vs, rfl, hs, r⟩ := vL m h1 e
        rw [strsD_of e2] at r
        have hl := strs_len r
        rw [r.strs] at hs
        exact .inl ⟨a, zs, rfl, hs, h.1, fun ys p pm so hp => f.lst m (strs_rp fun z hz => hl z (pm.mem_iff.1 hz)) hp (h.2 ys pm so)⟩
      · exact h.elim
    · rename_i kds e
      split at h
      · rename_i zs e2
        obtain ⟨a, kvs, rfl, hr, r⟩ := vD m h1 e
        exact .inr ⟨a, kvs, zs, rfl, hr, keysS_of r e2, h.1, fun ys p pm so hp => f.lst m (strs_rp fun z hz => h.2.1 z (pm.mem_iff.1 hz)) hp (h.2.2 ys pm so)⟩
      · exact h.elim
    · exact h.elim
  · exact h.elim
/-! ### dict(pairs) -/
def pairsD (M : Mem) : List Da → Option (List (Key × Da))
  | [] => some []
  | d :: r => match look M d with
    | .tup [x, y] => match keyD x, pairsD M r with
      | some k, some ks => some ((k, y) :: ks)
      | _, _ => none
    | _ => none
theorem pairsD_of (m : Mm K H φ χ M) : ∀ {ds : List Da} {ks : List (Key × Da)} {vs : List V}, RpL K H φ χ vs ds → pairsD M ds = some ks → ∃ (ps : List Addr) (kvs : List (Key × V)), vs = ps.map V.ref ∧ Paired (fun p (kv : Key × V) => SqT K H p [kV kv.1, kv.2]) ps kvs ∧ RpK K H φ χ kvs ks
  | [], ks, vs, r, e => by
    cases r
    cases e
    exact ⟨[], [], rfl, .nil, .nil⟩
  | d :: ds, ks, vs, r, e => by
    cases r with
    | cons h r =>
      unfold pairsD at e
      split at e
      · rename_i x y e1
        split at e
        · rename_i k kk e2 e3
          cases e
          obtain ⟨a, us, rfl, hs, ru⟩ := vT m h e1
          obtain ⟨ps, kvs, rfl, pp, rk⟩ := pairsD_of m r e3
          obtain ⟨u, w, rfl, hu, hw⟩ := ru.two
          rw [keyD_of hu e2] at hs
          exact ⟨a :: ps, (k, w) :: kvs, rfl, .cons hs pp, .cons hw rk⟩
        · cases e
      · cases e
def nDictP : List Da → Mem → TK → Prop := fun ds M Q => match ds with
  | [x] => match look M x with
    | .lst es => match pairsD M es with
      | some ks => Q (.dct (mergeD [] ks)) M
      | none => False
    | _ => False
  | _ => False
theorem C_dictP : SC K (rDictP K) nDictP := by
  intro χ H φ M x dx Q Q' m hx f h
  unfold nDictP at h
  split at h
  · obtain ⟨v, rfl, h1⟩ := hx.one
    split at h
    · rename_i es e
      split at h
      · rename_i ks e2
        obtain ⟨a, vs, rfl, hs, r⟩ := vL m h1 e
        obtain ⟨ps, kvs, rfl, pp, rk⟩ := pairsD_of m r e2
        refine ⟨a, ps, kvs, rfl, hs, pp, fun p hp => f _ _ _ _ _ (Adv.new hp) (m.new hp) (.dct upd_same rfl (m.nin hp) (fun c => m.hid p c hp) ((mergeD_run rk .nil).adv (Adv.new hp))) h⟩
      · exact h.elim
    · exact h.elim
  · exact h.elim
/-! ### < of tuples of ints -/
def intsD : List Da → Option (List Int)
  | [] => some []
  | .int i :: r => (intsD r).map (i :: ·)
  | _ => none
theorem intsD_of : ∀ {ds : List Da} {ns : List Int} {vs : List V}, RpL K H φ χ vs ds → intsD ds = some ns → vs = ns.map V.int
  | [], ns, vs, r, e => by cases r; cases e; rfl
  | d :: ds, ns, vs, r, e => by
    cases r with
    | cons h r =>
      cases d with
      | int i =>
        have e : (intsD ds).map (i :: ·) = some ns := e
        obtain ⟨ms, e1, rfl⟩ := Option.map_eq_some_iff.1 e
        rw [vInt h, intsD_of r e1]
        rfl
      | _ => cases e
def nLtT : MO := fun x y M Q => match look M x, look M y with
  | .tup a, .tup b => match intsD a, intsD b with
    | some ns, some ms => Q (.bl (ltT ns ms)) M
    | _, _ => False
  | _, _ => False
theorem O_ltT : SO K (rLtT K) nLtT := by
  intro χ H φ M x y dx dy Q Q' m hx hy f h
  unfold nLtT at h
  split at h
  · rename_i a b e1 e2
    split at h
    · rename_i ns ms e3 e4
      obtain ⟨p, vs, rfl, hs, r⟩ := vT m hx e1
      obtain ⟨q, us, rfl, hu, r2⟩ := vT m hy e2
      rw [intsD_of r e3] at hs
      rw [intsD_of r2 e4] at hu
      exact ⟨p, q, ns, ms, rfl, rfl, hs, hu, f.pure m (.bl _) h⟩
    · exact h.elim
  · exact h.elim
/-! ### a dict's lock is not seen by data -/
structure SameBut (D : Addr) (H1 H2 : Hp) (kvs : List (Key × V)) : Prop where
  ne : ∀ a, a ≠ D → H2 a = H1 a
  o1 : ∃ o, H1 D = some o ∧ coreD o = some kvs
  o2 : ∃ o, H2 D = some o ∧ coreD o = some kvs
section
variable {D : Addr} {H1 H2 : Hp} {kvs : List (Key × V)}
theorem SameBut.other (S : SameBut D H1 H2 kvs) {a : Addr} {o : HO} (h : H1 a = some o) (c : coreD o = none) : H2 a = some o := by
  by_cases e : a = D
  · obtain ⟨o', h1, c1⟩ := S.o1
    rw [← e, h] at h1
    cases h1
    rw [c] at c1
    cases c1
  · rw [S.ne a e]
    exact h
theorem SameBut.dct (S : SameBut D H1 H2 kvs) {a : Addr} {o : HO} {ks : List (Key × V)} (h : H1 a = some o) (c : coreD o = some ks) : ∃ o', H2 a = some o' ∧ coreD o' = some ks := by
  by_cases e : a = D
  · obtain ⟨o', h1, c1⟩ := S.o1
    obtain ⟨o2, h2, c2⟩ := S.o2
    rw [e, h1] at h
    cases h
    rw [c] at c1
    cases c1
    exact ⟨o2, by rw [e]; exact h2, c2⟩
  · exact ⟨o, by rw [S.ne a e]; exact h, c⟩
mutual
theorem Rp.same (S : SameBut D H1 H2 kvs) : ∀ {v : V} {d : Da}, Rp K H1 φ χ v d → Rp K H2 φ χ v d
  | _, _, .non => .non
  | _, _, .bl b => .bl b
  | _, _, .int i => .int i
  | _, _, .str h => .str h
  | _, _, .ty n => .ty n
  | _, _, .gl x => .gl x
  | _, _, .tup h n m r => .tup (S.other h rfl) n m (RpL.same S r)
  | _, _, .lst h n m r => .lst (S.other h rfl) n m (RpL.same S r)
  | _, _, .dct h c n m r => match S.dct h c with
    | ⟨_, h', c'⟩ => .dct h' c' n m (RpK.same S r)
  | _, _, .obj h n m r => .obj (S.other h rfl) n m (RpF.same S r)
  | _, _, .klR h e n m r => .klR (S.other h (by rcases e with rfl | ⟨ob, rfl⟩ <;> rfl)) e n m (RpL.same S r)
  | _, _, .klK h r => .klK h (RpL.same S r)
  | _, _, .ktK h r => .ktK h (RpL.same S r)
  | _, _, .cell h => .cell h
  | _, _, .exv h n m r => .exv (S.other h rfl) n m (RpF.same S r)
theorem RpL.same (S : SameBut D H1 H2 kvs) : ∀ {v : List V} {d : List Da}, RpL K H1 φ χ v d → RpL K H2 φ χ v d
  | _, _, .nil => .nil
  | _, _, .cons h r => .cons (Rp.same S h) (RpL.same S r)
theorem RpK.same (S : SameBut D H1 H2 kvs) : ∀ {v : List (Key × V)} {d : List (Key × Da)}, RpK K H1 φ χ v d → RpK K H2 φ χ v d
  | _, _, .nil => .nil
  | _, _, .cons h r => .cons (Rp.same S h) (RpK.same S r)
theorem RpF.same (S : SameBut D H1 H2 kvs) : ∀ {v : List (Str × V)} {d : List (Str × Da)}, RpF K H1 φ χ v d → RpF K H2 φ χ v d
  | _, _, .nil => .nil
  | _, _, .cons h r => .cons (Rp.same S h) (RpF.same S r)
end
theorem Mm.same (S : SameBut D H1 H2 kvs) (n : D ∉ φ) (m : Mm K H1 φ χ M) : Mm K H2 φ χ M where
  nd := m.nd
  len := m.len
  dis := m.dis
  hid := fun a ha => by
    by_cases e : a = D
    · obtain ⟨o2, h2, _⟩ := S.o2
      rw [e, h2]
      simp
    · rw [S.ne a e]
      exact m.hid a ha
  at_ := fun k a d e1 e2 => by
    have c := m.at_ k a d e1 e2
    have ne : a ≠ D := fun q => n (by rw [← q]; exact List.mem_of_getElem? e1)
    cases d with
    | lst ds => obtain ⟨vs, q, r⟩ := c; exact ⟨vs, by rw [S.ne a ne]; exact q, r.same S⟩
    | dct ds => obtain ⟨vs, q, r⟩ := c; exact ⟨vs, by rw [S.ne a ne]; exact q, r.same S⟩
    | obj c ds => obtain ⟨dx, vs, q, r⟩ := c; exact ⟨dx, vs, by rw [S.ne a ne]; exact q, r.same S⟩
    | gl x => show H2 a ≠ none; rw [S.ne a ne]; exact c
    | _ => exact c.elim
theorem Rs.same {σ : L2.St} {ρ : Sl} (S : SameBut D H1 H2 kvs) (r : Rs K H1 φ χ σ ρ) : Rs K H2 φ χ σ ρ := ⟨r.len, fun i d e => by
  obtain ⟨v, h, q⟩ := r.at_ i d e
  exact ⟨v, h, q.same S⟩⟩
/-- out of the lock -/
structure Out (D : Addr) (kvs : List (Key × V)) (od : Obj) (H : Hp) (φ : List Addr) (H' : Hp) (φ' : List Addr) : Prop where
  adv : Adv H φ (upd H' D (.dK kvs)) φ'
  at_ : H' D = some (.frz od (.dK kvs))
  nin : D ∉ φ'
  same : SameBut D H' (upd H' D (.dK kvs)) kvs
theorem out_of {od : Obj} {H H' : Hp} {φ' : List Addr} (hd : H D = some (.dK kvs)) (n : D ∉ φ) (A : Adv (upd H D (.frz od (.dK kvs))) φ H' φ') : Out D kvs od H φ H' φ' := by
  have at_ : H' D = some (.frz od (.dK kvs)) := A.keep D _ upd_same n
  refine ⟨⟨fun a o e na => ?_, ?_, fun a e => ?_⟩, at_, A.nin upd_same n, ⟨fun a e => upd_ne e, ⟨_, at_, rfl⟩, ⟨_, upd_same, rfl⟩⟩⟩
  · by_cases q : a = D
    · subst q
      rw [hd] at e
      cases e
      exact upd_same
    · rw [upd_ne q]
      exact A.keep a o (by rw [upd_ne q]; exact e) na
  · obtain ⟨ψ, e, q⟩ := A.pre
    refine ⟨ψ, e, fun a ha => ?_⟩
    have z := q a ha
    by_cases ea : a = D
    · rw [ea, upd_same] at z; cases z
    · rw [upd_ne ea] at z; exact z
  · by_cases q : a = D
    · rw [q, upd_same]; simp
    · rw [upd_ne q]
      exact A.dom a (by rw [upd_ne q]; exact e)
theorem into {od : Obj} {H : Hp} (hd : H D = some (.dK kvs)) : SameBut D H (upd H D (.frz od (.dK kvs))) kvs := ⟨fun a e => upd_ne e, ⟨_, hd, rfl⟩, ⟨_, upd_same, rfl⟩⟩
end
/-! ### what a walk over a dict tells -/
def keyV : Key → Da
  | .inl i => .int i
  | .inr z => .str z
def keyOk : Key → Prop
  | .inl _ => True
  | .inr z => z.length ≤ sizeLine
theorem keyV_rp {k : Key} (h : keyOk k) : Rp K H φ χ (kV k) (keyV k) := by
  cases k with
  | inl i => exact .int i
  | inr z => exact .str h
theorem RpK.get {i : Nat} : ∀ {kvs : List (Key × V)} {kds : List (Key × Da)}, RpK K H φ χ kvs kds → ∀ {k : Key} {v : V}, kvs[i]? = some (k, v) → ∃ d, kds[i]? = some (k, d) ∧ Rp K H φ χ v d := by
  induction i with
  | zero =>
    intro kvs kds r k v e
    cases r with
    | nil => cases e
    | cons h r => cases e; exact ⟨_, rfl, h⟩
  | succ i ih =>
    intro kvs kds r k v e
    cases r with
    | nil => cases e
    | cons h r => exact ih r (by simpa using e)
def keysD (kds : List (Key × Da)) : List Da := kds.map fun p => keyV p.1
def itemsD (kds : List (Key × Da)) : List Da := kds.map fun p => .tup [keyV p.1, p.2]
theorem turns_keys {D : Addr} {o : Obj} {kvs : List (Key × V)} {kds : List (Key × Da)} (hd : H D = some (.frz o (.dK kvs))) (n : D ∉ φ) (nχ : D ∉ χ) (r : RpK K H φ χ kvs kds) (ok : ∀ p ∈ kds, keyOk p.1) : Turns K χ (Itk D o kvs) ⟨keysD kds, fun _ => True⟩ H φ := fun H1 φ1 M1 χ1 hχ A m _ => by
  have hl := r.len
  have hk : (keysD kds).length = kds.length := List.length_map ..
  refine ⟨fun i hi => ⟨⟨A.keep D _ hd n nχ, by rw [hl, ← hk]; exact hi⟩, ?_⟩, ⟨A.keep D _ hd n nχ, by rw [hl, ← hk]; exact Nat.le_refl _⟩⟩
  rintro x H' ⟨rfl, k, v, e, rfl⟩
  obtain ⟨d, e1, _⟩ := r.get e
  refine ⟨keyV k, ?_, Adv.refl, m, keyV_rp (ok _ (List.mem_of_getElem? e1))⟩
  show (List.map _ kds)[i]? = _
  rw [List.getElem?_map, e1]
  rfl
theorem turns_items {D : Addr} {o : Obj} {kvs : List (Key × V)} {kds : List (Key × Da)} (hd : H D = some (.frz o (.dK kvs))) (n : D ∉ φ) (nχ : D ∉ χ) (r : RpK K H φ χ kvs kds) (ok : ∀ p ∈ kds, keyOk p.1) : Turns K χ (Iti D o kvs) ⟨itemsD kds, fun _ => True⟩ H φ := fun H1 φ1 M1 χ1 hχ A m _ => by
  have hl := r.len
  have hk : (itemsD kds).length = kds.length := List.length_map ..
  refine ⟨fun i hi => ⟨⟨A.keep D _ hd n nχ, by rw [hl, ← hk]; exact hi⟩, ?_⟩, ⟨A.keep D _ hd n nχ, by rw [hl, ← hk]; exact Nat.le_refl _⟩⟩
  rintro x H' ⟨T, k, v, e, rfl, hT, rfl⟩
  obtain ⟨d, e1, rd⟩ := r.get e
  refine ⟨.tup [keyV k, d], ?_, Adv.new hT, m.new hT, .tup upd_same (m.nin hT) (fun c => m.hid T c hT) (.cons (keyV_rp (ok _ (List.mem_of_getElem? e1))) (.cons ((rd.at1 hχ A).adv (Adv.new hT)) .nil))⟩
  show (List.map _ kds)[i]? = _
  rw [List.getElem?_map, e1]
  rfl
/-! ### what is walked: a name or a field of one -/
structure Pt (K : PySem.W.Frag) (te : TE) (pth : Sl → Mem → Option Da) : Prop where
  run : ∀ {χ σ H φ ρ M d}, Rs K H φ χ σ ρ → Mm K H φ χ M → pth ρ M = some d → ∃ v, Rp K H φ χ v d ∧ (∀ Q : VK, Q v H → te σ H Q) ∧ ∀ D ks o, H D = some (.dK ks) → ∀ Q : VK, Q v (upd H D o) → te σ (upd H D o) Q
def pVar (i : Nat) : Sl → Mem → Option Da := fun ρ _ => match ρ[i]? with
  | some (some d) => some d
  | _ => none
theorem P_var (i : Nat) : Pt K (tVar i) (pVar i) := ⟨fun {χ σ H φ ρ M d} r m e => by
  unfold pVar at e
  split at e
  · rename_i d' e1
    cases e
    obtain ⟨v, h1, h2⟩ := r.at_ _ _ e1
    exact ⟨v, h2, fun Q q => ⟨v, h1, q⟩, fun D ks o _ Q q => ⟨v, h1, q⟩⟩
  · cases e⟩
def pFld (c f : Str) (i : Nat) : Sl → Mem → Option Da := fun ρ M => match ρ[i]? with
  | some (some x) => match look M x with
    | .obj c' fds => if c' = c then fds.lookup f else none
    | _ => none
  | _ => none
theorem P_fld {c f : Str} (cl : Cls K (He.ga K c)) (na : NoAttr K (He.ga K c) f) (i : Nat) : Pt K (tFld K (tVar i) f) (pFld c f i) := ⟨fun {χ σ H φ ρ M d} r m e => by
  unfold pFld at e
  split at e
  · rename_i x e1
    split at e
    · rename_i c' fds e2
      split at e
      · rename_i hc
        subst hc
        obtain ⟨v, h1, h2⟩ := r.at_ _ _ e1
        obtain ⟨a, dx, fs, rfl, ha, rf⟩ := vO m h2 e2
        obtain ⟨u, hu, ru⟩ := rf.look e
        refine ⟨u, ru, fun Q q => ⟨_, h1, a, _, dx, fs, u, rfl, ha, cl, na, hu, q⟩, fun D ks o hD Q q => ⟨_, h1, a, _, dx, fs, u, rfl, ?_, cl, na, hu, q⟩⟩
        rw [upd_ne (fun z => by rw [z, hD] at ha; cases ha)]
        exact ha
      · cases e
    · cases e
  · cases e⟩
theorem Rp.dctOf (h : Rp K H φ χ v (.dct kds)) : ∃ a o kvs, v = .ref a ∧ H a = some o ∧ coreD o = some kvs ∧ a ∉ φ ∧ a ∉ χ ∧ RpK K H φ χ kvs kds := by
  cases h with
  | dct h c n m r => exact ⟨_, _, _, rfl, h, c, n, m, r⟩
/-! ### for -/
variable {tg : WX → TG} {mg : WD → MG} {ts : WX → TS} {mt : WD → MS}
def ForT (J : It) (g : TG) (tb : TS) (D : Ends) (σ : L2.St) (H1 : Hp) : Prop := ∃ W : Nat → Nat → L2.St → Hp → Prop, (∃ m, W 0 m σ H1) ∧ ∀ i m σ H, W i m σ H →
  (J.stop i H ∧ D.nx σ H) ∨ (J.go i H ∧ ∃ N : L2.St → Hp → Prop, (∀ σ' H', N σ' H' → ∃ m', m' < m ∧ W (i + 1) m' σ' H') ∧ ∀ x H', J.yld i H x H' → g x σ H' fun σ2 H2 => tb { D with nx := N, ct := N, bk := D.nx } σ2 H2)
theorem for_run {W : WX} {W' : WD} {σ : L2.St} {H0 : Hp} {φ0 : List Addr} {ρ : Sl} {M0 : Mem} {D : Ends} {D' : En} {J : It} {I : ItD} (g : SG K tg mg) (s : SS K ts mt) (r : Rs K H0 φ0 χ σ ρ) (m0 : Mm K H0 φ0 χ M0) (w : FW K χ H0 φ0 W' W)
    (n : FN K χ H0 φ0 D'.nx D.nx) (t : FE K χ H0 φ0 D'.rt D.rt) (T : Turns K χ J I H0 φ0) (st : I.still M0) (h1 : forL I.still (mg W') (mt W') D' M0.length I.items ρ M0) : ForT J (tg W) (ts W) D σ H0 := by
  have A0 : Adv H0 φ0 H0 φ0 := Adv.refl
  let Inv : Nat → Nat → L2.St → Hp → Prop := fun k j σ1 H1 => ∃ φ1 ρ1 M1, k + j = I.items.length ∧ Adv H0 φ0 H1 φ1 ∧ Rs K H1 φ1 χ σ1 ρ1 ∧ Mm K H1 φ1 χ M1 ∧ I.still M1 ∧ forL I.still (mg W') (mt W') D' M0.length (I.items.drop k) ρ1 M1
  refine ⟨Inv, ⟨I.items.length, φ0, ρ, M0, by omega, Adv.refl, r.adv A0, m0, st, by rw [List.drop_zero]; exact h1⟩, ?_⟩
  rintro k j σ1 H1 ⟨φ1, ρ1, M1, hk, A1, r1, m1, st1, q⟩
  obtain ⟨go, stop⟩ := T H1 φ1 M1 χ (fun a h => .inl h) A1.toX m1 st1
  cases e : I.items.drop k with
  | nil =>
    have hl : I.items.length ≤ k := by
      have := congrArg List.length e
      rw [List.length_drop] at this
      simp at this
      omega
    have : k = I.items.length := by omega
    subst this
    rw [e] at q
    exact .inl ⟨stop, n _ _ _ _ _ (A0.trans A1) r1 m1 q⟩
  | cons d ds =>
    have hl : k < I.items.length := by
      have := congrArg List.length e
      rw [List.length_drop] at this
      simp at this
      omega
    have ed : I.items[k]? = some d := by
      have := congrArg (fun l => l[0]?) e
      simpa using this
    have eds : I.items.drop (k + 1) = ds := by
      have := congrArg List.tail e
      simpa using this
    rw [e] at q
    obtain ⟨g1, y1⟩ := go k hl
    refine .inr ⟨g1, fun σ' H' => ∃ φ' ρ' M', Adv H0 φ0 H' φ' ∧ Rs K H' φ' χ σ' ρ' ∧ Mm K H' φ' χ M' ∧ I.still M' ∧ forL I.still (mg W') (mt W') D' M0.length ds ρ' M', ?_, ?_⟩
    · rintro σ' H' ⟨φ', ρ', M', a1, a2, a3, a4, a5⟩
      exact ⟨j - 1, by omega, φ', ρ', M', by omega, a1, a2, a3, a4, by rw [eds]; exact a5⟩
    · intro x H2 y
      obtain ⟨d', hd', A2, m2, rx⟩ := y1 x H2 y
      rw [ed] at hd'
      cases hd'
      have A02 := A1.trans A2
      have wk : ∀ {σ' H' φ' ρ' M'}, Adv H0 φ0 H' φ' → Rs K H' φ' χ σ' ρ' → Mm K H' φ' χ M' → (∃ ρ3 M3, Wk M0.length ρ' M' ρ3 M3 ∧ I.still M3 ∧ forL I.still (mg W') (mt W') D' M0.length ds ρ3 M3) →
          ∃ φ' ρ' M', Adv H0 φ0 H' φ' ∧ Rs K H' φ' χ σ' ρ' ∧ Mm K H' φ' χ M' ∧ I.still M' ∧ forL I.still (mg W') (mt W') D' M0.length ds ρ' M' := by
        rintro σ' H' φ' ρ' M' A r m ⟨ρ3, M3, k, s3, q3⟩
        obtain ⟨φ3, A3, r3, m3⟩ := k.run (Nat.le_of_eq m0.len) A r m
        exact ⟨φ3, ρ3, M3, A3, r3, m3, s3, q3⟩
      refine g.run (r1.adv A2) m2 (w.adv (A0.trans A02)) rx (fun σ3 H3 φ3 ρ3 M3 A3 r3 m3 h3 => ?_) q
      let N' : Sl → Mem → Prop := fun ρ2 M2 => ∃ ρ3 M3, Wk M0.length ρ2 M2 ρ3 M3 ∧ I.still M3 ∧ forL I.still (mg W') (mt W') D' M0.length ds ρ3 M3
      refine s.run (D' := { nx := N', rt := D'.rt, bk := D'.nx, ct := N' }) r3 m3 (w.adv (A0.trans (A02.trans A3))) ?_ (t.adv (A0.trans (A02.trans A3))) ?_ ?_ h3
      · exact fun σ4 H4 φ4 ρ4 M4 A4 r4 m4 h4 => wk ((A02.trans A3).trans A4) r4 m4 h4
      · exact fun σ4 H4 φ4 ρ4 M4 A4 r4 m4 h4 => n _ _ _ _ _ (A0.trans ((A02.trans A3).trans A4)) r4 m4 h4
      · exact fun σ4 H4 φ4 ρ4 M4 A4 r4 m4 h4 => wk ((A02.trans A3).trans A4) r4 m4 h4
theorem FW.lock {W : WX} {W' : WD} {D : Addr} {kvs : List (Key × V)} {od : Obj} (hd : H D = some (.dK kvs)) (nd : D ∉ φ) (w : FW K χ H φ W' W) : FW K χ (upd H D (.frz od (.dK kvs))) φ W' (lkW W D od (.dK kvs)) := fun c fs vfs dd σ' H' φ' ρ' M' A r m h n1 n2 q hW => by
  have O := out_of hd nd A
  have ne : dd ≠ D := fun z => by rw [z, O.at_] at h; cases h
  exact ⟨O.at_, w c fs vfs dd σ' _ φ' ρ' M' O.adv (r.same O.same) (m.same O.same O.nin) (by rw [upd_ne ne]; exact h) n1 n2 (q.same O.same) hW⟩
theorem FN.lock {Q' : Sl → Mem → Prop} {Q : L2.St → Hp → Prop} {D : Addr} {kvs : List (Key × V)} {od : Obj} (hd : H D = some (.dK kvs)) (nd : D ∉ φ) (f : FN K χ H φ Q' Q) : FN K χ (upd H D (.frz od (.dK kvs))) φ Q' (fun σ' H' => H' D = some (.frz od (.dK kvs)) ∧ Q σ' (upd H' D (.dK kvs))) := fun σ' H' φ' ρ' M' A r m q => by
  have O := out_of hd nd A
  exact ⟨O.at_, f σ' _ φ' ρ' M' O.adv (r.same O.same) (m.same O.same O.nin) q⟩
theorem FE.lock {Q' : TK} {Q : VK} {D : Addr} {kvs : List (Key × V)} {od : Obj} (hd : H D = some (.dK kvs)) (nd : D ∉ φ) (f : FE K χ H φ Q' Q) : FE K χ (upd H D (.frz od (.dK kvs))) φ Q' (fun v H' => H' D = some (.frz od (.dK kvs)) ∧ Q v (upd H' D (.dK kvs))) := fun v d H' φ' M' A m r q => by
  have O := out_of hd nd A
  exact ⟨O.at_, f v d _ φ' M' O.adv (m.same O.same O.nin) (r.same O.same) q⟩
def mForK (pth : Sl → Mem → Option Da) (it : List (Key × Da) → List Da) (g : MG) (tb : MS) : MS := fun D ρ M => match pth ρ M with
  | some (.dct kds) => (∀ p ∈ kds, keyOk p.1) ∧ forL (fun _ => True) g tb D M.length (it kds) ρ M
  | _ => False
theorem forD {iter : TE → TI} {Jt : Addr → Obj → List (Key × V) → It} {it : List (Key × Da) → List Da}
    (hi : ∀ {te : TE} {σ : L2.St} {H : Hp} {D : Addr} {o : Obj} {kvs : List (Key × V)} {R : It → Hp → Prop}, H D = some (.frz o (.dK kvs)) → (∀ Q : VK, Q (.ref D) H → te σ H Q) → R (Jt D o kvs) H → iter te σ H R)
    (hT : ∀ {χ φ : List Addr} {H : Hp} {D : Addr} {o : Obj} {kvs : List (Key × V)} {kds : List (Key × Da)}, H D = some (.frz o (.dK kvs)) → D ∉ φ → D ∉ χ → RpK K H φ χ kvs kds → (∀ p ∈ kds, keyOk p.1) → Turns K χ (Jt D o kvs) ⟨it kds, fun _ => True⟩ H φ)
    {te : TE} {pth : Sl → Mem → Option Da} (p : Pt K te pth) (g : SG K tg mg) (s : SS K ts mt) : SS K (fun W => tLockW (fun W2 => tFor (iter te) (tg W2) (ts W2)) W) (fun W => mForK pth it (mg W) (mt W)) := ⟨fun {χ W W' σ H φ ρ M D D'} r m w n t b c h => by
  unfold mForK at h
  split at h
  · rename_i kds e
    obtain ⟨v, rv, e1, e2⟩ := p.run r m e
    obtain ⟨a, o, kvs, rfl, ha, hc, na, nx, rk⟩ := rv.dctOf
    obtain ⟨ok, h⟩ := h
    cases o with
    | dK ks =>
      cases hc
      refine .inl ⟨a, .dK kvs, ha, by trivial, fun od => ?_⟩
      have S := into (od := od) ha
      refine hi (D := a) (o := od) (kvs := kvs) upd_same (fun Q q => e2 a kvs _ ha Q q) ?_
      exact for_run (D' := D') (D := lkD D a od (.dK kvs)) g s (r.same S) (m.same S na) (w.lock ha na) (n.lock ha na) (t.lock ha na) (hT upd_same na nx (rk.same S) ok) trivial h
    | frz ob u =>
      cases u with
      | dK ks =>
        cases hc
        refine .inr (hi ha e1 ?_)
        exact for_run (D' := D') (D := D) g s r m w n t (hT ha na nx rk ok) trivial h
      | _ => cases hc
    | _ => cases hc
  · exact h.elim⟩
theorem S_forK {te : TE} {pth : Sl → Mem → Option Da} (p : Pt K te pth) (g : SG K tg mg) (s : SS K ts mt) : SS K (fun W => tLockW (fun W2 => tFor (iKeys te) (tg W2) (ts W2)) W) (fun W => mForK pth keysD (mg W) (mt W)) :=
  forD (iter := iKeys) (Jt := Itk) (fun hd he hR => he _ ⟨_, _, rfl, .inl ⟨_, hd, hR⟩⟩) turns_keys p g s
theorem S_forI {te : TE} {pth : Sl → Mem → Option Da} (p : Pt K te pth) (g : SG K tg mg) (s : SS K ts mt) : SS K (fun W => tLockW (fun W2 => tFor (iItems te) (tg W2) (ts W2)) W) (fun W => mForK pth itemsD (mg W) (mt W)) :=
  forD (iter := iItems) (Jt := Iti) (fun hd he hR => he _ ⟨_, _, _, rfl, hd, hR⟩) turns_items p g s
/-! ### comprehensions -/
def LcT (J : It) (g : TG) (tt : TT) (te : TE) (vs : List Nat) (σ : L2.St) (H1 : Hp) (Q : VK) : Prop := ∀ D, H1 D = none → ∃ W : Nat → Nat → Hp → Prop, (∃ m, W 0 m (upd H1 D (.lst []))) ∧ ∀ i m H, W i m H →
  (J.stop i H ∧ Q (.ref D) H) ∨ (J.go i H ∧ ∃ Nx : Hp → Prop, (∀ H', Nx H' → ∃ m', m' < m ∧ W (i + 1) m' H') ∧ ∀ x H', J.yld i H x H' → g x (wipe σ vs) H' fun σ2 H2 => wipe σ2 vs = wipe σ vs ∧ tt σ2 H2 fun b H3 =>
    if b = true then te σ2 H3 fun y H4 => ∃ acc, H4 D = some (.lst acc) ∧ acc.length < sizeLine ∧ Nx (upd H4 D (.lst (acc ++ [y]))) else Nx H3)
theorem lc_run {W : WX} {W' : WD} {σ : L2.St} {H0 : Hp} {φ0 : List Addr} {ρ : Sl} {M0 : Mem} {Q : VK} {Q' : TK} {J : It} {I : ItD} {g : TG} {mg : MG} {tt : TT} {mt : MT} {te : TE} {me : ME} {vs : List Nat} (v : SV K vs g mg) (t : ST K (fun _ => tt) (fun _ => mt)) (e : SE K (fun _ => te) (fun _ => me))
    (r : Rs K H0 φ0 χ σ ρ) (m0 : Mm K H0 φ0 χ M0) (f : FE K χ H0 φ0 Q' Q) (T : Turns K χ J I H0 φ0) (st : I.still M0) (hlen : I.items.length ≤ 1000000) (h1 : lcL I.still mg mt me vs ρ I.items [] M0 Q') : LcT J g tt te vs σ H0 Q := by
  have A0 : Adv H0 φ0 H0 φ0 := Adv.refl
  intro D hD
  have nD : D ∉ φ0 := m0.nin hD
  have hχ : ∀ a ∈ D :: χ, a ∈ χ ∨ H0 a = none := hidden hD
  have AD : Adv H0 φ0 (upd H0 D (.lst [])) φ0 := Adv.new hD
  have inD : D ∈ D :: χ := List.mem_cons_self ..
  let Inv : Nat → Nat → Hp → Prop := fun k j H1 => ∃ φ1 M1 vs1 acc, k + j = I.items.length ∧ Adv (upd H0 D (.lst [])) φ0 (upd H1 D (.lst [])) φ1 ∧ D ∉ φ1 ∧ Mm K H1 φ1 (D :: χ) M1 ∧ Rs K H1 φ1 (D :: χ) σ ρ ∧ I.still M1 ∧ H1 D = some (.lst vs1) ∧ RpL K H1 φ1 (D :: χ) vs1 acc ∧ acc.length ≤ k ∧
    lcL I.still mg mt me vs ρ (I.items.drop k) acc M1 Q'
  -- what stays true of the rest of the heap while the new list grows
  have shift : ∀ {H1 H2 : Hp} {φ1 φ2 : List Addr} {vs1 vs2 : List V}, H1 D = some (.lst vs1) → D ∉ φ1 → Adv (upd H0 D (.lst [])) φ0 (upd H1 D (.lst [])) φ1 → Adv H1 φ1 H2 φ2 → Adv (upd H0 D (.lst [])) φ0 (upd (upd H2 D (.lst vs2)) D (.lst [])) φ2 := by
    intro H1 H2 φ1 φ2 vs1 vs2 hd n1 A B
    rw [upd_upd]
    have n2 : D ∉ φ2 := B.nin hd n1
    refine A.trans ⟨fun a o e n => ?_, ?_, fun a e => ?_⟩
    · by_cases q : a = D
      · subst q
        rw [upd_same] at e ⊢
        exact e
      · rw [upd_ne q] at e ⊢
        exact B.keep a o e n
    · obtain ⟨ψ, e, q⟩ := B.pre
      refine ⟨ψ, e, fun a ha => ?_⟩
      have na : a ≠ D := fun z => n2 (by rw [e, ← z]; exact List.mem_append_right _ ha)
      rw [upd_ne na]
      exact q a ha
    · by_cases q : a = D
      · subst q
        rw [upd_same]
        simp
      · rw [upd_ne q] at e ⊢
        exact B.dom a e
  have full : ∀ {H1 : Hp} {φ1 : List Addr}, Adv (upd H0 D (.lst [])) φ0 (upd H1 D (.lst [])) φ1 → H1 D ≠ none → Adv H0 φ0 H1 φ1 := by
    intro H1 φ1 A hd
    refine ⟨fun a o e n => ?_, ?_, fun a e => ?_⟩
    · have na : a ≠ D := ne_of_none e hD
      have := A.keep a o (by rw [upd_ne na]; exact e) n
      rw [upd_ne na] at this
      exact this
    · obtain ⟨ψ, e, q⟩ := A.pre
      refine ⟨ψ, e, fun a ha => ?_⟩
      have z := q a ha
      by_cases na : a = D
      · rw [na]; exact hD
      · rw [upd_ne na] at z; exact z
    · by_cases na : a = D
      · rw [na]; exact hd
      · have := A.dom a (by rw [upd_ne na]; exact e)
        rw [upd_ne na] at this
        exact this
  refine ⟨Inv, ⟨I.items.length, φ0, M0, [], [], by omega, by rw [upd_upd]; exact Adv.refl, nD, m0.hideN hD, (r.adv A0).hideN hD, st, upd_same, .nil, Nat.le_refl _, by rw [List.drop_zero]; exact h1⟩, ?_⟩
  rintro k j H1 ⟨φ1, M1, vs1, acc, hk, A1, n1, m1, r1, st1, hd1, ra, la, q⟩
  have A01 : Adv H0 φ0 H1 φ1 := full A1 (by rw [hd1]; simp)
  obtain ⟨go, stop⟩ := T H1 φ1 M1 (D :: χ) hχ A01.toX m1 st1
  cases e2 : I.items.drop k with
  | nil =>
    have hl : I.items.length ≤ k := by
      have := congrArg List.length e2
      rw [List.length_drop] at this
      simp at this
      omega
    have : k = I.items.length := by omega
    subst this
    rw [e2] at q
    refine .inl ⟨stop, f _ _ _ φ1 _ (A0.trans A01) m1.bare (.lst hd1 n1 (fun c => m0.hid D c hD) ra.bare) q⟩
  | cons d ds =>
    have hl : k < I.items.length := by
      have := congrArg List.length e2
      rw [List.length_drop] at this
      simp at this
      omega
    have ed : I.items[k]? = some d := by
      have := congrArg (fun l => l[0]?) e2
      simpa using this
    have eds : I.items.drop (k + 1) = ds := by
      have := congrArg List.tail e2
      simpa using this
    rw [e2] at q
    obtain ⟨g1, y1⟩ := go k hl
    refine .inr ⟨g1, fun H' => ∃ φ' M' vs' acc', Adv (upd H0 D (.lst [])) φ0 (upd H' D (.lst [])) φ' ∧ D ∉ φ' ∧ Mm K H' φ' (D :: χ) M' ∧ Rs K H' φ' (D :: χ) σ ρ ∧ I.still M' ∧ H' D = some (.lst vs') ∧ RpL K H' φ' (D :: χ) vs' acc' ∧ acc'.length ≤ k + 1 ∧
      lcL I.still mg mt me vs ρ ds acc' M' Q', ?_, ?_⟩
    · rintro H' ⟨φ', M', vs', acc', a1, a2, a3, a4, a5, a6, a7, a8, a9⟩
      exact ⟨j - 1, by omega, φ', M', vs', acc', by omega, a1, a2, a3, a4, a5, a6, a7, a8, by rw [eds]; exact a9⟩
    · intro x H2 y
      obtain ⟨d', hd', A2, m2, rx⟩ := y1 x H2 y
      rw [ed] at hd'
      cases hd'
      refine v.run ((r1.adv A2).wipe vs) m2 rx (fun σ3 H3 φ3 ρ3 M3 A3 r3 m3 e3 h3 => ⟨e3.trans (wipe_wipe vs), ?_⟩) q
      refine t.run (W := W0) r3 m3 FW0 (fun b H4 φ4 M4 A4 m4 h4 => ?_) h3
      have A14 := (A2.trans A3).trans A4
      have hd4 : H4 D = some (.lst vs1) := A14.keep D _ hd1 n1
      have n4 : D ∉ φ4 := A14.nin hd1 n1
      cases b with
      | false =>
        refine iteF ?_
        obtain ⟨s4, q4⟩ := h4
        have sh := shift (vs2 := vs1) hd1 n1 A1 A14
        rw [show upd (upd H4 D (.lst vs1)) D (.lst []) = upd H4 D (.lst []) from upd_upd] at sh
        exact ⟨φ4, M4, vs1, acc, sh, n4, m4, r1.adv A14, s4, hd4, ra.adv A14, by omega, q4⟩
      | true =>
        refine iteT ?_
        refine e.run (W := W0) (r3.adv A4) m4 FW0 (fun u z H5 φ5 M5 A5 m5 r5 h5 => ?_) h4
        obtain ⟨s5, q5⟩ := h5
        have A15 := A14.trans A5
        have hd5 : H5 D = some (.lst vs1) := A15.keep D _ hd1 n1
        have n5 : D ∉ φ5 := A15.nin hd1 n1
        refine ⟨vs1, hd5, ?_, φ5, M5, vs1 ++ [u], acc ++ [z], shift hd1 n1 A1 A15, n5, m5.updH inD, (r1.adv A15).updH inD, s5, upd_same, ((ra.adv A15).app (.cons r5 .nil)).at_ inD, ?_, q5⟩
        · rw [ra.len, sizeLine_eq]
          omega
        · rw [List.length_append]
          simp
          omega
def mLcK (pth : Sl → Mem → Option Da) (it : List (Key × Da) → List Da) (g : MG) (tt : MT) (te : ME) (vs : List Nat) : ME := fun ρ M Q => match pth ρ M with
  | some (.dct kds) => (∀ p ∈ kds, keyOk p.1) ∧ (it kds).length ≤ 1000000 ∧ lcL (fun _ => True) g tt te vs ρ (it kds) [] M Q
  | _ => False
theorem lcD {iter : TE → TI} {Jt : Addr → Obj → List (Key × V) → It} {it : List (Key × Da) → List Da}
    (hi : ∀ {te : TE} {σ : L2.St} {H : Hp} {D : Addr} {o : Obj} {kvs : List (Key × V)} {R : It → Hp → Prop}, H D = some (.frz o (.dK kvs)) → (∀ Q : VK, Q (.ref D) H → te σ H Q) → R (Jt D o kvs) H → iter te σ H R)
    (hT : ∀ {χ φ : List Addr} {H : Hp} {D : Addr} {o : Obj} {kvs : List (Key × V)} {kds : List (Key × Da)}, H D = some (.frz o (.dK kvs)) → D ∉ φ → D ∉ χ → RpK K H φ χ kvs kds → (∀ p ∈ kds, keyOk p.1) → Turns K χ (Jt D o kvs) ⟨it kds, fun _ => True⟩ H φ)
    {tp : TE} {pth : Sl → Mem → Option Da} (p : Pt K tp pth) {g : TG} {mg : MG} {tt : TT} {mt : MT} {te : TE} {me : ME} {vs : List Nat} (v : SV K vs g mg) (t : ST K (fun _ => tt) (fun _ => mt)) (e : SE K (fun _ => te) (fun _ => me)) :
    SE K (fun _ => tLockO (tLc (iter tp) g tt te vs)) (fun _ => mLcK pth it mg mt me vs) := ⟨fun {χ W W' σ H φ ρ M Q Q'} r m w f h => by
  unfold mLcK at h
  split at h
  · rename_i kds e0
    obtain ⟨u, rv, e1, e2⟩ := p.run r m e0
    obtain ⟨a, o, kvs, rfl, ha, hc, na, nx, rk⟩ := rv.dctOf
    obtain ⟨ok, hl, h⟩ := h
    cases o with
    | dK ks =>
      cases hc
      refine .inl ⟨a, .dK kvs, ha, by trivial, fun od => ?_⟩
      have S := into (od := od) ha
      refine hi (D := a) (o := od) (kvs := kvs) upd_same (fun Q q => e2 a kvs _ ha Q q) ?_
      exact lc_run (W := W) (W' := W') v t e (r.same S) (m.same S na) (f.lock ha na) (hT upd_same na nx (rk.same S) ok) trivial hl h
    | frz ob u =>
      cases u with
      | dK ks =>
        cases hc
        refine .inr (hi ha e1 ?_)
        exact lc_run (W := W) (W' := W') v t e r m f (hT ha na nx rk ok) trivial hl h
      | _ => cases hc
    | _ => cases hc
  · exact h.elim⟩
theorem E_lcK {tp : TE} {pth : Sl → Mem → Option Da} (p : Pt K tp pth) {g : TG} {mg : MG} {tt : TT} {mt : MT} {te : TE} {me : ME} {vs : List Nat} (v : SV K vs g mg) (t : ST K (fun _ => tt) (fun _ => mt)) (e : SE K (fun _ => te) (fun _ => me)) :
    SE K (fun _ => tLockO (tLc (iKeys tp) g tt te vs)) (fun _ => mLcK pth keysD mg mt me vs) := lcD (iter := iKeys) (Jt := Itk) (fun hd he hR => he _ ⟨_, _, rfl, .inl ⟨_, hd, hR⟩⟩) turns_keys p v t e
theorem E_lcI {tp : TE} {pth : Sl → Mem → Option Da} (p : Pt K tp pth) {g : TG} {mg : MG} {tt : TT} {mt : MT} {te : TE} {me : ME} {vs : List Nat} (v : SV K vs g mg) (t : ST K (fun _ => tt) (fun _ => mt)) (e : SE K (fun _ => te) (fun _ => me)) :
    SE K (fun _ => tLockO (tLc (iItems tp) g tt te vs)) (fun _ => mLcK pth itemsD mg mt me vs) := lcD (iter := iItems) (Jt := Iti) (fun hd he hR => he _ ⟨_, _, _, rfl, hd, hR⟩) turns_items p v t e
theorem S_forK0 {te : TE} {pth : Sl → Mem → Option Da} {g : TG} {mg : MG} {ts : TS} {mt : MS} (p : Pt K te pth) (g' : SG K (fun _ => g) (fun _ => mg)) (s : SS K (fun _ => ts) (fun _ => mt)) : SS K (fun _ => tLockW (fun _ => tFor (iKeys te) g ts) (fun _ _ _ _ => False)) (fun _ => mForK pth keysD mg mt) :=
  ⟨fun r m w n t b c h => (S_forK p g' s).run (W := fun _ _ _ _ => False) (W' := WD0) r m FW0 n t b c h⟩
theorem S_forI0 {te : TE} {pth : Sl → Mem → Option Da} {g : TG} {mg : MG} {ts : TS} {mt : MS} (p : Pt K te pth) (g' : SG K (fun _ => g) (fun _ => mg)) (s : SS K (fun _ => ts) (fun _ => mt)) : SS K (fun _ => tLockW (fun _ => tFor (iItems te) g ts) (fun _ _ _ _ => False)) (fun _ => mForK pth itemsD mg mt) :=
  ⟨fun r m w n t b c h => (S_forI p g' s).run (W := fun _ _ _ _ => False) (W' := WD0) r m FW0 n t b c h⟩
/-! ### a, b = .. of a tuple or a list -/
def hTL (n : Nat) (gs : MGs) : MG := fun d ρ M Q => match look M d with
  | .tup ds => ds.length = n ∧ gs ds ρ M Q
  | .lst ds => ds.length = n ∧ gs ds ρ M Q
  | _ => False
theorem G_tl {n : Nat} {gs : WX → TGs} {mgs : WD → MGs} (s : SGs K gs mgs) : SG K (fun W => gTL K n (gs W)) (fun W => hTL n (mgs W)) := ⟨fun r m w rv f h => by
  unfold hTL at h
  split at h
  · rename_i ds e
    obtain ⟨a, vs, rfl, hs, rl⟩ := vT m rv e
    exact .inl ⟨a, vs, rfl, hs, by rw [rl.len]; exact h.1, s.run r m w rl f h.2⟩
  · rename_i ds e
    obtain ⟨a, vs, rfl, hs, rl⟩ := vL m rv e
    exact .inr ⟨a, vs, rfl, hs, by rw [rl.len]; exact h.1, s.run r m w rl f h.2⟩
  · exact h.elim⟩
theorem V_tl {vs : List Nat} {n : Nat} {gs : TGs} {mgs : MGs} (s : SVs K vs gs mgs) : SV K vs (gTL K n gs) (hTL n mgs) := ⟨fun r m rv f h => by
  unfold hTL at h
  split at h
  · rename_i ds e
    obtain ⟨a, ws, rfl, hs, rl⟩ := vT m rv e
    exact .inl ⟨a, ws, rfl, hs, by rw [rl.len]; exact h.1, s.run r m rl f h.2⟩
  · rename_i ds e
    obtain ⟨a, ws, rfl, hs, rl⟩ := vL m rv e
    exact .inr ⟨a, ws, rfl, hs, by rw [rl.len]; exact h.1, s.run r m rl f h.2⟩
  · exact h.elim⟩
end
end Z

namespace Z
open PySem PySem.Spec PyProof.Rows L2 Evl
/-! ### readings (gen.py) -/
/-- the own classes -/
structure ClD (K : PySem.W.Frag) : Prop where
  cl_Catalog : Cls K (He.ga K "Catalog")
  is_Catalog : IsO K "Catalog"
  na_Catalog_own_spans : NoAttr K (He.ga K "Catalog") "own_spans"
  na_Catalog_own_rest : NoAttr K (He.ga K "Catalog") "own_rest"
def m_is_integer : MS :=
  (mRet ((mAndV (mCB nIsi (mCons (mVar 0) (mCons (mC (.ty "int")) mNil))) (mNotV (mCB nIsi (mCons (mVar 0) (mCons (mC (.ty "bool")) mNil)))))))
def f_is_integer : MP := dfn 1 1 (fun _ => m_is_integer)
abbrev sp_is_integer (K : PySem.W.Frag) : Sp := up K f_is_integer
def t_is_integer (K : PySem.W.Frag) : TS :=
  (tRet ((tAndV (tCB (rIsi K) (tCons (tVar 0) (tCons (tC (.ty "int")) tNil))) (tNotV (tCB (rIsi K) (tCons (tVar 0) (tCons (tC (.ty "bool")) tNil)))))))
theorem c_is_integer {K : PySem.W.Frag} : SS K (fun _ => t_is_integer K) (fun _ => m_is_integer) := by
  unfold t_is_integer m_is_integer 
  exact (S_ret ((E_andV (E_cb C_isi (E_cons (E_var 0) (E_cons (E_ty _) E_nil))) (E_notV (E_cb C_isi (E_cons (E_var 0) (E_cons (E_ty _) E_nil)))))))
theorem len_is_integer (K : PySem.W.Frag) : ∀ vs H Q E, sp_is_integer K vs H Q E → vs.length = (["value"] : List Str).length := fun _ _ _ _ h => up_len h
theorem pure_is_integer (K : PySem.W.Frag) (vs : List V) (H : Hp) (Q : VK) (E : XK) (h : sp_is_integer K vs H Q E) : t_is_integer K { nx := fun _ H' => Q .non H', rt := Q } (start ["value"] vs) H := up_run (tw := fun _ => t_is_integer K) (c_is_integer) (N := ["value"]) rfl h
def m_is_name : MS :=
  (mSeq (mIfS ((mOr (mNot (mB (mCB nIsi (mCons (mVar 0) (mCons (mC (.ty "str")) mNil))))) (mOr (mB (mOp nEq (mVar 0) (mC (.str "table")))) (mNot (mB (mChain nLe nLe (mC (.int 1)) (mCB nLen (mCons (mVar 0) mNil)) (mC (.int 8)))))))) (mRet (mC (.bl false))) mNext)
    (mRet (mCB nAll (mCons (mLc (mAny (mVar 0)) (hName 1) mYes (mOp nIn (mVar 1) (mC (.str "abcdefghijklmnopqrstuvwxyz"))) [1]) mNil))))
def f_is_name : MP := dfn 2 1 (fun _ => m_is_name)
abbrev sp_is_name (K : PySem.W.Frag) : Sp := up K f_is_name
def t_is_name (K : PySem.W.Frag) : TS :=
  (tSeq (tIfS ((tOr (tNot (tB (tCB (rIsi K) (tCons (tVar 0) (tCons (tC (.ty "str")) tNil))))) (tOr (tTest (tOp (rEqA K) (tVar 0) (tC (.str "table")))) (tNot (tTest (tChain rLeA rLeA (tC (.int 1)) (tCB (rLenB K) (tCons (tVar 0) tNil)) (tC (.int 8)))))))) (tRet (tC (.bl false))) tNext)
    (tRet (tCB (rAll K) (tCons (tLc (iSeq K (tVar 0)) (gName 1) tYes (tOp (rInB K) (tVar 1) (tC (.str "abcdefghijklmnopqrstuvwxyz"))) [1]) tNil))))
theorem c_is_name {K : PySem.W.Frag} : SS K (fun _ => t_is_name K) (fun _ => m_is_name) := by
  unfold t_is_name m_is_name 
  exact (S_seq (S_if ((E_or (E_not (E_B (E_cb C_isi (E_cons (E_var 0) (E_cons (E_ty _) E_nil))))) (E_or (E_test (E_op O_eq (E_var 0) (E_str (by decide)))) (E_not (E_test (E_chain O_le O_le (E_int 1) (E_cb C_len (E_cons (E_var 0) E_nil)) (E_int 8))))))) (S_ret (E_bl false)) S_next)
    (S_ret (E_cb C_all (E_cons (E_lc (I_seq (E_var 0)) (V_name 1 (by decide)) E_yes (E_op O_in (E_var 1) (E_str (by decide)))) E_nil))))
theorem len_is_name (K : PySem.W.Frag) : ∀ vs H Q E, sp_is_name K vs H Q E → vs.length = (["value"] : List Str).length := fun _ _ _ _ h => up_len h
theorem pure_is_name (K : PySem.W.Frag) (vs : List V) (H : Hp) (Q : VK) (E : XK) (h : sp_is_name K vs H Q E) : t_is_name K { nx := fun _ H' => Q .non H', rt := Q } (start ["value", "sign"] vs) H := up_run (tw := fun _ => t_is_name K) (c_is_name) (N := ["value", "sign"]) rfl h
def m_is_limit : MS :=
  (mRet ((mOrV (mOp nIs (mVar 0) (mC .non)) (mCall f_is_integer (mCons (mVar 0) mNil)))))
def f_is_limit : MP := dfn 1 1 (fun _ => m_is_limit)
abbrev sp_is_limit (K : PySem.W.Frag) : Sp := up K f_is_limit
def t_is_limit (K : PySem.W.Frag) : TS :=
  (tRet ((tOrV (tOp rIsA (tVar 0) (tC .non)) (tCall (sp_is_integer K) [] E0 (tCons (tVar 0) tNil)))))
theorem c_is_limit {K : PySem.W.Frag} : SS K (fun _ => t_is_limit K) (fun _ => m_is_limit) := by
  unfold t_is_limit m_is_limit 
  exact (S_ret ((E_orV (E_op O_is (E_var 0) (E_non)) (E_call f_is_integer (E_cons (E_var 0) E_nil)))))
theorem len_is_limit (K : PySem.W.Frag) : ∀ vs H Q E, sp_is_limit K vs H Q E → vs.length = (["value"] : List Str).length := fun _ _ _ _ h => up_len h
theorem pure_is_limit (K : PySem.W.Frag) (vs : List V) (H : Hp) (Q : VK) (E : XK) (h : sp_is_limit K vs H Q E) : t_is_limit K { nx := fun _ H' => Q .non H', rt := Q } (start ["value"] vs) H := up_run (tw := fun _ => t_is_limit K) (c_is_limit) (N := ["value"]) rfl h
def m_is_span : MS :=
  (mSeq (mIfS ((mOr (mNot (mB (mCB nIsi (mCons (mVar 0) (mCons (mC (.ty "tuple")) mNil))))) (mB (mOp nNe (mCB nLen (mCons (mVar 0) mNil)) (mC (.int 2)))))) (mRet (mC (.bl false))) mNext)
    (mSeq (mAsg (mVar 0) (hTup 2 (hCons (hName 1) (hCons (hName 2) hNil))))
    (mSeq (mIfS ((mOr (mNot (mB (mCall f_is_limit (mCons (mVar 1) mNil)))) (mNot (mB (mCall f_is_limit (mCons (mVar 2) mNil)))))) (mRet (mC (.bl false))) mNext)
    (mRet ((mOrV (mOp nIs (mVar 1) (mC .non)) (mOrV (mOp nIs (mVar 2) (mC .non)) (mOp nLt (mVar 1) (mVar 2)))))))))
def f_is_span : MP := dfn 3 1 (fun _ => m_is_span)
abbrev sp_is_span (K : PySem.W.Frag) : Sp := up K f_is_span
def t_is_span (K : PySem.W.Frag) : TS :=
  (tSeq (tIfS ((tOr (tNot (tB (tCB (rIsi K) (tCons (tVar 0) (tCons (tC (.ty "tuple")) tNil))))) (tTest (tOp (rNeA K) (tCB (rLenB K) (tCons (tVar 0) tNil)) (tC (.int 2)))))) (tRet (tC (.bl false))) tNext)
    (tSeq (tAsg (tVar 0) (gTup K 2 (gCons (gName 1) (gCons (gName 2) gNil))))
    (tSeq (tIfS ((tOr (tNot (tB (tCall (sp_is_limit K) [] E0 (tCons (tVar 1) tNil)))) (tNot (tB (tCall (sp_is_limit K) [] E0 (tCons (tVar 2) tNil)))))) (tRet (tC (.bl false))) tNext)
    (tRet ((tOrV (tOp rIsA (tVar 1) (tC .non)) (tOrV (tOp rIsA (tVar 2) (tC .non)) (tOp rLtA (tVar 1) (tVar 2)))))))))
theorem c_is_span {K : PySem.W.Frag} : SS K (fun _ => t_is_span K) (fun _ => m_is_span) := by
  unfold t_is_span m_is_span 
  exact (S_seq (S_if ((E_or (E_not (E_B (E_cb C_isi (E_cons (E_var 0) (E_cons (E_ty _) E_nil))))) (E_test (E_op O_ne (E_cb C_len (E_cons (E_var 0) E_nil)) (E_int 2))))) (S_ret (E_bl false)) S_next)
    (S_seq (S_asg (E_var 0) (G_tup (G_cons (G_name 1) (G_cons (G_name 2) G_nil))))
    (S_seq (S_if ((E_or (E_not (E_B (E_call f_is_limit (E_cons (E_var 1) E_nil)))) (E_not (E_B (E_call f_is_limit (E_cons (E_var 2) E_nil)))))) (S_ret (E_bl false)) S_next)
    (S_ret ((E_orV (E_op O_is (E_var 1) (E_non)) (E_orV (E_op O_is (E_var 2) (E_non)) (E_op O_lt (E_var 1) (E_var 2)))))))))
theorem len_is_span (K : PySem.W.Frag) : ∀ vs H Q E, sp_is_span K vs H Q E → vs.length = (["value"] : List Str).length := fun _ _ _ _ h => up_len h
theorem pure_is_span (K : PySem.W.Frag) (vs : List V) (H : Hp) (Q : VK) (E : XK) (h : sp_is_span K vs H Q E) : t_is_span K { nx := fun _ H' => Q .non H', rt := Q } (start ["value", "low", "high"] vs) H := up_run (tw := fun _ => t_is_span K) (c_is_span) (N := ["value", "low", "high"]) rfl h
def m_need_span (W : WD) : MS :=
  (mIfS (mNot (mB (mCall f_is_span (mCons (mVar 0) mNil)))) (mRaise "InvalidSpan" "value" (mCons (mVar 0) mNil) W) mNext)
def f_need_span : MP := dfn 1 1 (fun W => m_need_span W)
abbrev sp_need_span (K : PySem.W.Frag) : Sp := up K f_need_span
def tw_need_span (K : PySem.W.Frag) (W : WX) : TS :=
  (tIfS (tNot (tB (tCall (sp_is_span K) [] E0 (tCons (tVar 0) tNil)))) (tRaisevalue (He.ga K "InvalidSpan") W (tCons (tVar 0) tNil)) tNext)
def t_need_span (K : PySem.W.Frag) (E : XK) : TS := tw_need_span K (fun cls d _ H => E cls d H)
theorem c_need_span {K : PySem.W.Frag} : SS K (fun W => tw_need_span K W) (fun W => m_need_span W) := by
  unfold tw_need_span m_need_span 
  exact (S_if (E_not (E_B (E_call f_is_span (E_cons (E_var 0) E_nil)))) (S_raisevalue "InvalidSpan" (E_cons (E_var 0) E_nil)) S_next)
theorem len_need_span (K : PySem.W.Frag) : ∀ vs H Q E, sp_need_span K vs H Q E → vs.length = (["value"] : List Str).length := fun _ _ _ _ h => up_len h
theorem pure_need_span (K : PySem.W.Frag) (vs : List V) (H : Hp) (Q : VK) (E : XK) (h : sp_need_span K vs H Q E) : t_need_span K E { nx := fun _ H' => Q .non H', rt := Q } (start ["value"] vs) H := up_run (tw := fun W => tw_need_span K W) (c_need_span) (N := ["value"]) rfl h
def m_has_key : MS :=
  (mSeq (mAsg (mVar 0) (hTup 2 (hCons (hName 2) (hCons (hName 3) hNil))))
    (mRet ((mAndV ((mOrV (mOp nIs (mVar 2) (mC .non)) (mOp nLe (mVar 2) (mVar 1)))) ((mOrV (mOp nIs (mVar 3) (mC .non)) (mOp nLt (mVar 1) (mVar 3))))))))
def f_has_key : MP := dfn 4 2 (fun _ => m_has_key)
abbrev sp_has_key (K : PySem.W.Frag) : Sp := up K f_has_key
def t_has_key (K : PySem.W.Frag) : TS :=
  (tSeq (tAsg (tVar 0) (gTup K 2 (gCons (gName 2) (gCons (gName 3) gNil))))
    (tRet ((tAndV ((tOrV (tOp rIsA (tVar 2) (tC .non)) (tOp rLeA (tVar 2) (tVar 1)))) ((tOrV (tOp rIsA (tVar 3) (tC .non)) (tOp rLtA (tVar 1) (tVar 3))))))))
theorem c_has_key {K : PySem.W.Frag} : SS K (fun _ => t_has_key K) (fun _ => m_has_key) := by
  unfold t_has_key m_has_key 
  exact (S_seq (S_asg (E_var 0) (G_tup (G_cons (G_name 2) (G_cons (G_name 3) G_nil))))
    (S_ret ((E_andV ((E_orV (E_op O_is (E_var 2) (E_non)) (E_op O_le (E_var 2) (E_var 1)))) ((E_orV (E_op O_is (E_var 3) (E_non)) (E_op O_lt (E_var 1) (E_var 3))))))))
theorem len_has_key (K : PySem.W.Frag) : ∀ vs H Q E, sp_has_key K vs H Q E → vs.length = (["span", "key"] : List Str).length := fun _ _ _ _ h => up_len h
theorem pure_has_key (K : PySem.W.Frag) (vs : List V) (H : Hp) (Q : VK) (E : XK) (h : sp_has_key K vs H Q E) : t_has_key K { nx := fun _ H' => Q .non H', rt := Q } (start ["span", "key", "low", "high"] vs) H := up_run (tw := fun _ => t_has_key K) (c_has_key) (N := ["span", "key", "low", "high"]) rfl h
def m_greater_limit : MS :=
  (mSeq (mIfS ((mOr (mB (mOp nIs (mVar 0) (mC .non))) (mB (mOp nIs (mVar 1) (mC .non))))) (mRet (mIf (mB (mOp nIs (mVar 0) (mC .non))) (mVar 1) (mVar 0))) mNext)
    (mRet (mCB nMax (mCons (mLst (mCons (mVar 0) (mCons (mVar 1) mNil))) mNil))))
def f_greater_limit : MP := dfn 2 2 (fun _ => m_greater_limit)
abbrev sp_greater_limit (K : PySem.W.Frag) : Sp := up K f_greater_limit
def t_greater_limit (K : PySem.W.Frag) : TS :=
  (tSeq (tIfS ((tOr (tTest (tOp rIsA (tVar 0) (tC .non))) (tTest (tOp rIsA (tVar 1) (tC .non))))) (tRet (tIf (tTest (tOp rIsA (tVar 0) (tC .non))) (tVar 1) (tVar 0))) tNext)
    (tRet (tCB (rMaxA K) (tCons (tLst (tCons (tVar 0) (tCons (tVar 1) tNil))) tNil))))
theorem c_greater_limit {K : PySem.W.Frag} : SS K (fun _ => t_greater_limit K) (fun _ => m_greater_limit) := by
  unfold t_greater_limit m_greater_limit 
  exact (S_seq (S_if ((E_or (E_test (E_op O_is (E_var 0) (E_non))) (E_test (E_op O_is (E_var 1) (E_non))))) (S_ret (E_if (E_test (E_op O_is (E_var 0) (E_non))) (E_var 1) (E_var 0))) S_next)
    (S_ret (E_cb C_max (E_cons (E_lst (E_cons (E_var 0) (E_cons (E_var 1) E_nil))) E_nil))))
theorem len_greater_limit (K : PySem.W.Frag) : ∀ vs H Q E, sp_greater_limit K vs H Q E → vs.length = (["one", "other"] : List Str).length := fun _ _ _ _ h => up_len h
theorem pure_greater_limit (K : PySem.W.Frag) (vs : List V) (H : Hp) (Q : VK) (E : XK) (h : sp_greater_limit K vs H Q E) : t_greater_limit K { nx := fun _ H' => Q .non H', rt := Q } (start ["one", "other"] vs) H := up_run (tw := fun _ => t_greater_limit K) (c_greater_limit) (N := ["one", "other"]) rfl h
def m_lesser_limit : MS :=
  (mSeq (mIfS ((mOr (mB (mOp nIs (mVar 0) (mC .non))) (mB (mOp nIs (mVar 1) (mC .non))))) (mRet (mIf (mB (mOp nIs (mVar 0) (mC .non))) (mVar 1) (mVar 0))) mNext)
    (mRet (mCB nMin (mCons (mLst (mCons (mVar 0) (mCons (mVar 1) mNil))) mNil))))
def f_lesser_limit : MP := dfn 2 2 (fun _ => m_lesser_limit)
abbrev sp_lesser_limit (K : PySem.W.Frag) : Sp := up K f_lesser_limit
def t_lesser_limit (K : PySem.W.Frag) : TS :=
  (tSeq (tIfS ((tOr (tTest (tOp rIsA (tVar 0) (tC .non))) (tTest (tOp rIsA (tVar 1) (tC .non))))) (tRet (tIf (tTest (tOp rIsA (tVar 0) (tC .non))) (tVar 1) (tVar 0))) tNext)
    (tRet (tCB (rMinA K) (tCons (tLst (tCons (tVar 0) (tCons (tVar 1) tNil))) tNil))))
theorem c_lesser_limit {K : PySem.W.Frag} : SS K (fun _ => t_lesser_limit K) (fun _ => m_lesser_limit) := by
  unfold t_lesser_limit m_lesser_limit 
  exact (S_seq (S_if ((E_or (E_test (E_op O_is (E_var 0) (E_non))) (E_test (E_op O_is (E_var 1) (E_non))))) (S_ret (E_if (E_test (E_op O_is (E_var 0) (E_non))) (E_var 1) (E_var 0))) S_next)
    (S_ret (E_cb C_min (E_cons (E_lst (E_cons (E_var 0) (E_cons (E_var 1) E_nil))) E_nil))))
theorem len_lesser_limit (K : PySem.W.Frag) : ∀ vs H Q E, sp_lesser_limit K vs H Q E → vs.length = (["one", "other"] : List Str).length := fun _ _ _ _ h => up_len h
theorem pure_lesser_limit (K : PySem.W.Frag) (vs : List V) (H : Hp) (Q : VK) (E : XK) (h : sp_lesser_limit K vs H Q E) : t_lesser_limit K { nx := fun _ H' => Q .non H', rt := Q } (start ["one", "other"] vs) H := up_run (tw := fun _ => t_lesser_limit K) (c_lesser_limit) (N := ["one", "other"]) rfl h
def m_common (W : WD) : MS :=
  (mSeq (mDrop (mCallS f_need_span (mCons (mVar 0) mNil) W))
    (mSeq (mDrop (mCallS f_need_span (mCons (mVar 1) mNil) W))
    (mSeq (mAsg (mTup (mCons (mCall f_greater_limit (mCons (mOp nIx (mVar 0) (mC (.int 0))) (mCons (mOp nIx (mVar 1) (mC (.int 0))) mNil))) (mCons (mCall f_lesser_limit (mCons (mOp nIx (mVar 0) (mC (.int 1))) (mCons (mOp nIx (mVar 1) (mC (.int 1))) mNil))) mNil))) (hName 2))
    (mRet (mIf (mB (mCall f_is_span (mCons (mVar 2) mNil))) (mVar 2) (mC .non))))))
def f_common : MP := dfn 3 2 (fun W => m_common W)
abbrev sp_common (K : PySem.W.Frag) : Sp := up K f_common
def tw_common (K : PySem.W.Frag) (W : WX) : TS :=
  (tSeq (tDrop (tCallS (sp_need_span K) (WE W) (tCons (tVar 0) tNil)))
    (tSeq (tDrop (tCallS (sp_need_span K) (WE W) (tCons (tVar 1) tNil)))
    (tSeq (tAsg (tTup (tCons (tCall (sp_greater_limit K) [] E0 (tCons (tOp (rIxB K) (tVar 0) (tC (.int 0))) (tCons (tOp (rIxB K) (tVar 1) (tC (.int 0))) tNil))) (tCons (tCall (sp_lesser_limit K) [] E0 (tCons (tOp (rIxB K) (tVar 0) (tC (.int 1))) (tCons (tOp (rIxB K) (tVar 1) (tC (.int 1))) tNil))) tNil))) (gName 2))
    (tRet (tIf (tB (tCall (sp_is_span K) [] E0 (tCons (tVar 2) tNil))) (tVar 2) (tC .non))))))
def t_common (K : PySem.W.Frag) (E : XK) : TS := tw_common K (fun cls d _ H => E cls d H)
theorem c_common {K : PySem.W.Frag} : SS K (fun W => tw_common K W) (fun W => m_common W) := by
  unfold tw_common m_common 
  exact (S_seq (S_drop (E_callS f_need_span (E_cons (E_var 0) E_nil)))
    (S_seq (S_drop (E_callS f_need_span (E_cons (E_var 1) E_nil)))
    (S_seq (S_asg (E_tup (E_cons (E_call f_greater_limit (E_cons (E_op O_ix (E_var 0) (E_int 0)) (E_cons (E_op O_ix (E_var 1) (E_int 0)) E_nil))) (E_cons (E_call f_lesser_limit (E_cons (E_op O_ix (E_var 0) (E_int 1)) (E_cons (E_op O_ix (E_var 1) (E_int 1)) E_nil))) E_nil))) (G_name 2))
    (S_ret (E_if (E_B (E_call f_is_span (E_cons (E_var 2) E_nil))) (E_var 2) (E_non))))))
theorem len_common (K : PySem.W.Frag) : ∀ vs H Q E, sp_common K vs H Q E → vs.length = (["one", "other"] : List Str).length := fun _ _ _ _ h => up_len h
theorem pure_common (K : PySem.W.Frag) (vs : List V) (H : Hp) (Q : VK) (E : XK) (h : sp_common K vs H Q E) : t_common K E { nx := fun _ H' => Q .non H', rt := Q } (start ["one", "other", "found"] vs) H := up_run (tw := fun W => tw_common K W) (c_common) (N := ["one", "other", "found"]) rfl h
def m_meet (W : WD) : MS :=
  (mRet (mOp nIsnt (mCallS f_common (mCons (mVar 0) (mCons (mVar 1) mNil)) W) (mC .non)))
def f_meet : MP := dfn 2 2 (fun W => m_meet W)
abbrev sp_meet (K : PySem.W.Frag) : Sp := up K f_meet
def tw_meet (K : PySem.W.Frag) (W : WX) : TS :=
  (tRet (tOp rNotA (tCallS (sp_common K) (WE W) (tCons (tVar 0) (tCons (tVar 1) tNil))) (tC .non)))
def t_meet (K : PySem.W.Frag) (E : XK) : TS := tw_meet K (fun cls d _ H => E cls d H)
theorem c_meet {K : PySem.W.Frag} : SS K (fun W => tw_meet K W) (fun W => m_meet W) := by
  unfold tw_meet m_meet 
  exact (S_ret (E_op O_isnt (E_callS f_common (E_cons (E_var 0) (E_cons (E_var 1) E_nil))) (E_non)))
theorem len_meet (K : PySem.W.Frag) : ∀ vs H Q E, sp_meet K vs H Q E → vs.length = (["one", "other"] : List Str).length := fun _ _ _ _ h => up_len h
theorem pure_meet (K : PySem.W.Frag) (vs : List V) (H : Hp) (Q : VK) (E : XK) (h : sp_meet K vs H Q E) : t_meet K E { nx := fun _ H' => Q .non H', rt := Q } (start ["one", "other"] vs) H := up_run (tw := fun W => tw_meet K W) (c_meet) (N := ["one", "other"]) rfl h
def l_need_spans_1 (W : WD) : MS :=
  (mIfS (mNot (mB (mCall f_is_name (mCons (mVar 1) mNil)))) (mRaise "InvalidName" "value" (mCons (mVar 1) mNil) W) mNext)
def l_need_spans_2 (W : WD) : MS :=
  (mIfS (mNot (mB (mCall f_is_span (mCons (mOp nIx (mVar 0) (mVar 1)) mNil)))) (mRaise "InvalidSpan" "value" (mCons (mOp nIx (mVar 0) (mVar 1)) mNil) W) mNext)
def l_need_spans_3 (W : WD) : MS :=
  (mIfS (mB (mCB nAny (mCons (mLcK (pVar 0) keysD (hName 2) (mB (mOp nLt (mVar 2) (mVar 1))) (mCall f_meet (mCons (mOp nIx (mVar 0) (mVar 1)) (mCons (mOp nIx (mVar 0) (mVar 2)) mNil))) [2]) mNil))) (mRaise "Overlap" "name" (mCons (mVar 1) mNil) W) mNext)
def b_need_spans_3 (W : WD) : MS :=
  (mFor (mAny (mCB nSort (mCons (mVar 0) mNil))) (hName 1) (l_need_spans_3 W))
def b_need_spans_2 (W : WD) : MS :=
  mSeq (mFor (mAny (mCB nSort (mCons (mVar 0) mNil))) (hName 1) (l_need_spans_2 W)) (b_need_spans_3 W)
def b_need_spans_1 (W : WD) : MS :=
  mSeq (mForK (pVar 0) keysD (hName 1) (l_need_spans_1 W)) (b_need_spans_2 W)
def m_need_spans (W : WD) : MS :=
  mSeq (mIfS (mNot (mB (mCB nIsi (mCons (mVar 0) (mCons (mC (.ty "dict")) mNil))))) (mRaise "InvalidSpans" "value" (mCons (mVar 0) mNil) W) mNext) (b_need_spans_1 W)
def f_need_spans : MP := dfn 3 1 (fun W => m_need_spans W)
abbrev sp_need_spans (K : PySem.W.Frag) : Sp := up K f_need_spans
def tw_need_spans (K : PySem.W.Frag) (W : WX) : TS :=
  (tSeq (tIfS (tNot (tB (tCB (rIsi K) (tCons (tVar 0) (tCons (tC (.ty "dict")) tNil))))) (tRaisevalue (He.ga K "InvalidSpans") W (tCons (tVar 0) tNil)) tNext)
    (tSeq (tLockW (fun W2 => tFor (iKeys (tVar 0)) (gName 1) (tIfS (tNot (tB (tCall (sp_is_name K) [] E0 (tCons (tVar 1) tNil)))) (tRaisevalue (He.ga K "InvalidName") W2 (tCons (tVar 1) tNil)) tNext)) W)
    (tSeq (tFor (iSeq K (tCB (rSortA K) (tCons (tVar 0) tNil))) (gName 1) (tIfS (tNot (tB (tCall (sp_is_span K) [] E0 (tCons (tOp (rIxB K) (tVar 0) (tVar 1)) tNil)))) (tRaisevalue (He.ga K "InvalidSpan") W (tCons (tOp (rIxB K) (tVar 0) (tVar 1)) tNil)) tNext))
    (tFor (iSeq K (tCB (rSortA K) (tCons (tVar 0) tNil))) (gName 1) (tIfS (tB (tCB (rAny K) (tCons (tLockO (tLc (iKeys (tVar 0)) (gName 2) (tTest (tOp rLtA (tVar 2) (tVar 1))) (tCall (sp_meet K) [] E0 (tCons (tOp (rIxB K) (tVar 0) (tVar 1)) (tCons (tOp (rIxB K) (tVar 0) (tVar 2)) tNil))) [2])) tNil))) (tRaisename (He.ga K "Overlap") W (tCons (tVar 1) tNil)) tNext)))))
def t_need_spans (K : PySem.W.Frag) (E : XK) : TS := tw_need_spans K (fun cls d _ H => E cls d H)
theorem c_need_spans {K : PySem.W.Frag} : SS K (fun W => tw_need_spans K W) (fun W => m_need_spans W) := by
  unfold tw_need_spans m_need_spans b_need_spans_1 b_need_spans_2 b_need_spans_3 l_need_spans_3 l_need_spans_2 l_need_spans_1
  exact (S_seq (S_if (E_not (E_B (E_cb C_isi (E_cons (E_var 0) (E_cons (E_ty _) E_nil))))) (S_raisevalue "InvalidSpans" (E_cons (E_var 0) E_nil)) S_next)
    (S_seq (S_forK (P_var 0) (G_name 1) (S_if (E_not (E_B (E_call f_is_name (E_cons (E_var 1) E_nil)))) (S_raisevalue "InvalidName" (E_cons (E_var 1) E_nil)) S_next))
    (S_seq (S_for (I_seq (E_cb C_sort (E_cons (E_var 0) E_nil))) (G_name 1) (S_if (E_not (E_B (E_call f_is_span (E_cons (E_op O_ix (E_var 0) (E_var 1)) E_nil)))) (S_raisevalue "InvalidSpan" (E_cons (E_op O_ix (E_var 0) (E_var 1)) E_nil)) S_next))
    (S_for (I_seq (E_cb C_sort (E_cons (E_var 0) E_nil))) (G_name 1) (S_if (E_B (E_cb C_any (E_cons (E_lcK (P_var 0) (V_name 2 (by decide)) (E_test (E_op O_lt (E_var 2) (E_var 1))) (E_call f_meet (E_cons (E_op O_ix (E_var 0) (E_var 1)) (E_cons (E_op O_ix (E_var 0) (E_var 2)) E_nil)))) E_nil))) (S_raisename "Overlap" (E_cons (E_var 1) E_nil)) S_next)))))
theorem len_need_spans (K : PySem.W.Frag) : ∀ vs H Q E, sp_need_spans K vs H Q E → vs.length = (["spans"] : List Str).length := fun _ _ _ _ h => up_len h
theorem pure_need_spans (K : PySem.W.Frag) (vs : List V) (H : Hp) (Q : VK) (E : XK) (h : sp_need_spans K vs H Q E) : t_need_spans K E { nx := fun _ H' => Q .non H', rt := Q } (start ["spans", "name", "other"] vs) H := up_run (tw := fun W => tw_need_spans K W) (c_need_spans) (N := ["spans", "name", "other"]) rfl h
def m_need_rest (W : WD) : MS :=
  (mSeq (mIfS ((mAnd (mB (mOp nIsnt (mVar 1) (mC .non))) (mNot (mB (mCall f_is_name (mCons (mVar 1) mNil)))))) (mRaise "InvalidName" "value" (mCons (mVar 1) mNil) W) mNext)
    (mIfS ((mAnd (mB (mOp nIsnt (mVar 1) (mC .non))) (mB (mOp nIn (mVar 1) (mVar 0))))) (mRaise "NameTaken" "name" (mCons (mVar 1) mNil) W) mNext))
def f_need_rest : MP := dfn 2 2 (fun W => m_need_rest W)
abbrev sp_need_rest (K : PySem.W.Frag) : Sp := up K f_need_rest
def tw_need_rest (K : PySem.W.Frag) (W : WX) : TS :=
  (tSeq (tIfS ((tAnd (tTest (tOp rNotA (tVar 1) (tC .non))) (tNot (tB (tCall (sp_is_name K) [] E0 (tCons (tVar 1) tNil)))))) (tRaisevalue (He.ga K "InvalidName") W (tCons (tVar 1) tNil)) tNext)
    (tIfS ((tAnd (tTest (tOp rNotA (tVar 1) (tC .non))) (tTest (tOp (rInB K) (tVar 1) (tVar 0))))) (tRaisename (He.ga K "NameTaken") W (tCons (tVar 1) tNil)) tNext))
def t_need_rest (K : PySem.W.Frag) (E : XK) : TS := tw_need_rest K (fun cls d _ H => E cls d H)
theorem c_need_rest {K : PySem.W.Frag} : SS K (fun W => tw_need_rest K W) (fun W => m_need_rest W) := by
  unfold tw_need_rest m_need_rest 
  exact (S_seq (S_if ((E_and (E_test (E_op O_isnt (E_var 1) (E_non))) (E_not (E_B (E_call f_is_name (E_cons (E_var 1) E_nil)))))) (S_raisevalue "InvalidName" (E_cons (E_var 1) E_nil)) S_next)
    (S_if ((E_and (E_test (E_op O_isnt (E_var 1) (E_non))) (E_test (E_op O_in (E_var 1) (E_var 0))))) (S_raisename "NameTaken" (E_cons (E_var 1) E_nil)) S_next))
theorem len_need_rest (K : PySem.W.Frag) : ∀ vs H Q E, sp_need_rest K vs H Q E → vs.length = (["spans", "rest"] : List Str).length := fun _ _ _ _ h => up_len h
theorem pure_need_rest (K : PySem.W.Frag) (vs : List V) (H : Hp) (Q : VK) (E : XK) (h : sp_need_rest K vs H Q E) : t_need_rest K E { nx := fun _ H' => Q .non H', rt := Q } (start ["spans", "rest"] vs) H := up_run (tw := fun W => tw_need_rest K W) (c_need_rest) (N := ["spans", "rest"]) rfl h
def m_order_of : MS :=
  (mSeq (mAsg (mVar 0) (hTup 2 (hCons (hName 1) (hCons (hName 2) hNil))))
    (mSeq (mIfS (mB (mOp nIsnt (mVar 1) (mC .non))) (mRet (mTup (mCons (mC (.int 1)) (mCons (mVar 1) mNil)))) mNext)
    (mRet (mTup (mCons (mC (.int 0)) (mCons (mC (.int 0)) mNil))))))
def f_order_of : MP := dfn 3 1 (fun _ => m_order_of)
abbrev sp_order_of (K : PySem.W.Frag) : Sp := up K f_order_of
def t_order_of (K : PySem.W.Frag) : TS :=
  (tSeq (tAsg (tVar 0) (gTup K 2 (gCons (gName 1) (gCons (gName 2) gNil))))
    (tSeq (tIfS (tTest (tOp rNotA (tVar 1) (tC .non))) (tRet (tTup (tCons (tC (.int 1)) (tCons (tVar 1) tNil)))) tNext)
    (tRet (tTup (tCons (tC (.int 0)) (tCons (tC (.int 0)) tNil))))))
theorem c_order_of {K : PySem.W.Frag} : SS K (fun _ => t_order_of K) (fun _ => m_order_of) := by
  unfold t_order_of m_order_of 
  exact (S_seq (S_asg (E_var 0) (G_tup (G_cons (G_name 1) (G_cons (G_name 2) G_nil))))
    (S_seq (S_if (E_test (E_op O_isnt (E_var 1) (E_non))) (S_ret (E_tup (E_cons (E_int 1) (E_cons (E_var 1) E_nil)))) S_next)
    (S_ret (E_tup (E_cons (E_int 0) (E_cons (E_int 0) E_nil))))))
theorem len_order_of (K : PySem.W.Frag) : ∀ vs H Q E, sp_order_of K vs H Q E → vs.length = (["span"] : List Str).length := fun _ _ _ _ h => up_len h
theorem pure_order_of (K : PySem.W.Frag) (vs : List V) (H : Hp) (Q : VK) (E : XK) (h : sp_order_of K vs H Q E) : t_order_of K { nx := fun _ H' => Q .non H', rt := Q } (start ["span", "low", "high"] vs) H := up_run (tw := fun _ => t_order_of K) (c_order_of) (N := ["span", "low", "high"]) rfl h
def m_is_before : MS :=
  (mRet (mOp nLtT (mCall f_order_of (mCons (mVar 0) mNil)) (mCall f_order_of (mCons (mVar 1) mNil))))
def f_is_before : MP := dfn 2 2 (fun _ => m_is_before)
abbrev sp_is_before (K : PySem.W.Frag) : Sp := up K f_is_before
def t_is_before (K : PySem.W.Frag) : TS :=
  (tRet (tOp (rLtT K) (tCall (sp_order_of K) [] E0 (tCons (tVar 0) tNil)) (tCall (sp_order_of K) [] E0 (tCons (tVar 1) tNil))))
theorem c_is_before {K : PySem.W.Frag} : SS K (fun _ => t_is_before K) (fun _ => m_is_before) := by
  unfold t_is_before m_is_before 
  exact (S_ret (E_op O_ltT (E_call f_order_of (E_cons (E_var 0) E_nil)) (E_call f_order_of (E_cons (E_var 1) E_nil))))
theorem len_is_before (K : PySem.W.Frag) : ∀ vs H Q E, sp_is_before K vs H Q E → vs.length = (["one", "other"] : List Str).length := fun _ _ _ _ h => up_len h
theorem pure_is_before (K : PySem.W.Frag) (vs : List V) (H : Hp) (Q : VK) (E : XK) (h : sp_is_before K vs H Q E) : t_is_before K { nx := fun _ H' => Q .non H', rt := Q } (start ["one", "other"] vs) H := up_run (tw := fun _ => t_is_before K) (c_is_before) (N := ["one", "other"]) rfl h
def b_Catalog_init_5 (W : WD) : MS :=
  (mFldS "Catalog" "own_rest" (mVar 0) (mVar 2))
def b_Catalog_init_4 (W : WD) : MS :=
  mSeq (mFldS "Catalog" "own_spans" (mVar 0) (mDc (mAny (mCB nSort (mCons (mVar 3) mNil))) (hName 4) mYes (mVar 4) (mOp nIx (mVar 3) (mVar 4)) [4])) (b_Catalog_init_5 W)
def b_Catalog_init_3 (W : WD) : MS :=
  mSeq (mIfS (mB (mOp nGt (mOp nAdd (mCB nLen (mCons (mVar 3) mNil)) (mCB nInt (mCons (mOp nIsnt (mVar 2) (mC .non)) mNil))) (mC (.int 8)))) (mRaise "TooMany" "bound" (mCons (mC (.int 8)) mNil) W) mNext) (b_Catalog_init_4 W)
def b_Catalog_init_2 (W : WD) : MS :=
  mSeq (mDrop (mCallS f_need_rest (mCons (mVar 3) (mCons (mVar 2) mNil)) W)) (b_Catalog_init_3 W)
def b_Catalog_init_1 (W : WD) : MS :=
  mSeq (mDrop (mCallS f_need_spans (mCons (mVar 3) mNil) W)) (b_Catalog_init_2 W)
def m_Catalog_init (W : WD) : MS :=
  mSeq (mAsg (mIf (mB (mOp nIs (mVar 1) (mC .non))) (mDNew) (mVar 1)) (hName 3)) (b_Catalog_init_1 W)
def f_Catalog_init : MP := dfn 5 3 (fun W => m_Catalog_init W)
abbrev sp_Catalog_init (K : PySem.W.Frag) : Sp := up K f_Catalog_init
def tw_Catalog_init (K : PySem.W.Frag) (W : WX) : TS :=
  (tSeq (tAsg (tIf (tTest (tOp rIsA (tVar 1) (tC .non))) (tDNewK) (tVar 1)) (gName 3))
    (tSeq (tDrop (tCallS (sp_need_spans K) (WE W) (tCons (tVar 3) tNil)))
    (tSeq (tDrop (tCallS (sp_need_rest K) (WE W) (tCons (tVar 3) (tCons (tVar 2) tNil))))
    (tSeq (tIfS (tTest (tOp rGtA (tOp (rAddA K) (tCB (rLenB K) (tCons (tVar 3) tNil)) (tCB rIntA (tCons (tOp rNotA (tVar 2) (tC .non)) tNil))) (tC (.int 8)))) (tRaisebound (He.ga K "TooMany") W (tCons (tC (.int 8)) tNil)) tNext)
    (tSeq (sFld K (tVar 0) (tDc (iSeq K (tCB (rSortA K) (tCons (tVar 3) tNil))) (gName 4) tYes (tVar 4) (tOp (rIxB K) (tVar 3) (tVar 4)) [4]) "own_spans")
    (sFld K (tVar 0) (tVar 2) "own_rest"))))))
def t_Catalog_init (K : PySem.W.Frag) (E : XK) : TS := tw_Catalog_init K (fun cls d _ H => E cls d H)
theorem c_Catalog_init {K : PySem.W.Frag} (L : ClD K) : SS K (fun W => tw_Catalog_init K W) (fun W => m_Catalog_init W) := by
  unfold tw_Catalog_init m_Catalog_init b_Catalog_init_1 b_Catalog_init_2 b_Catalog_init_3 b_Catalog_init_4 b_Catalog_init_5
  exact (S_seq (S_asg (E_if (E_test (E_op O_is (E_var 1) (E_non))) (E_dnew) (E_var 1)) (G_name 3))
    (S_seq (S_drop (E_callS f_need_spans (E_cons (E_var 3) E_nil)))
    (S_seq (S_drop (E_callS f_need_rest (E_cons (E_var 3) (E_cons (E_var 2) E_nil))))
    (S_seq (S_if (E_test (E_op O_gt (E_op O_add (E_cb C_len (E_cons (E_var 3) E_nil)) (E_cb C_int (E_cons (E_op O_isnt (E_var 2) (E_non)) E_nil))) (E_int 8))) (S_raisebound "TooMany" (E_cons (E_int 8) E_nil)) S_next)
    (S_seq (S_fldS L.cl_Catalog L.na_Catalog_own_spans (E_var 0) (E_dc (I_seq (E_cb C_sort (E_cons (E_var 3) E_nil))) (V_name 4 (by decide)) E_yes (E_var 4) (E_op O_ix (E_var 3) (E_var 4))))
    (S_fldS L.cl_Catalog L.na_Catalog_own_rest (E_var 0) (E_var 2)))))))
theorem len_Catalog_init (K : PySem.W.Frag) : ∀ vs H Q E, sp_Catalog_init K vs H Q E → vs.length = (["self", "spans", "rest"] : List Str).length := fun _ _ _ _ h => up_len h
theorem pure_Catalog_init (K : PySem.W.Frag) (vs : List V) (H : Hp) (Q : VK) (E : XK) (L : ClD K) (h : sp_Catalog_init K vs H Q E) : t_Catalog_init K E { nx := fun _ H' => Q .non H', rt := Q } (start ["self", "spans", "rest", "given", "name"] vs) H := up_run (tw := fun W => tw_Catalog_init K W) (c_Catalog_init L) (N := ["self", "spans", "rest", "given", "name"]) rfl h
def m_Catalog_part_of (W : WD) : MS :=
  (mSeq (mIfS (mNot (mB (mCall f_is_integer (mCons (mVar 1) mNil)))) (mRaise "InvalidKey" "value" (mCons (mVar 1) mNil) W) mNext)
    (mSeq (mForK (pFld "Catalog" "own_spans" 0) itemsD (hTup 2 (hCons (hName 2) (hCons (hName 3) hNil))) (mIfS (mB (mCall f_has_key (mCons (mVar 3) (mCons (mVar 1) mNil)))) (mRet (mVar 2)) mNext))
    (mRet (mFld "Catalog" "own_rest" (mVar 0)))))
def f_Catalog_part_of : MP := dfn 4 2 (fun W => m_Catalog_part_of W)
abbrev sp_Catalog_part_of (K : PySem.W.Frag) : Sp := up K f_Catalog_part_of
def tw_Catalog_part_of (K : PySem.W.Frag) (W : WX) : TS :=
  (tSeq (tIfS (tNot (tB (tCall (sp_is_integer K) [] E0 (tCons (tVar 1) tNil)))) (tRaisevalue (He.ga K "InvalidKey") W (tCons (tVar 1) tNil)) tNext)
    (tSeq (tLockW (fun W2 => tFor (iItems (tFld K (tVar 0) "own_spans")) (gTup K 2 (gCons (gName 2) (gCons (gName 3) gNil))) (tIfS (tB (tCall (sp_has_key K) [] E0 (tCons (tVar 3) (tCons (tVar 1) tNil)))) (tRet (tVar 2)) tNext)) W)
    (tRet (tFld K (tVar 0) "own_rest"))))
def t_Catalog_part_of (K : PySem.W.Frag) (E : XK) : TS := tw_Catalog_part_of K (fun cls d _ H => E cls d H)
theorem c_Catalog_part_of {K : PySem.W.Frag} (L : ClD K) : SS K (fun W => tw_Catalog_part_of K W) (fun W => m_Catalog_part_of W) := by
  unfold tw_Catalog_part_of m_Catalog_part_of 
  exact (S_seq (S_if (E_not (E_B (E_call f_is_integer (E_cons (E_var 1) E_nil)))) (S_raisevalue "InvalidKey" (E_cons (E_var 1) E_nil)) S_next)
    (S_seq (S_forI (P_fld L.cl_Catalog L.na_Catalog_own_spans 0) (G_tup (G_cons (G_name 2) (G_cons (G_name 3) G_nil))) (S_if (E_B (E_call f_has_key (E_cons (E_var 3) (E_cons (E_var 1) E_nil)))) (S_ret (E_var 2)) S_next))
    (S_ret (E_fld L.cl_Catalog L.na_Catalog_own_rest (E_var 0)))))
theorem len_Catalog_part_of (K : PySem.W.Frag) : ∀ vs H Q E, sp_Catalog_part_of K vs H Q E → vs.length = (["self", "key"] : List Str).length := fun _ _ _ _ h => up_len h
theorem pure_Catalog_part_of (K : PySem.W.Frag) (vs : List V) (H : Hp) (Q : VK) (E : XK) (L : ClD K) (h : sp_Catalog_part_of K vs H Q E) : t_Catalog_part_of K E { nx := fun _ H' => Q .non H', rt := Q } (start ["self", "key", "name", "span"] vs) H := up_run (tw := fun W => tw_Catalog_part_of K W) (c_Catalog_part_of L) (N := ["self", "key", "name", "span"]) rfl h
def m_Catalog_in_order : MS :=
  (mSeq (mAsg (mCell (mLst mNil)) (hName 1))
    (mSeq (mForK (pFld "Catalog" "own_spans" 0) itemsD (hTup 2 (hCons (hName 2) (hCons (hName 3) hNil))) (mSeq (mAsg (mCB nLen (mCons (mLc (mAny (mVar 1)) (hName 5) (mB (mCall f_is_before (mCons (mOp nIx (mFld "Catalog" "own_spans" (mVar 0)) (mVar 5)) (mCons (mVar 3) mNil)))) (mVar 5) [5]) mNil)) (hName 4))
    (mDrop (mBM "list" nInsert (mVar 1) (mCons (mVar 4) (mCons (mVar 2) mNil))))))
    (mRet (mVar 1))))
def f_Catalog_in_order : MP := dfn 6 1 (fun _ => m_Catalog_in_order)
abbrev sp_Catalog_in_order (K : PySem.W.Frag) : Sp := up K f_Catalog_in_order
def t_Catalog_in_order (K : PySem.W.Frag) : TS :=
  (tSeq (tAsg (tLst tNil) (gName 1))
    (tSeq (tLockW (fun W2 => tFor (iItems (tFld K (tVar 0) "own_spans")) (gTup K 2 (gCons (gName 2) (gCons (gName 3) gNil))) (tSeq (tAsg (tCB (rLenB K) (tCons (tLc (iSeq K (tVar 1)) (gName 5) (tB (tCall (sp_is_before K) [] E0 (tCons (tOp (rIxB K) (tFld K (tVar 0) "own_spans") (tVar 5)) (tCons (tVar 3) tNil)))) (tVar 5) [5]) tNil)) (gName 4))
    (tDrop (tBMW K "list" rInsert (tVar 1) (tCons (tVar 4) (tCons (tVar 2) tNil)))))) (fun _ _ _ _ => False))
    (tRet (tVar 1))))
theorem c_Catalog_in_order {K : PySem.W.Frag} (L : ClD K) : SS K (fun _ => t_Catalog_in_order K) (fun _ => m_Catalog_in_order) := by
  unfold t_Catalog_in_order m_Catalog_in_order 
  exact (S_seq (S_asg (E_cell (N_lst E_nil)) (G_name 1))
    (S_seq (S_forI0 (P_fld L.cl_Catalog L.na_Catalog_own_spans 0) (G_tup (G_cons (G_name 2) (G_cons (G_name 3) G_nil))) (S_seq (S_asg (E_cb C_len (E_cons (E_lc (I_seq (E_var 1)) (V_name 5 (by decide)) (E_B (E_call f_is_before (E_cons (E_op O_ix (E_fld L.cl_Catalog L.na_Catalog_own_spans (E_var 0)) (E_var 5)) (E_cons (E_var 3) E_nil)))) (E_var 5)) E_nil)) (G_name 4))
    (S_drop (E_bm M_insert (E_var 1) (E_cons (E_var 4) (E_cons (E_var 2) E_nil))))))
    (S_ret (E_var 1))))
theorem len_Catalog_in_order (K : PySem.W.Frag) : ∀ vs H Q E, sp_Catalog_in_order K vs H Q E → vs.length = (["self"] : List Str).length := fun _ _ _ _ h => up_len h
theorem pure_Catalog_in_order (K : PySem.W.Frag) (vs : List V) (H : Hp) (Q : VK) (E : XK) (L : ClD K) (h : sp_Catalog_in_order K vs H Q E) : t_Catalog_in_order K { nx := fun _ H' => Q .non H', rt := Q } (start ["self", "found", "name", "span", "at", "other"] vs) H := up_run (tw := fun _ => t_Catalog_in_order K) (c_Catalog_in_order L) (N := ["self", "found", "name", "span", "at", "other"]) rfl h
def b_Catalog_stretches_L1_4 : MS :=
  (mAsg (mC (.bl true)) (hName 3))
def b_Catalog_stretches_L1_3 : MS :=
  mSeq (mAsg (mVar 6) (hName 2)) b_Catalog_stretches_L1_4
def b_Catalog_stretches_L1_2 : MS :=
  mSeq (mDrop (mBM "list" nAppend (mVar 1) (mCons (mTup (mCons (mVar 5) (mCons (mVar 6) (mCons (mVar 4) mNil)))) mNil))) b_Catalog_stretches_L1_3
def b_Catalog_stretches_L1_1 : MS :=
  mCut (mIfS ((mAnd (mB (mOp nIsnt (mVar 5) (mC .non))) ((mOr (mNot (mB (mVar 3))) (mB (mOp nNe (mVar 5) (mVar 2))))))) (mDrop (mBM "list" nAppend (mVar 1) (mCons (mTup (mCons (mVar 2) (mCons (mVar 5) (mCons (mFld "Catalog" "own_rest" (mVar 0)) mNil)))) mNil))) mNext) b_Catalog_stretches_L1_2
def l_Catalog_stretches_1 : MS :=
  mSeq (mAsg (mOp nIx (mFld "Catalog" "own_spans" (mVar 0)) (mVar 4)) (hTup 2 (hCons (hName 5) (hCons (hName 6) hNil)))) b_Catalog_stretches_L1_1
def b_Catalog_stretches_5 : MS :=
  (mRet (mVar 1))
def b_Catalog_stretches_4 : MS :=
  mCut (mIfS ((mOr (mNot (mB (mVar 3))) (mB (mOp nIsnt (mVar 2) (mC .non))))) (mDrop (mBM "list" nAppend (mVar 1) (mCons (mTup (mCons (mVar 2) (mCons (mC .non) (mCons (mFld "Catalog" "own_rest" (mVar 0)) mNil)))) mNil))) mNext) b_Catalog_stretches_5
def b_Catalog_stretches_3 : MS :=
  mSeq (mFor (mAny (mMeth "Catalog" "in_order" [0] 0 0 f_Catalog_in_order [] (mVar 0) mNil mNil)) (hName 4) l_Catalog_stretches_1) b_Catalog_stretches_4
def b_Catalog_stretches_2 : MS :=
  mSeq (mAsg (mC (.bl false)) (hName 3)) b_Catalog_stretches_3
def b_Catalog_stretches_1 : MS :=
  mSeq (mAsg (mC .non) (hName 2)) b_Catalog_stretches_2
def m_Catalog_stretches : MS :=
  mSeq (mAsg (mCell (mLst mNil)) (hName 1)) b_Catalog_stretches_1
def f_Catalog_stretches : MP := dfn 7 1 (fun _ => m_Catalog_stretches)
abbrev sp_Catalog_stretches (K : PySem.W.Frag) : Sp := up K f_Catalog_stretches
def t_Catalog_stretches (K : PySem.W.Frag) : TS :=
  (tSeq (tAsg (tLst tNil) (gName 1))
    (tSeq (tAsg (tC .non) (gName 2))
    (tSeq (tAsg (tC (.bl false)) (gName 3))
    (tSeq (tFor (iSeq K (tMethP K "Catalog" "in_order" [0] 0 0 (sp_Catalog_in_order K) [] (fun _ => E0) (tVar 0) tNil tNil)) (gName 4) (tSeq (tAsg (tOp (rIxB K) (tFld K (tVar 0) "own_spans") (tVar 4)) (gTup K 2 (gCons (gName 5) (gCons (gName 6) gNil))))
    (tCut (tIfS ((tAnd (tTest (tOp rNotA (tVar 5) (tC .non))) ((tOr (tNot (tB (tVar 3))) (tTest (tOp (rNeA K) (tVar 5) (tVar 2))))))) (tDrop (tBMW K "list" rAppend (tVar 1) (tCons (tTup (tCons (tVar 2) (tCons (tVar 5) (tCons (tFld K (tVar 0) "own_rest") tNil)))) tNil))) tNext)
    (tSeq (tDrop (tBMW K "list" rAppend (tVar 1) (tCons (tTup (tCons (tVar 5) (tCons (tVar 6) (tCons (tVar 4) tNil)))) tNil)))
    (tSeq (tAsg (tVar 6) (gName 2))
    (tAsg (tC (.bl true)) (gName 3)))))))
    (tCut (tIfS ((tOr (tNot (tB (tVar 3))) (tTest (tOp rNotA (tVar 2) (tC .non))))) (tDrop (tBMW K "list" rAppend (tVar 1) (tCons (tTup (tCons (tVar 2) (tCons (tC .non) (tCons (tFld K (tVar 0) "own_rest") tNil)))) tNil))) tNext)
    (tRet (tVar 1)))))))
theorem c_Catalog_stretches {K : PySem.W.Frag} (L : ClD K) : SS K (fun _ => t_Catalog_stretches K) (fun _ => m_Catalog_stretches) := by
  unfold t_Catalog_stretches m_Catalog_stretches b_Catalog_stretches_1 b_Catalog_stretches_2 b_Catalog_stretches_3 b_Catalog_stretches_4 b_Catalog_stretches_5 l_Catalog_stretches_1 b_Catalog_stretches_L1_1 b_Catalog_stretches_L1_2 b_Catalog_stretches_L1_3 b_Catalog_stretches_L1_4
  exact (S_seq (S_asg (E_cell (N_lst E_nil)) (G_name 1))
    (S_seq (S_asg (E_non) (G_name 2))
    (S_seq (S_asg (E_bl false) (G_name 3))
    (S_seq (S_for (I_seq (E_meth "Catalog" "in_order" [0] 0 0 f_Catalog_in_order DfL.nil (E_var 0) E_nil E_nil)) (G_name 4) (S_seq (S_asg (E_op O_ix (E_fld L.cl_Catalog L.na_Catalog_own_spans (E_var 0)) (E_var 4)) (G_tup (G_cons (G_name 5) (G_cons (G_name 6) G_nil))))
    (S_cut (S_if ((E_and (E_test (E_op O_isnt (E_var 5) (E_non))) ((E_or (E_not (E_B (E_var 3))) (E_test (E_op O_ne (E_var 5) (E_var 2))))))) (S_drop (E_bm M_append (E_var 1) (E_cons (E_tup (E_cons (E_var 2) (E_cons (E_var 5) (E_cons (E_fld L.cl_Catalog L.na_Catalog_own_rest (E_var 0)) E_nil)))) E_nil))) S_next)
    (S_seq (S_drop (E_bm M_append (E_var 1) (E_cons (E_tup (E_cons (E_var 5) (E_cons (E_var 6) (E_cons (E_var 4) E_nil)))) E_nil)))
    (S_seq (S_asg (E_var 6) (G_name 2))
    (S_asg (E_bl true) (G_name 3)))))))
    (S_cut (S_if ((E_or (E_not (E_B (E_var 3))) (E_test (E_op O_isnt (E_var 2) (E_non))))) (S_drop (E_bm M_append (E_var 1) (E_cons (E_tup (E_cons (E_var 2) (E_cons (E_non) (E_cons (E_fld L.cl_Catalog L.na_Catalog_own_rest (E_var 0)) E_nil)))) E_nil))) S_next)
    (S_ret (E_var 1)))))))
theorem len_Catalog_stretches (K : PySem.W.Frag) : ∀ vs H Q E, sp_Catalog_stretches K vs H Q E → vs.length = (["self"] : List Str).length := fun _ _ _ _ h => up_len h
theorem pure_Catalog_stretches (K : PySem.W.Frag) (vs : List V) (H : Hp) (Q : VK) (E : XK) (L : ClD K) (h : sp_Catalog_stretches K vs H Q E) : t_Catalog_stretches K { nx := fun _ H' => Q .non H', rt := Q } (start ["self", "found", "low", "begun", "name", "first", "last"] vs) H := up_run (tw := fun _ => t_Catalog_stretches K) (c_Catalog_stretches L) (N := ["self", "found", "low", "begun", "name", "first", "last"]) rfl h
def m_law_cell : MS :=
  (mSeq (mIfS (mB (mOp nLt (mVar 1) (mCB nLen (mCons (mVar 0) mNil)))) (mRet (mOp nIx (mVar 0) (mVar 1))) mNext)
    (mRet (mOp nAdd (mOp nMul (mC (.int 7919)) (mVar 1)) (mC (.int 131)))))
def f_law_cell : MP := dfn 2 2 (fun _ => m_law_cell)
abbrev sp_law_cell (K : PySem.W.Frag) : Sp := up K f_law_cell
def t_law_cell (K : PySem.W.Frag) : TS :=
  (tSeq (tIfS (tTest (tOp rLtA (tVar 1) (tCB (rLenB K) (tCons (tVar 0) tNil)))) (tRet (tOp (rIxB K) (tVar 0) (tVar 1))) tNext)
    (tRet (tOp (rAddA K) (tOp rMulA (tC (.int 7919)) (tVar 1)) (tC (.int 131)))))
theorem c_law_cell {K : PySem.W.Frag} : SS K (fun _ => t_law_cell K) (fun _ => m_law_cell) := by
  unfold t_law_cell m_law_cell 
  exact (S_seq (S_if (E_test (E_op O_lt (E_var 1) (E_cb C_len (E_cons (E_var 0) E_nil)))) (S_ret (E_op O_ix (E_var 0) (E_var 1))) S_next)
    (S_ret (E_op O_add (E_op O_mul (E_int 7919) (E_var 1)) (E_int 131))))
theorem len_law_cell (K : PySem.W.Frag) : ∀ vs H Q E, sp_law_cell K vs H Q E → vs.length = (["script", "k"] : List Str).length := fun _ _ _ _ h => up_len h
theorem pure_law_cell (K : PySem.W.Frag) (vs : List V) (H : Hp) (Q : VK) (E : XK) (h : sp_law_cell K vs H Q E) : t_law_cell K { nx := fun _ H' => Q .non H', rt := Q } (start ["script", "k"] vs) H := up_run (tw := fun _ => t_law_cell K) (c_law_cell) (N := ["script", "k"]) rfl h
def m_law_box : MS :=
  (mRet (mCell (mLst (mCons (mCB nMax (mCons (mC (.int 0)) (mCons (mOp nSub (mVar 0) (mOp nPow (mC (.int 10)) (mC (.int 18)))) mNil))) (mCons (mOp nMod (mVar 0) (mC (.int 2147483629))) (mCons (mC (.int 0)) mNil))))))
def f_law_box : MP := dfn 1 1 (fun _ => m_law_box)
abbrev sp_law_box (K : PySem.W.Frag) : Sp := up K f_law_box
def t_law_box (K : PySem.W.Frag) : TS :=
  (tRet (tLst (tCons (tCB (rMaxA K) (tCons (tC (.int 0)) (tCons (tOp rSubA (tVar 0) (tOp rPowA (tC (.int 10)) (tC (.int 18)))) tNil))) (tCons (tOp rModA (tVar 0) (tC (.int 2147483629))) (tCons (tC (.int 0)) tNil)))))
theorem c_law_box {K : PySem.W.Frag} : SS K (fun _ => t_law_box K) (fun _ => m_law_box) := by
  unfold t_law_box m_law_box 
  exact (S_ret (E_cell (N_lst (E_cons (E_cb C_max (E_cons (E_int 0) (E_cons (E_op O_sub (E_var 0) (E_op O_pow (E_int 10) (E_int 18))) E_nil))) (E_cons (E_op O_mod (E_var 0) (E_int 2147483629)) (E_cons (E_int 0) E_nil))))))
theorem len_law_box (K : PySem.W.Frag) : ∀ vs H Q E, sp_law_box K vs H Q E → vs.length = (["cell"] : List Str).length := fun _ _ _ _ h => up_len h
theorem pure_law_box (K : PySem.W.Frag) (vs : List V) (H : Hp) (Q : VK) (E : XK) (h : sp_law_box K vs H Q E) : t_law_box K { nx := fun _ H' => Q .non H', rt := Q } (start ["cell"] vs) H := up_run (tw := fun _ => t_law_box K) (c_law_box) (N := ["cell"]) rfl h
def m_law_take : MS :=
  (mSeq (mIfS (mB (mOp nGt (mOp nIx (mVar 0) (mC (.int 0))) (mC (.int 0)))) (mSeq (mAsg (mOp nMod (mOp nIx (mVar 0) (mC (.int 0))) (mVar 1)) (hName 2))
    (mSeq (mAsg (mOp nDiv (mOp nIx (mVar 0) (mC (.int 0))) (mVar 1)) (hSub (mVar 0) (mC (.int 0)) nSet))
    (mRet (mVar 2)))) mNext)
    (mSeq (mAsg (mOp nAdd (mOp nIx (mVar 0) (mC (.int 2))) (mC (.int 1))) (hSub (mVar 0) (mC (.int 2)) nSet))
    (mSeq (mAsg (mOp nMod (mOp nPow (mOp nAdd (mOp nAdd (mOp nIx (mVar 0) (mC (.int 1))) (mOp nMul (mC (.int 7919)) (mOp nIx (mVar 0) (mC (.int 2))))) (mC (.int 43))) (mC (.int 5))) (mC (.int 2147483647))) (hName 3))
    (mSeq (mAsg (mOp nMod (mOp nPow (mOp nAdd (mVar 3) (mOp nMul (mC (.int 104729)) (mOp nIx (mVar 0) (mC (.int 2))))) (mC (.int 3))) (mC (.int 2147483587))) (hName 3))
    (mRet (mOp nMod (mOp nDiv (mVar 3) (mC (.int 8))) (mVar 1)))))))
def f_law_take : MP := dfn 4 2 (fun _ => m_law_take)
abbrev sp_law_take (K : PySem.W.Frag) : Sp := up K f_law_take
def t_law_take (K : PySem.W.Frag) : TS :=
  (tSeq (tIfS (tTest (tOp rGtA (tOp (rIxB K) (tVar 0) (tC (.int 0))) (tC (.int 0)))) (tSeq (tAsg (tOp rModA (tOp (rIxB K) (tVar 0) (tC (.int 0))) (tVar 1)) (gName 2))
    (tSeq (tAsg (tOp rDivA (tOp (rIxB K) (tVar 0) (tC (.int 0))) (tVar 1)) (gSub (tVar 0) (tC (.int 0)) rSetB))
    (tRet (tVar 2)))) tNext)
    (tSeq (tAsg (tOp (rAddA K) (tOp (rIxB K) (tVar 0) (tC (.int 2))) (tC (.int 1))) (gSub (tVar 0) (tC (.int 2)) rSetB))
    (tSeq (tAsg (tOp rModA (tOp rPowA (tOp (rAddA K) (tOp (rAddA K) (tOp (rIxB K) (tVar 0) (tC (.int 1))) (tOp rMulA (tC (.int 7919)) (tOp (rIxB K) (tVar 0) (tC (.int 2))))) (tC (.int 43))) (tC (.int 5))) (tC (.int 2147483647))) (gName 3))
    (tSeq (tAsg (tOp rModA (tOp rPowA (tOp (rAddA K) (tVar 3) (tOp rMulA (tC (.int 104729)) (tOp (rIxB K) (tVar 0) (tC (.int 2))))) (tC (.int 3))) (tC (.int 2147483587))) (gName 3))
    (tRet (tOp rModA (tOp rDivA (tVar 3) (tC (.int 8))) (tVar 1)))))))
theorem c_law_take {K : PySem.W.Frag} : SS K (fun _ => t_law_take K) (fun _ => m_law_take) := by
  unfold t_law_take m_law_take 
  exact (S_seq (S_if (E_test (E_op O_gt (E_op O_ix (E_var 0) (E_int 0)) (E_int 0))) (S_seq (S_asg (E_op O_mod (E_op O_ix (E_var 0) (E_int 0)) (E_var 1)) (G_name 2))
    (S_seq (S_asg (E_op O_div (E_op O_ix (E_var 0) (E_int 0)) (E_var 1)) (G_sub O_set (E_var 0) (E_int 0)))
    (S_ret (E_var 2)))) S_next)
    (S_seq (S_asg (E_op O_add (E_op O_ix (E_var 0) (E_int 2)) (E_int 1)) (G_sub O_set (E_var 0) (E_int 2)))
    (S_seq (S_asg (E_op O_mod (E_op O_pow (E_op O_add (E_op O_add (E_op O_ix (E_var 0) (E_int 1)) (E_op O_mul (E_int 7919) (E_op O_ix (E_var 0) (E_int 2)))) (E_int 43)) (E_int 5)) (E_int 2147483647)) (G_name 3))
    (S_seq (S_asg (E_op O_mod (E_op O_pow (E_op O_add (E_var 3) (E_op O_mul (E_int 104729) (E_op O_ix (E_var 0) (E_int 2)))) (E_int 3)) (E_int 2147483587)) (G_name 3))
    (S_ret (E_op O_mod (E_op O_div (E_var 3) (E_int 8)) (E_var 1)))))))
theorem len_law_take (K : PySem.W.Frag) : ∀ vs H Q E, sp_law_take K vs H Q E → vs.length = (["box", "many"] : List Str).length := fun _ _ _ _ h => up_len h
theorem pure_law_take (K : PySem.W.Frag) (vs : List V) (H : Hp) (Q : VK) (E : XK) (h : sp_law_take K vs H Q E) : t_law_take K { nx := fun _ H' => Q .non H', rt := Q } (start ["box", "many", "digit", "number"] vs) H := up_run (tw := fun _ => t_law_take K) (c_law_take) (N := ["box", "many", "digit", "number"]) rfl h
def m_law_mixed : MS :=
  (mSeq (mAsg (mCell (mCB nList (mCons (mVar 1) mNil))) (hName 2))
    (mRet (mLc (mRng1 (mCons (mCB nLen (mCons (mVar 1) mNil)) mNil)) (hName 3) mYes (mBM "list" nPop (mVar 2) (mCons (mCall f_law_take (mCons (mVar 0) (mCons (mCB nLen (mCons (mVar 2) mNil)) mNil))) mNil)) [3])))
def f_law_mixed : MP := dfn 4 2 (fun _ => m_law_mixed)
abbrev sp_law_mixed (K : PySem.W.Frag) : Sp := up K f_law_mixed
def t_law_mixed (K : PySem.W.Frag) : TS :=
  (tSeq (tAsg (tCB (rListA K) (tCons (tVar 1) tNil)) (gName 2))
    (tRet (tLc (iRng1 (tCons (tCB (rLenB K) (tCons (tVar 1) tNil)) tNil)) (gName 3) tYes (tBMW K "list" rPopA (tVar 2) (tCons (tCall (sp_law_take K) [] E0 (tCons (tVar 0) (tCons (tCB (rLenB K) (tCons (tVar 2) tNil)) tNil))) tNil)) [3])))
theorem c_law_mixed {K : PySem.W.Frag} : SS K (fun _ => t_law_mixed K) (fun _ => m_law_mixed) := by
  unfold t_law_mixed m_law_mixed 
  exact (S_seq (S_asg (E_cell (N_list (E_cons (E_var 1) E_nil))) (G_name 2))
    (S_ret (E_lc (I_rng1 (E_cons (E_cb C_len (E_cons (E_var 1) E_nil)) E_nil)) (V_name 3 (by decide)) E_yes (E_bm M_pop (E_var 2) (E_cons (E_call f_law_take (E_cons (E_var 0) (E_cons (E_cb C_len (E_cons (E_var 2) E_nil)) E_nil))) E_nil)))))
theorem len_law_mixed (K : PySem.W.Frag) : ∀ vs H Q E, sp_law_mixed K vs H Q E → vs.length = (["box", "some"] : List Str).length := fun _ _ _ _ h => up_len h
theorem pure_law_mixed (K : PySem.W.Frag) (vs : List V) (H : Hp) (Q : VK) (E : XK) (h : sp_law_mixed K vs H Q E) : t_law_mixed K { nx := fun _ H' => Q .non H', rt := Q } (start ["box", "some", "left", "k"] vs) H := up_run (tw := fun _ => t_law_mixed K) (c_law_mixed) (N := ["box", "some", "left", "k"]) rfl h
def m_law_names : MS :=
  (mSeq (mAsg (mC (.str "abcdefghijklmnopqrstuvwxyz")) (hName 2))
    (mSeq (mIfS (mB (mOp nEq (mCall f_law_take (mCons (mVar 0) (mCons (mC (.int 7)) mNil))) (mC (.int 0)))) (mSeq (mAsg (mLst (mCons (mC (.str "begin")) (mCons (mC (.str "empty")) (mCons (mC (.str "rest")) (mCons (mC (.str "step")) (mCons (mC (.str "end")) (mCons (mC (.str "look")) (mCons (mC (.str "old")) (mCons (mC (.str "new")) (mCons (mC (.str "put")) (mCons (mC (.str "part")) (mCons (mC (.str "move")) (mCons (mC (.str "split")) (mCons (mC (.str "lock")) mNil)))))))))))))) (hName 3))
    (mRet (mSl nSl (mCall f_law_mixed (mCons (mVar 0) (mCons (mVar 3) mNil))) mNoPart (mPart (mVar 1))))) mNext)
    (mSeq (mAsg (mOp nIx (mLst (mCons (mC (.str "")) (mCons (mC (.str "a")) (mCons (mC (.str "tabl")) (mCons (mC (.str "rest")) (mCons (mC (.str "part")) (mCons (mC (.str "zzzzzzz")) mNil))))))) (mCall f_law_take (mCons (mVar 0) (mCons (mC (.int 6)) mNil)))) (hName 4))
    (mSeq (mPar3 5 6 7 (mCons (mCall f_law_take (mCons (mVar 0) (mCons (mC (.int 26)) mNil))) (mCons (mOp nIx (mLst (mCons (mC (.int 1)) (mCons (mC (.int 3)) (mCons (mC (.int 5)) (mCons (mC (.int 7)) (mCons (mC (.int 9)) (mCons (mC (.int 11)) mNil))))))) (mCall f_law_take (mCons (mVar 0) (mCons (mC (.int 6)) mNil)))) (mCons (mCall f_law_take (mCons (mVar 0) (mCons (mC (.int 3)) mNil))) mNil))))
    (mSeq (mAsg (mCell (mLst mNil)) (hName 8))
    (mSeq (mFor (mRng1 (mCons (mVar 1) mNil)) (hName 9) (mSeq (mAsg (mOp nIx (mVar 2) (mOp nMod (mOp nAdd (mVar 5) (mOp nMul (mVar 6) (mVar 9))) (mC (.int 26)))) (hName 10))
    (mSeq (mAsg (mOp nIx (mLst (mCons (mOp nAdd (mVar 4) (mVar 10)) (mCons (mOp nAdd (mVar 10) (mVar 4)) (mCons (mVar 10) mNil)))) (mIf (mB (mOp nGt (mVar 9) (mC (.int 0)))) (mVar 7) (mC (.int 0)))) (hName 11))
    (mDrop (mBM "list" nAppend (mVar 8) (mCons (mIf (mB (mOp nEq (mVar 11) (mC (.str "table")))) (mC (.str "tables")) (mVar 11)) mNil))))))
    (mRet (mVar 8))))))))
def f_law_names : MP := dfn 12 2 (fun _ => m_law_names)
abbrev sp_law_names (K : PySem.W.Frag) : Sp := up K f_law_names
def t_law_names (K : PySem.W.Frag) : TS :=
  (tSeq (tAsg (tC (.str "abcdefghijklmnopqrstuvwxyz")) (gName 2))
    (tSeq (tIfS (tTest (tOp (rEqA K) (tCall (sp_law_take K) [] E0 (tCons (tVar 0) (tCons (tC (.int 7)) tNil))) (tC (.int 0)))) (tSeq (tAsg (tLst (tCons (tC (.str "begin")) (tCons (tC (.str "empty")) (tCons (tC (.str "rest")) (tCons (tC (.str "step")) (tCons (tC (.str "end")) (tCons (tC (.str "look")) (tCons (tC (.str "old")) (tCons (tC (.str "new")) (tCons (tC (.str "put")) (tCons (tC (.str "part")) (tCons (tC (.str "move")) (tCons (tC (.str "split")) (tCons (tC (.str "lock")) tNil)))))))))))))) (gName 3))
    (tRet (tSl (rSlA K) (tCall (sp_law_mixed K) [] E0 (tCons (tVar 0) (tCons (tVar 3) tNil))) tNoPart (tPart (tVar 1))))) tNext)
    (tSeq (tAsg (tOp (rIxB K) (tLst (tCons (tC (.str "")) (tCons (tC (.str "a")) (tCons (tC (.str "tabl")) (tCons (tC (.str "rest")) (tCons (tC (.str "part")) (tCons (tC (.str "zzzzzzz")) tNil))))))) (tCall (sp_law_take K) [] E0 (tCons (tVar 0) (tCons (tC (.int 6)) tNil)))) (gName 4))
    (tSeq (tPar3 5 6 7 (tCons (tCall (sp_law_take K) [] E0 (tCons (tVar 0) (tCons (tC (.int 26)) tNil))) (tCons (tOp (rIxB K) (tLst (tCons (tC (.int 1)) (tCons (tC (.int 3)) (tCons (tC (.int 5)) (tCons (tC (.int 7)) (tCons (tC (.int 9)) (tCons (tC (.int 11)) tNil))))))) (tCall (sp_law_take K) [] E0 (tCons (tVar 0) (tCons (tC (.int 6)) tNil)))) (tCons (tCall (sp_law_take K) [] E0 (tCons (tVar 0) (tCons (tC (.int 3)) tNil))) tNil))))
    (tSeq (tAsg (tLst tNil) (gName 8))
    (tSeq (tFor (iRng1 (tCons (tVar 1) tNil)) (gName 9) (tSeq (tAsg (tOp (rIxB K) (tVar 2) (tOp rModA (tOp (rAddA K) (tVar 5) (tOp rMulA (tVar 6) (tVar 9))) (tC (.int 26)))) (gName 10))
    (tSeq (tAsg (tOp (rIxB K) (tLst (tCons (tOp (rAddA K) (tVar 4) (tVar 10)) (tCons (tOp (rAddA K) (tVar 10) (tVar 4)) (tCons (tVar 10) tNil)))) (tIf (tTest (tOp rGtA (tVar 9) (tC (.int 0)))) (tVar 7) (tC (.int 0)))) (gName 11))
    (tDrop (tBMW K "list" rAppend (tVar 8) (tCons (tIf (tTest (tOp (rEqA K) (tVar 11) (tC (.str "table")))) (tC (.str "tables")) (tVar 11)) tNil))))))
    (tRet (tVar 8))))))))
theorem c_law_names {K : PySem.W.Frag} : SS K (fun _ => t_law_names K) (fun _ => m_law_names) := by
  unfold t_law_names m_law_names 
  exact (S_seq (S_asg (E_str (by decide)) (G_name 2))
    (S_seq (S_if (E_test (E_op O_eq (E_call f_law_take (E_cons (E_var 0) (E_cons (E_int 7) E_nil))) (E_int 0))) (S_seq (S_asg (E_lst (E_cons (E_str (by decide)) (E_cons (E_str (by decide)) (E_cons (E_str (by decide)) (E_cons (E_str (by decide)) (E_cons (E_str (by decide)) (E_cons (E_str (by decide)) (E_cons (E_str (by decide)) (E_cons (E_str (by decide)) (E_cons (E_str (by decide)) (E_cons (E_str (by decide)) (E_cons (E_str (by decide)) (E_cons (E_str (by decide)) (E_cons (E_str (by decide)) E_nil)))))))))))))) (G_name 3))
    (S_ret (E_sl O_sl (E_call f_law_mixed (E_cons (E_var 0) (E_cons (E_var 3) E_nil))) E_nopart (E_part (E_var 1))))) S_next)
    (S_seq (S_asg (E_op O_ix (E_lst (E_cons (E_str (by decide)) (E_cons (E_str (by decide)) (E_cons (E_str (by decide)) (E_cons (E_str (by decide)) (E_cons (E_str (by decide)) (E_cons (E_str (by decide)) E_nil))))))) (E_call f_law_take (E_cons (E_var 0) (E_cons (E_int 6) E_nil)))) (G_name 4))
    (S_seq (S_par3 (E_cons (E_call f_law_take (E_cons (E_var 0) (E_cons (E_int 26) E_nil))) (E_cons (E_op O_ix (E_lst (E_cons (E_int 1) (E_cons (E_int 3) (E_cons (E_int 5) (E_cons (E_int 7) (E_cons (E_int 9) (E_cons (E_int 11) E_nil))))))) (E_call f_law_take (E_cons (E_var 0) (E_cons (E_int 6) E_nil)))) (E_cons (E_call f_law_take (E_cons (E_var 0) (E_cons (E_int 3) E_nil))) E_nil))))
    (S_seq (S_asg (E_cell (N_lst E_nil)) (G_name 8))
    (S_seq (S_for (I_rng1 (E_cons (E_var 1) E_nil)) (G_name 9) (S_seq (S_asg (E_op O_ix (E_var 2) (E_op O_mod (E_op O_add (E_var 5) (E_op O_mul (E_var 6) (E_var 9))) (E_int 26))) (G_name 10))
    (S_seq (S_asg (E_op O_ix (E_lst (E_cons (E_op O_add (E_var 4) (E_var 10)) (E_cons (E_op O_add (E_var 10) (E_var 4)) (E_cons (E_var 10) E_nil)))) (E_if (E_test (E_op O_gt (E_var 9) (E_int 0))) (E_var 7) (E_int 0))) (G_name 11))
    (S_drop (E_bm M_append (E_var 8) (E_cons (E_if (E_test (E_op O_eq (E_var 11) (E_str (by decide)))) (E_str (by decide)) (E_var 11)) E_nil))))))
    (S_ret (E_var 8))))))))
theorem len_law_names (K : PySem.W.Frag) : ∀ vs H Q E, sp_law_names K vs H Q E → vs.length = (["box", "many"] : List Str).length := fun _ _ _ _ h => up_len h
theorem pure_law_names (K : PySem.W.Frag) (vs : List V) (H : Hp) (Q : VK) (E : XK) (h : sp_law_names K vs H Q E) : t_law_names K { nx := fun _ H' => Q .non H', rt := Q } (start ["box", "many", "letters", "words", "stem", "first", "step", "way", "found", "k", "sign", "name"] vs) H := up_run (tw := fun _ => t_law_names K) (c_law_names) (N := ["box", "many", "letters", "words", "stem", "first", "step", "way", "found", "k", "sign", "name"]) rfl h
def m_law_has : MS :=
  (mRet ((mAndV ((mOrV (mOp nIs (mOp nIx (mVar 0) (mC (.int 0))) (mC .non)) (mOp nLe (mOp nIx (mVar 0) (mC (.int 0))) (mVar 1)))) ((mOrV (mOp nIs (mOp nIx (mVar 0) (mC (.int 1))) (mC .non)) (mOp nLt (mVar 1) (mOp nIx (mVar 0) (mC (.int 1)))))))))
def f_law_has : MP := dfn 2 2 (fun _ => m_law_has)
abbrev sp_law_has (K : PySem.W.Frag) : Sp := up K f_law_has
def t_law_has (K : PySem.W.Frag) : TS :=
  (tRet ((tAndV ((tOrV (tOp rIsA (tOp (rIxB K) (tVar 0) (tC (.int 0))) (tC .non)) (tOp rLeA (tOp (rIxB K) (tVar 0) (tC (.int 0))) (tVar 1)))) ((tOrV (tOp rIsA (tOp (rIxB K) (tVar 0) (tC (.int 1))) (tC .non)) (tOp rLtA (tVar 1) (tOp (rIxB K) (tVar 0) (tC (.int 1)))))))))
theorem c_law_has {K : PySem.W.Frag} : SS K (fun _ => t_law_has K) (fun _ => m_law_has) := by
  unfold t_law_has m_law_has 
  exact (S_ret ((E_andV ((E_orV (E_op O_is (E_op O_ix (E_var 0) (E_int 0)) (E_non)) (E_op O_le (E_op O_ix (E_var 0) (E_int 0)) (E_var 1)))) ((E_orV (E_op O_is (E_op O_ix (E_var 0) (E_int 1)) (E_non)) (E_op O_lt (E_var 1) (E_op O_ix (E_var 0) (E_int 1))))))))
theorem len_law_has (K : PySem.W.Frag) : ∀ vs H Q E, sp_law_has K vs H Q E → vs.length = (["span", "key"] : List Str).length := fun _ _ _ _ h => up_len h
theorem pure_law_has (K : PySem.W.Frag) (vs : List V) (H : Hp) (Q : VK) (E : XK) (h : sp_law_has K vs H Q E) : t_law_has K { nx := fun _ H' => Q .non H', rt := Q } (start ["span", "key"] vs) H := up_run (tw := fun _ => t_law_has K) (c_law_has) (N := ["span", "key"]) rfl h
def b_law_model_L1_2 : MS :=
  (mDrop (mBM "list" nAppend (mVar 5) (mCons (mCell (mLst (mCons (mOp nIx (mVar 2) (mVar 6)) (mCons (mTup (mCons (mVar 7) (mCons (mVar 4) mNil))) mNil)))) mNil)))
def b_law_model_L1_1 : MS :=
  mSeq (mAsg (mOp nAdd (mVar 7) (mOp nMul (mOp nAdd (mC (.int 1)) (mCall f_law_take (mCons (mVar 0) (mCons (mC (.int 9)) mNil)))) (mVar 3))) (hName 4)) b_law_model_L1_2
def l_law_model_1 : MS :=
  mSeq (mAsg (mOp nAdd (mVar 4) (mOp nMul (mOp nIx (mLst (mCons (mC (.int 0)) (mCons (mC (.int 0)) (mCons (mOp nAdd (mC (.int 1)) (mCall f_law_take (mCons (mVar 0) (mCons (mC (.int 5)) mNil)))) mNil)))) (mCall f_law_take (mCons (mVar 0) (mCons (mC (.int 3)) mNil)))) (mVar 3))) (hName 7)) b_law_model_L1_1
def b_law_model_8 : MS :=
  (mRet (mLst (mCons (mVar 5) (mCons (mVar 8) (mCons (mSl nSl (mVar 2) (mPart (mOp nAdd (mCB nLen (mCons (mVar 5) mNil)) (mC (.int 1)))) mNoPart) mNil)))))
def b_law_model_7 : MS :=
  mSeq (mAsg (mOp nIx (mLst (mCons (mC .non) (mCons (mOp nIx (mVar 2) (mCB nLen (mCons (mVar 5) mNil))) mNil))) (mCall f_law_take (mCons (mVar 0) (mCons (mC (.int 2)) mNil)))) (hName 8)) b_law_model_8
def b_law_model_6 : MS :=
  mCut (mIfS ((mAnd (mB (mOp nNeE (mVar 5) (mLst mNil))) (mB (mOp nEq (mCall f_law_take (mCons (mVar 0) (mCons (mC (.int 3)) mNil))) (mC (.int 0)))))) (mAsg (mTup (mCons (mOp nIx (mOp nIx (mOp nIx (mVar 5) (mNeg (mC (.int 1)))) (mC (.int 1))) (mC (.int 0))) (mCons (mC .non) mNil))) (hSub (mOp nIx (mVar 5) (mNeg (mC (.int 1)))) (mC (.int 1)) nSet)) mNext) b_law_model_7
def b_law_model_5 : MS :=
  mCut (mIfS ((mAnd (mB (mOp nNeE (mVar 5) (mLst mNil))) (mB (mOp nEq (mCall f_law_take (mCons (mVar 0) (mCons (mC (.int 3)) mNil))) (mC (.int 0)))))) (mAsg (mTup (mCons (mC .non) (mCons (mOp nIx (mOp nIx (mOp nIx (mVar 5) (mC (.int 0))) (mC (.int 1))) (mC (.int 1))) mNil))) (hSub (mOp nIx (mVar 5) (mC (.int 0))) (mC (.int 1)) nSet)) mNext) b_law_model_6
def b_law_model_4 : MS :=
  mSeq (mFor (mRng1 (mCons (mCall f_law_take (mCons (mVar 0) (mCons (mOp nAdd (mVar 1) (mC (.int 1))) mNil))) mNil)) (hName 6) l_law_model_1) b_law_model_5
def b_law_model_3 : MS :=
  mSeq (mAsg (mCell (mLst mNil)) (hName 5)) b_law_model_4
def b_law_model_2 : MS :=
  mSeq (mAsg (mOp nMul (mOp nSub (mCall f_law_take (mCons (mVar 0) (mCons (mC (.int 19)) mNil))) (mC (.int 9))) (mVar 3)) (hName 4)) b_law_model_3
def b_law_model_1 : MS :=
  mSeq (mAsg (mOp nIx (mLst (mCons (mC (.int 1)) (mCons (mC (.int 1)) (mCons (mOp nPow (mC (.int 10)) (mC (.int 9))) (mCons (mOp nPow (mC (.int 10)) (mC (.int 27))) mNil))))) (mCall f_law_take (mCons (mVar 0) (mCons (mC (.int 4)) mNil)))) (hName 3)) b_law_model_2
def m_law_model : MS :=
  mSeq (mAsg (mCall f_law_names (mCons (mVar 0) (mCons (mOp nAdd (mVar 1) (mC (.int 4))) mNil))) (hName 2)) b_law_model_1
def f_law_model : MP := dfn 9 2 (fun _ => m_law_model)
abbrev sp_law_model (K : PySem.W.Frag) : Sp := up K f_law_model
def t_law_model (K : PySem.W.Frag) : TS :=
  (tSeq (tAsg (tCall (sp_law_names K) [] E0 (tCons (tVar 0) (tCons (tOp (rAddA K) (tVar 1) (tC (.int 4))) tNil))) (gName 2))
    (tSeq (tAsg (tOp (rIxB K) (tLst (tCons (tC (.int 1)) (tCons (tC (.int 1)) (tCons (tOp rPowA (tC (.int 10)) (tC (.int 9))) (tCons (tOp rPowA (tC (.int 10)) (tC (.int 27))) tNil))))) (tCall (sp_law_take K) [] E0 (tCons (tVar 0) (tCons (tC (.int 4)) tNil)))) (gName 3))
    (tSeq (tAsg (tOp rMulA (tOp rSubA (tCall (sp_law_take K) [] E0 (tCons (tVar 0) (tCons (tC (.int 19)) tNil))) (tC (.int 9))) (tVar 3)) (gName 4))
    (tSeq (tAsg (tLst tNil) (gName 5))
    (tSeq (tFor (iRng1 (tCons (tCall (sp_law_take K) [] E0 (tCons (tVar 0) (tCons (tOp (rAddA K) (tVar 1) (tC (.int 1))) tNil))) tNil)) (gName 6) (tSeq (tAsg (tOp (rAddA K) (tVar 4) (tOp rMulA (tOp (rIxB K) (tLst (tCons (tC (.int 0)) (tCons (tC (.int 0)) (tCons (tOp (rAddA K) (tC (.int 1)) (tCall (sp_law_take K) [] E0 (tCons (tVar 0) (tCons (tC (.int 5)) tNil)))) tNil)))) (tCall (sp_law_take K) [] E0 (tCons (tVar 0) (tCons (tC (.int 3)) tNil)))) (tVar 3))) (gName 7))
    (tSeq (tAsg (tOp (rAddA K) (tVar 7) (tOp rMulA (tOp (rAddA K) (tC (.int 1)) (tCall (sp_law_take K) [] E0 (tCons (tVar 0) (tCons (tC (.int 9)) tNil)))) (tVar 3))) (gName 4))
    (tDrop (tBMW K "list" rAppend (tVar 5) (tCons (tLst (tCons (tOp (rIxB K) (tVar 2) (tVar 6)) (tCons (tTup (tCons (tVar 7) (tCons (tVar 4) tNil))) tNil))) tNil))))))
    (tCut (tIfS ((tAnd (tTest (tOp (rNeE K) (tVar 5) (tLst tNil))) (tTest (tOp (rEqA K) (tCall (sp_law_take K) [] E0 (tCons (tVar 0) (tCons (tC (.int 3)) tNil))) (tC (.int 0)))))) (tAsg (tTup (tCons (tC .non) (tCons (tOp (rIxB K) (tOp (rIxB K) (tOp (rIxB K) (tVar 5) (tC (.int 0))) (tC (.int 1))) (tC (.int 1))) tNil))) (gSub (tOp (rIxB K) (tVar 5) (tC (.int 0))) (tC (.int 1)) rSetB)) tNext)
    (tCut (tIfS ((tAnd (tTest (tOp (rNeE K) (tVar 5) (tLst tNil))) (tTest (tOp (rEqA K) (tCall (sp_law_take K) [] E0 (tCons (tVar 0) (tCons (tC (.int 3)) tNil))) (tC (.int 0)))))) (tAsg (tTup (tCons (tOp (rIxB K) (tOp (rIxB K) (tOp (rIxB K) (tVar 5) (tUn (rU fun i => .int (-i)) (tC (.int 1)))) (tC (.int 1))) (tC (.int 0))) (tCons (tC .non) tNil))) (gSub (tOp (rIxB K) (tVar 5) (tUn (rU fun i => .int (-i)) (tC (.int 1)))) (tC (.int 1)) rSetB)) tNext)
    (tSeq (tAsg (tOp (rIxB K) (tLst (tCons (tC .non) (tCons (tOp (rIxB K) (tVar 2) (tCB (rLenB K) (tCons (tVar 5) tNil))) tNil))) (tCall (sp_law_take K) [] E0 (tCons (tVar 0) (tCons (tC (.int 2)) tNil)))) (gName 8))
    (tRet (tLst (tCons (tVar 5) (tCons (tVar 8) (tCons (tSl (rSlA K) (tVar 2) (tPart (tOp (rAddA K) (tCB (rLenB K) (tCons (tVar 5) tNil)) (tC (.int 1)))) tNoPart) tNil)))))))))))))
theorem c_law_model {K : PySem.W.Frag} : SS K (fun _ => t_law_model K) (fun _ => m_law_model) := by
  unfold t_law_model m_law_model b_law_model_1 b_law_model_2 b_law_model_3 b_law_model_4 b_law_model_5 b_law_model_6 b_law_model_7 b_law_model_8 l_law_model_1 b_law_model_L1_1 b_law_model_L1_2
  exact (S_seq (S_asg (E_call f_law_names (E_cons (E_var 0) (E_cons (E_op O_add (E_var 1) (E_int 4)) E_nil))) (G_name 2))
    (S_seq (S_asg (E_op O_ix (E_lst (E_cons (E_int 1) (E_cons (E_int 1) (E_cons (E_op O_pow (E_int 10) (E_int 9)) (E_cons (E_op O_pow (E_int 10) (E_int 27)) E_nil))))) (E_call f_law_take (E_cons (E_var 0) (E_cons (E_int 4) E_nil)))) (G_name 3))
    (S_seq (S_asg (E_op O_mul (E_op O_sub (E_call f_law_take (E_cons (E_var 0) (E_cons (E_int 19) E_nil))) (E_int 9)) (E_var 3)) (G_name 4))
    (S_seq (S_asg (E_cell (N_lst E_nil)) (G_name 5))
    (S_seq (S_for (I_rng1 (E_cons (E_call f_law_take (E_cons (E_var 0) (E_cons (E_op O_add (E_var 1) (E_int 1)) E_nil))) E_nil)) (G_name 6) (S_seq (S_asg (E_op O_add (E_var 4) (E_op O_mul (E_op O_ix (E_lst (E_cons (E_int 0) (E_cons (E_int 0) (E_cons (E_op O_add (E_int 1) (E_call f_law_take (E_cons (E_var 0) (E_cons (E_int 5) E_nil)))) E_nil)))) (E_call f_law_take (E_cons (E_var 0) (E_cons (E_int 3) E_nil)))) (E_var 3))) (G_name 7))
    (S_seq (S_asg (E_op O_add (E_var 7) (E_op O_mul (E_op O_add (E_int 1) (E_call f_law_take (E_cons (E_var 0) (E_cons (E_int 9) E_nil)))) (E_var 3))) (G_name 4))
    (S_drop (E_bm M_append (E_var 5) (E_cons (E_cell (N_lst (E_cons (E_op O_ix (E_var 2) (E_var 6)) (E_cons (E_tup (E_cons (E_var 7) (E_cons (E_var 4) E_nil))) E_nil)))) E_nil))))))
    (S_cut (S_if ((E_and (E_test (E_op O_neE (E_var 5) (E_lst E_nil))) (E_test (E_op O_eq (E_call f_law_take (E_cons (E_var 0) (E_cons (E_int 3) E_nil))) (E_int 0))))) (S_asg (E_tup (E_cons (E_non) (E_cons (E_op O_ix (E_op O_ix (E_op O_ix (E_var 5) (E_int 0)) (E_int 1)) (E_int 1)) E_nil))) (G_sub O_set (E_op O_ix (E_var 5) (E_int 0)) (E_int 1))) S_next)
    (S_cut (S_if ((E_and (E_test (E_op O_neE (E_var 5) (E_lst E_nil))) (E_test (E_op O_eq (E_call f_law_take (E_cons (E_var 0) (E_cons (E_int 3) E_nil))) (E_int 0))))) (S_asg (E_tup (E_cons (E_op O_ix (E_op O_ix (E_op O_ix (E_var 5) (E_neg (E_int 1))) (E_int 1)) (E_int 0)) (E_cons (E_non) E_nil))) (G_sub O_set (E_op O_ix (E_var 5) (E_neg (E_int 1))) (E_int 1))) S_next)
    (S_seq (S_asg (E_op O_ix (E_lst (E_cons (E_non) (E_cons (E_op O_ix (E_var 2) (E_cb C_len (E_cons (E_var 5) E_nil))) E_nil))) (E_call f_law_take (E_cons (E_var 0) (E_cons (E_int 2) E_nil)))) (G_name 8))
    (S_ret (E_lst (E_cons (E_var 5) (E_cons (E_var 8) (E_cons (E_sl O_sl (E_var 2) (E_part (E_op O_add (E_cb C_len (E_cons (E_var 5) E_nil)) (E_int 1))) E_nopart) E_nil)))))))))))))
theorem len_law_model (K : PySem.W.Frag) : ∀ vs H Q E, sp_law_model K vs H Q E → vs.length = (["box", "most"] : List Str).length := fun _ _ _ _ h => up_len h
theorem pure_law_model (K : PySem.W.Frag) (vs : List V) (H : Hp) (Q : VK) (E : XK) (h : sp_law_model K vs H Q E) : t_law_model K { nx := fun _ H' => Q .non H', rt := Q } (start ["box", "most", "names", "great", "at", "rows", "k", "low", "spared"] vs) H := up_run (tw := fun _ => t_law_model K) (c_law_model) (N := ["box", "most", "names", "great", "at", "rows", "k", "low", "spared"]) rfl h
def m_law_catalog : MS :=
  (mRet (mMake "Catalog" [0, 1, 2] 1 1 f_Catalog_init [] (mCons (mCB nDictP (mCons (mCall f_law_mixed (mCons (mVar 0) (mCons (mLc (mAny (mOp nIx (mVar 1) (mC (.int 0)))) (hName 2) mYes (mCB nTupC (mCons (mVar 2) mNil)) [2]) mNil))) mNil)) mNil) (mCons (mOp nIx (mVar 1) (mC (.int 1))) mNil)))
def f_law_catalog : MP := dfn 3 2 (fun _ => m_law_catalog)
abbrev sp_law_catalog (K : PySem.W.Frag) : Sp := up K f_law_catalog
def t_law_catalog (K : PySem.W.Frag) : TS :=
  (tRet (tMakeP K "Catalog" [0, 1, 2] 1 1 (sp_Catalog_init K) [] (fun _ => E0) (tCons (tCB (rDictP K) (tCons (tCall (sp_law_mixed K) [] E0 (tCons (tVar 0) (tCons (tLc (iSeq K (tOp (rIxB K) (tVar 1) (tC (.int 0)))) (gName 2) tYes (tCB (rTupA K) (tCons (tVar 2) tNil)) [2]) tNil))) tNil)) tNil) (tCons (tOp (rIxB K) (tVar 1) (tC (.int 1))) tNil)))
theorem c_law_catalog {K : PySem.W.Frag} : SS K (fun _ => t_law_catalog K) (fun _ => m_law_catalog) := by
  unfold t_law_catalog m_law_catalog 
  exact (S_ret (E_make "Catalog" [0, 1, 2] 1 1 f_Catalog_init DfL.nil (E_cons (E_cb C_dictP (E_cons (E_call f_law_mixed (E_cons (E_var 0) (E_cons (E_lc (I_seq (E_op O_ix (E_var 1) (E_int 0))) (V_name 2 (by decide)) E_yes (E_cb C_tup (E_cons (E_var 2) E_nil))) E_nil))) E_nil)) E_nil) (E_cons (E_op O_ix (E_var 1) (E_int 1)) E_nil)))
theorem len_law_catalog (K : PySem.W.Frag) : ∀ vs H Q E, sp_law_catalog K vs H Q E → vs.length = (["box", "model"] : List Str).length := fun _ _ _ _ h => up_len h
theorem pure_law_catalog (K : PySem.W.Frag) (vs : List V) (H : Hp) (Q : VK) (E : XK) (h : sp_law_catalog K vs H Q E) : t_law_catalog K { nx := fun _ H' => Q .non H', rt := Q } (start ["box", "model", "row"] vs) H := up_run (tw := fun _ => t_law_catalog K) (c_law_catalog) (N := ["box", "model", "row"]) rfl h
def m_law_part : MS :=
  (mSeq (mFor (mAny (mOp nIx (mVar 0) (mC (.int 0)))) (hTL 2 (hCons (hName 2) (hCons (hName 3) hNil))) (mIfS (mB (mCall f_law_has (mCons (mVar 3) (mCons (mVar 1) mNil)))) (mRet (mVar 2)) mNext))
    (mRet (mOp nIx (mVar 0) (mC (.int 1)))))
def f_law_part : MP := dfn 4 2 (fun _ => m_law_part)
abbrev sp_law_part (K : PySem.W.Frag) : Sp := up K f_law_part
def t_law_part (K : PySem.W.Frag) : TS :=
  (tSeq (tFor (iSeq K (tOp (rIxB K) (tVar 0) (tC (.int 0)))) (gTL K 2 (gCons (gName 2) (gCons (gName 3) gNil))) (tIfS (tB (tCall (sp_law_has K) [] E0 (tCons (tVar 3) (tCons (tVar 1) tNil)))) (tRet (tVar 2)) tNext))
    (tRet (tOp (rIxB K) (tVar 0) (tC (.int 1)))))
theorem c_law_part {K : PySem.W.Frag} : SS K (fun _ => t_law_part K) (fun _ => m_law_part) := by
  unfold t_law_part m_law_part 
  exact (S_seq (S_for (I_seq (E_op O_ix (E_var 0) (E_int 0))) (G_tl (G_cons (G_name 2) (G_cons (G_name 3) G_nil))) (S_if (E_B (E_call f_law_has (E_cons (E_var 3) (E_cons (E_var 1) E_nil)))) (S_ret (E_var 2)) S_next))
    (S_ret (E_op O_ix (E_var 0) (E_int 1))))
theorem len_law_part (K : PySem.W.Frag) : ∀ vs H Q E, sp_law_part K vs H Q E → vs.length = (["model", "key"] : List Str).length := fun _ _ _ _ h => up_len h
theorem pure_law_part (K : PySem.W.Frag) (vs : List V) (H : Hp) (Q : VK) (E : XK) (h : sp_law_part K vs H Q E) : t_law_part K { nx := fun _ H' => Q .non H', rt := Q } (start ["model", "key", "name", "span"] vs) H := up_run (tw := fun _ => t_law_part K) (c_law_part) (N := ["model", "key", "name", "span"]) rfl h
def m_law_inner : MS :=
  (mSeq (mIfS ((mAnd (mB (mOp nIs (mVar 0) (mC .non))) (mB (mOp nIs (mVar 1) (mC .non))))) (mRet (mLst (mCons (mNeg (mOp nPow (mC (.int 10)) (mC (.int 29)))) (mCons (mC (.int 0)) (mCons (mOp nPow (mC (.int 10)) (mC (.int 29))) mNil))))) mNext)
    (mSeq (mIfS (mB (mOp nIs (mVar 0) (mC .non))) (mRet (mLst (mCons (mOp nSub (mVar 1) (mC (.int 1))) (mCons (mOp nSub (mVar 1) (mOp nPow (mC (.int 10)) (mC (.int 29)))) mNil)))) mNext)
    (mSeq (mIfS (mB (mOp nIs (mVar 1) (mC .non))) (mRet (mLst (mCons (mVar 0) (mCons (mOp nAdd (mVar 0) (mOp nPow (mC (.int 10)) (mC (.int 29)))) mNil)))) mNext)
    (mRet (mLst (mCons (mVar 0) (mCons (mOp nSub (mVar 1) (mC (.int 1))) (mCons (mOp nDiv (mOp nAdd (mVar 0) (mVar 1)) (mC (.int 2))) mNil))))))))
def f_law_inner : MP := dfn 2 2 (fun _ => m_law_inner)
abbrev sp_law_inner (K : PySem.W.Frag) : Sp := up K f_law_inner
def t_law_inner (K : PySem.W.Frag) : TS :=
  (tSeq (tIfS ((tAnd (tTest (tOp rIsA (tVar 0) (tC .non))) (tTest (tOp rIsA (tVar 1) (tC .non))))) (tRet (tLst (tCons (tUn (rU fun i => .int (-i)) (tOp rPowA (tC (.int 10)) (tC (.int 29)))) (tCons (tC (.int 0)) (tCons (tOp rPowA (tC (.int 10)) (tC (.int 29))) tNil))))) tNext)
    (tSeq (tIfS (tTest (tOp rIsA (tVar 0) (tC .non))) (tRet (tLst (tCons (tOp rSubA (tVar 1) (tC (.int 1))) (tCons (tOp rSubA (tVar 1) (tOp rPowA (tC (.int 10)) (tC (.int 29)))) tNil)))) tNext)
    (tSeq (tIfS (tTest (tOp rIsA (tVar 1) (tC .non))) (tRet (tLst (tCons (tVar 0) (tCons (tOp (rAddA K) (tVar 0) (tOp rPowA (tC (.int 10)) (tC (.int 29)))) tNil)))) tNext)
    (tRet (tLst (tCons (tVar 0) (tCons (tOp rSubA (tVar 1) (tC (.int 1))) (tCons (tOp rDivA (tOp (rAddA K) (tVar 0) (tVar 1)) (tC (.int 2))) tNil))))))))
theorem c_law_inner {K : PySem.W.Frag} : SS K (fun _ => t_law_inner K) (fun _ => m_law_inner) := by
  unfold t_law_inner m_law_inner 
  exact (S_seq (S_if ((E_and (E_test (E_op O_is (E_var 0) (E_non))) (E_test (E_op O_is (E_var 1) (E_non))))) (S_ret (E_lst (E_cons (E_neg (E_op O_pow (E_int 10) (E_int 29))) (E_cons (E_int 0) (E_cons (E_op O_pow (E_int 10) (E_int 29)) E_nil))))) S_next)
    (S_seq (S_if (E_test (E_op O_is (E_var 0) (E_non))) (S_ret (E_lst (E_cons (E_op O_sub (E_var 1) (E_int 1)) (E_cons (E_op O_sub (E_var 1) (E_op O_pow (E_int 10) (E_int 29))) E_nil)))) S_next)
    (S_seq (S_if (E_test (E_op O_is (E_var 1) (E_non))) (S_ret (E_lst (E_cons (E_var 0) (E_cons (E_op O_add (E_var 0) (E_op O_pow (E_int 10) (E_int 29))) E_nil)))) S_next)
    (S_ret (E_lst (E_cons (E_var 0) (E_cons (E_op O_sub (E_var 1) (E_int 1)) (E_cons (E_op O_div (E_op O_add (E_var 0) (E_var 1)) (E_int 2)) E_nil))))))))
theorem len_law_inner (K : PySem.W.Frag) : ∀ vs H Q E, sp_law_inner K vs H Q E → vs.length = (["low", "high"] : List Str).length := fun _ _ _ _ h => up_len h
theorem pure_law_inner (K : PySem.W.Frag) (vs : List V) (H : Hp) (Q : VK) (E : XK) (h : sp_law_inner K vs H Q E) : t_law_inner K { nx := fun _ H' => Q .non H', rt := Q } (start ["low", "high"] vs) H := up_run (tw := fun _ => t_law_inner K) (c_law_inner) (N := ["low", "high"]) rfl h
def l_law_count_1 : MS :=
  (mAsg (mOp nAdd (mVar 1) (mLc (mAny (mVar 3)) (hName 4) ((mAnd (mB (mOp nIsnt (mVar 4) (mC .non))) (mB (mOp nNin (mVar 4) (mVar 1))))) (mVar 4) [4])) (hName 1))
def b_law_count_2 : MS :=
  (mRet (mOp nAdd (mC (.int 1)) (mCB nLen (mCons (mLc (mAny (mVar 1)) (hName 4) (mB (mOp nNe (mCall f_law_part (mCons (mVar 0) (mCons (mOp nSub (mVar 4) (mC (.int 1))) mNil))) (mCall f_law_part (mCons (mVar 0) (mCons (mVar 4) mNil))))) (mVar 4) [4]) mNil))))
def b_law_count_1 : MS :=
  mSeq (mFor (mAny (mOp nIx (mVar 0) (mC (.int 0)))) (hTL 2 (hCons (hName 2) (hCons (hName 3) hNil))) l_law_count_1) b_law_count_2
def m_law_count : MS :=
  mSeq (mAsg (mLst mNil) (hName 1)) b_law_count_1
def f_law_count : MP := dfn 5 1 (fun _ => m_law_count)
abbrev sp_law_count (K : PySem.W.Frag) : Sp := up K f_law_count
def t_law_count (K : PySem.W.Frag) : TS :=
  (tSeq (tAsg (tLst tNil) (gName 1))
    (tSeq (tFor (iSeq K (tOp (rIxB K) (tVar 0) (tC (.int 0)))) (gTL K 2 (gCons (gName 2) (gCons (gName 3) gNil))) (tAsg (tOp (rAddA K) (tVar 1) (tLc (iSeq K (tVar 3)) (gName 4) ((tAnd (tTest (tOp rNotA (tVar 4) (tC .non))) (tTest (tOp (rNinB K) (tVar 4) (tVar 1))))) (tVar 4) [4])) (gName 1)))
    (tRet (tOp (rAddA K) (tC (.int 1)) (tCB (rLenB K) (tCons (tLc (iSeq K (tVar 1)) (gName 4) (tTest (tOp (rNeA K) (tCall (sp_law_part K) [] E0 (tCons (tVar 0) (tCons (tOp rSubA (tVar 4) (tC (.int 1))) tNil))) (tCall (sp_law_part K) [] E0 (tCons (tVar 0) (tCons (tVar 4) tNil))))) (tVar 4) [4]) tNil))))))
theorem c_law_count {K : PySem.W.Frag} : SS K (fun _ => t_law_count K) (fun _ => m_law_count) := by
  unfold t_law_count m_law_count b_law_count_1 b_law_count_2 l_law_count_1
  exact (S_seq (S_asg (E_lst E_nil) (G_name 1))
    (S_seq (S_for (I_seq (E_op O_ix (E_var 0) (E_int 0))) (G_tl (G_cons (G_name 2) (G_cons (G_name 3) G_nil))) (S_asg (E_op O_add (E_var 1) (E_lc (I_seq (E_var 3)) (V_name 4 (by decide)) ((E_and (E_test (E_op O_isnt (E_var 4) (E_non))) (E_test (E_op O_nin (E_var 4) (E_var 1))))) (E_var 4))) (G_name 1)))
    (S_ret (E_op O_add (E_int 1) (E_cb C_len (E_cons (E_lc (I_seq (E_var 1)) (V_name 4 (by decide)) (E_test (E_op O_ne (E_call f_law_part (E_cons (E_var 0) (E_cons (E_op O_sub (E_var 4) (E_int 1)) E_nil))) (E_call f_law_part (E_cons (E_var 0) (E_cons (E_var 4) E_nil))))) (E_var 4)) E_nil))))))
theorem len_law_count (K : PySem.W.Frag) : ∀ vs H Q E, sp_law_count K vs H Q E → vs.length = (["model"] : List Str).length := fun _ _ _ _ h => up_len h
theorem pure_law_count (K : PySem.W.Frag) (vs : List V) (H : Hp) (Q : VK) (E : XK) (h : sp_law_count K vs H Q E) : t_law_count K { nx := fun _ H' => Q .non H', rt := Q } (start ["model", "limits", "name", "span", "limit"] vs) H := up_run (tw := fun _ => t_law_count K) (c_law_count) (N := ["model", "limits", "name", "span", "limit"]) rfl h
def l_law_right_2 : MS :=
  (mIfS ((mOr (mB (mOp nNe (mVar 6) (mCall f_law_part (mCons (mVar 1) (mCons (mVar 7) mNil))))) (mB (mOp nNe (mVar 6) (mMeth "Catalog" "part_of" [0, 1] 1 0 f_Catalog_part_of [] (mVar 0) (mCons (mVar 7) mNil) mNil))))) (mRet (mC (.bl false))) mNext)
def b_law_right_L1_4 : MS :=
  (mFor (mAny (mCall f_law_inner (mCons (mVar 4) (mCons (mVar 5) mNil)))) (hName 7) l_law_right_2)
def b_law_right_L1_3 : MS :=
  mSeq (mIfS ((mAnd (mB (mOp nGt (mVar 3) (mC (.int 0)))) (mB (mOp nEq (mVar 6) (mOp nIx (mOp nIx (mVar 2) (mOp nSub (mVar 3) (mC (.int 1)))) (mC (.int 2))))))) (mRet (mC (.bl false))) mNext) b_law_right_L1_4
def b_law_right_L1_2 : MS :=
  mSeq (mIfS ((mAnd (mB (mOp nGt (mVar 3) (mC (.int 0)))) ((mOr (mB (mOp nIs (mVar 4) (mC .non))) (mB (mOp nNe (mVar 4) (mOp nIx (mOp nIx (mVar 2) (mOp nSub (mVar 3) (mC (.int 1)))) (mC (.int 1))))))))) (mRet (mC (.bl false))) mNext) b_law_right_L1_3
def b_law_right_L1_1 : MS :=
  mSeq (mIfS ((mAnd (mB (mOp nIsnt (mVar 4) (mC .non))) (mAnd (mB (mOp nIsnt (mVar 5) (mC .non))) (mB (mOp nGe (mVar 4) (mVar 5)))))) (mRet (mC (.bl false))) mNext) b_law_right_L1_2
def l_law_right_1 : MS :=
  mSeq (mAsg (mOp nIx (mVar 2) (mVar 3)) (hTup 3 (hCons (hName 4) (hCons (hName 5) (hCons (hName 6) hNil))))) b_law_right_L1_1
def b_law_right_3 : MS :=
  (mRet (mOp nEq (mCB nLen (mCons (mVar 2) mNil)) (mCall f_law_count (mCons (mVar 1) mNil))))
def b_law_right_2 : MS :=
  mSeq (mFor (mRng1 (mCons (mCB nLen (mCons (mVar 2) mNil)) mNil)) (hName 3) l_law_right_1) b_law_right_3
def b_law_right_1 : MS :=
  mSeq (mIfS ((mOr (mB (mOp nEq (mVar 2) (mLst mNil))) (mOr (mB (mOp nIsnt (mOp nIx (mOp nIx (mVar 2) (mC (.int 0))) (mC (.int 0))) (mC .non))) (mB (mOp nIsnt (mOp nIx (mOp nIx (mVar 2) (mNeg (mC (.int 1)))) (mC (.int 1))) (mC .non)))))) (mRet (mC (.bl false))) mNext) b_law_right_2
def m_law_right : MS :=
  mSeq (mAsg (mMeth "Catalog" "stretches" [0] 0 0 f_Catalog_stretches [] (mVar 0) mNil mNil) (hName 2)) b_law_right_1
def f_law_right : MP := dfn 8 2 (fun _ => m_law_right)
abbrev sp_law_right (K : PySem.W.Frag) : Sp := up K f_law_right
def t_law_right (K : PySem.W.Frag) : TS :=
  (tSeq (tAsg (tMethP K "Catalog" "stretches" [0] 0 0 (sp_Catalog_stretches K) [] (fun _ => E0) (tVar 0) tNil tNil) (gName 2))
    (tSeq (tIfS ((tOr (tTest (tOp (rEqA K) (tVar 2) (tLst tNil))) (tOr (tTest (tOp rNotA (tOp (rIxB K) (tOp (rIxB K) (tVar 2) (tC (.int 0))) (tC (.int 0))) (tC .non))) (tTest (tOp rNotA (tOp (rIxB K) (tOp (rIxB K) (tVar 2) (tUn (rU fun i => .int (-i)) (tC (.int 1)))) (tC (.int 1))) (tC .non)))))) (tRet (tC (.bl false))) tNext)
    (tSeq (tFor (iRng1 (tCons (tCB (rLenB K) (tCons (tVar 2) tNil)) tNil)) (gName 3) (tSeq (tAsg (tOp (rIxB K) (tVar 2) (tVar 3)) (gTup K 3 (gCons (gName 4) (gCons (gName 5) (gCons (gName 6) gNil)))))
    (tSeq (tIfS ((tAnd (tTest (tOp rNotA (tVar 4) (tC .non))) (tAnd (tTest (tOp rNotA (tVar 5) (tC .non))) (tTest (tOp rGeA (tVar 4) (tVar 5)))))) (tRet (tC (.bl false))) tNext)
    (tSeq (tIfS ((tAnd (tTest (tOp rGtA (tVar 3) (tC (.int 0)))) ((tOr (tTest (tOp rIsA (tVar 4) (tC .non))) (tTest (tOp (rNeA K) (tVar 4) (tOp (rIxB K) (tOp (rIxB K) (tVar 2) (tOp rSubA (tVar 3) (tC (.int 1)))) (tC (.int 1))))))))) (tRet (tC (.bl false))) tNext)
    (tSeq (tIfS ((tAnd (tTest (tOp rGtA (tVar 3) (tC (.int 0)))) (tTest (tOp (rEqA K) (tVar 6) (tOp (rIxB K) (tOp (rIxB K) (tVar 2) (tOp rSubA (tVar 3) (tC (.int 1)))) (tC (.int 2))))))) (tRet (tC (.bl false))) tNext)
    (tFor (iSeq K (tCall (sp_law_inner K) [] E0 (tCons (tVar 4) (tCons (tVar 5) tNil)))) (gName 7) (tIfS ((tOr (tTest (tOp (rNeA K) (tVar 6) (tCall (sp_law_part K) [] E0 (tCons (tVar 1) (tCons (tVar 7) tNil))))) (tTest (tOp (rNeA K) (tVar 6) (tMethP K "Catalog" "part_of" [0, 1] 1 0 (sp_Catalog_part_of K) [] (fun _ => E0) (tVar 0) (tCons (tVar 7) tNil) tNil))))) (tRet (tC (.bl false))) tNext)))))))
    (tRet (tOp (rEqA K) (tCB (rLenB K) (tCons (tVar 2) tNil)) (tCall (sp_law_count K) [] E0 (tCons (tVar 1) tNil)))))))
theorem c_law_right {K : PySem.W.Frag} : SS K (fun _ => t_law_right K) (fun _ => m_law_right) := by
  unfold t_law_right m_law_right b_law_right_1 b_law_right_2 b_law_right_3 l_law_right_1 b_law_right_L1_1 b_law_right_L1_2 b_law_right_L1_3 b_law_right_L1_4 l_law_right_2
  exact (S_seq (S_asg (E_meth "Catalog" "stretches" [0] 0 0 f_Catalog_stretches DfL.nil (E_var 0) E_nil E_nil) (G_name 2))
    (S_seq (S_if ((E_or (E_test (E_op O_eq (E_var 2) (E_lst E_nil))) (E_or (E_test (E_op O_isnt (E_op O_ix (E_op O_ix (E_var 2) (E_int 0)) (E_int 0)) (E_non))) (E_test (E_op O_isnt (E_op O_ix (E_op O_ix (E_var 2) (E_neg (E_int 1))) (E_int 1)) (E_non)))))) (S_ret (E_bl false)) S_next)
    (S_seq (S_for (I_rng1 (E_cons (E_cb C_len (E_cons (E_var 2) E_nil)) E_nil)) (G_name 3) (S_seq (S_asg (E_op O_ix (E_var 2) (E_var 3)) (G_tup (G_cons (G_name 4) (G_cons (G_name 5) (G_cons (G_name 6) G_nil)))))
    (S_seq (S_if ((E_and (E_test (E_op O_isnt (E_var 4) (E_non))) (E_and (E_test (E_op O_isnt (E_var 5) (E_non))) (E_test (E_op O_ge (E_var 4) (E_var 5)))))) (S_ret (E_bl false)) S_next)
    (S_seq (S_if ((E_and (E_test (E_op O_gt (E_var 3) (E_int 0))) ((E_or (E_test (E_op O_is (E_var 4) (E_non))) (E_test (E_op O_ne (E_var 4) (E_op O_ix (E_op O_ix (E_var 2) (E_op O_sub (E_var 3) (E_int 1))) (E_int 1)))))))) (S_ret (E_bl false)) S_next)
    (S_seq (S_if ((E_and (E_test (E_op O_gt (E_var 3) (E_int 0))) (E_test (E_op O_eq (E_var 6) (E_op O_ix (E_op O_ix (E_var 2) (E_op O_sub (E_var 3) (E_int 1))) (E_int 2)))))) (S_ret (E_bl false)) S_next)
    (S_for (I_seq (E_call f_law_inner (E_cons (E_var 4) (E_cons (E_var 5) E_nil)))) (G_name 7) (S_if ((E_or (E_test (E_op O_ne (E_var 6) (E_call f_law_part (E_cons (E_var 1) (E_cons (E_var 7) E_nil))))) (E_test (E_op O_ne (E_var 6) (E_meth "Catalog" "part_of" [0, 1] 1 0 f_Catalog_part_of DfL.nil (E_var 0) (E_cons (E_var 7) E_nil) E_nil))))) (S_ret (E_bl false)) S_next)))))))
    (S_ret (E_op O_eq (E_cb C_len (E_cons (E_var 2) E_nil)) (E_call f_law_count (E_cons (E_var 1) E_nil)))))))
theorem len_law_right (K : PySem.W.Frag) : ∀ vs H Q E, sp_law_right K vs H Q E → vs.length = (["catalog", "model"] : List Str).length := fun _ _ _ _ h => up_len h
theorem pure_law_right (K : PySem.W.Frag) (vs : List V) (H : Hp) (Q : VK) (E : XK) (h : sp_law_right K vs H Q E) : t_law_right K { nx := fun _ H' => Q .non H', rt := Q } (start ["catalog", "model", "rows", "at", "low", "high", "part", "key"] vs) H := up_run (tw := fun _ => t_law_right K) (c_law_right) (N := ["catalog", "model", "rows", "at", "low", "high", "part", "key"]) rfl h
def b_law_L1_6 : MS :=
  (mIfS ((mOr (mNot (mB (mCall f_law_right (mCons (mVar 4) (mCons (mVar 3) mNil))))) (mB (mOp nNe (mLc (mAny (mMeth "Catalog" "stretches" [0] 0 0 f_Catalog_stretches [] (mVar 4) mNil mNil)) (hName 6) (mNot (mB (mCB nIsi (mCons (mVar 6) (mCons (mC (.ty "tuple")) mNil))))) (mVar 6) [6]) (mLst mNil))))) (mRet (mC (.bl false))) mNext)
def b_law_L1_5 : MS :=
  mSeq (mDrop (mBM "list" nAppend (mVar 5) (mCons (mTup (mCons (mC (.int 1)) (mCons (mC (.int 2)) (mCons (mC (.str "late")) mNil)))) mNil))) b_law_L1_6
def b_law_L1_4 : MS :=
  mSeq (mAsg (mMeth "Catalog" "stretches" [0] 0 0 f_Catalog_stretches [] (mVar 4) mNil mNil) (hName 5)) b_law_L1_5
def b_law_L1_3 : MS :=
  mSeq (mIfS (mNot (mB (mCall f_law_right (mCons (mVar 4) (mCons (mVar 3) mNil))))) (mRet (mC (.bl false))) mNext) b_law_L1_4
def b_law_L1_2 : MS :=
  mSeq (mAsg (mCall f_law_catalog (mCons (mVar 2) (mCons (mVar 3) mNil))) (hName 4)) b_law_L1_3
def b_law_L1_1 : MS :=
  mSeq (mAsg (mCall f_law_model (mCons (mVar 2) (mCons (mC (.int 7)) mNil))) (hName 3)) b_law_L1_2
def l_law_1 : MS :=
  mSeq (mAsg (mCall f_law_box (mCons (mCall f_law_cell (mCons (mVar 0) (mCons (mVar 1) mNil))) mNil)) (hName 2)) b_law_L1_1
def b_law_1 : MS :=
  (mRet (mC (.bl true)))
def m_law : MS :=
  mSeq (mFor (mRng1 (mCons (mCB nMax (mCons (mC (.int 2)) (mCons (mCB nMin (mCons (mC (.int 10)) (mCons (mCB nLen (mCons (mVar 0) mNil)) mNil))) mNil))) mNil)) (hName 1) l_law_1) b_law_1
def f_law : MP := dfn 7 1 (fun _ => m_law)
abbrev sp_law (K : PySem.W.Frag) : Sp := up K f_law
def t_law (K : PySem.W.Frag) : TS :=
  (tSeq (tFor (iRng1 (tCons (tCB (rMaxA K) (tCons (tC (.int 2)) (tCons (tCB (rMinA K) (tCons (tC (.int 10)) (tCons (tCB (rLenB K) (tCons (tVar 0) tNil)) tNil))) tNil))) tNil)) (gName 1) (tSeq (tAsg (tCall (sp_law_box K) [] E0 (tCons (tCall (sp_law_cell K) [] E0 (tCons (tVar 0) (tCons (tVar 1) tNil))) tNil)) (gName 2))
    (tSeq (tAsg (tCall (sp_law_model K) [] E0 (tCons (tVar 2) (tCons (tC (.int 7)) tNil))) (gName 3))
    (tSeq (tAsg (tCall (sp_law_catalog K) [] E0 (tCons (tVar 2) (tCons (tVar 3) tNil))) (gName 4))
    (tSeq (tIfS (tNot (tB (tCall (sp_law_right K) [] E0 (tCons (tVar 4) (tCons (tVar 3) tNil))))) (tRet (tC (.bl false))) tNext)
    (tSeq (tAsg (tMethP K "Catalog" "stretches" [0] 0 0 (sp_Catalog_stretches K) [] (fun _ => E0) (tVar 4) tNil tNil) (gName 5))
    (tSeq (tDrop (tBMW K "list" rAppend (tVar 5) (tCons (tTup (tCons (tC (.int 1)) (tCons (tC (.int 2)) (tCons (tC (.str "late")) tNil)))) tNil)))
    (tIfS ((tOr (tNot (tB (tCall (sp_law_right K) [] E0 (tCons (tVar 4) (tCons (tVar 3) tNil))))) (tTest (tOp (rNeA K) (tLc (iSeq K (tMethP K "Catalog" "stretches" [0] 0 0 (sp_Catalog_stretches K) [] (fun _ => E0) (tVar 4) tNil tNil)) (gName 6) (tNot (tB (tCB (rIsi K) (tCons (tVar 6) (tCons (tC (.ty "tuple")) tNil))))) (tVar 6) [6]) (tLst tNil))))) (tRet (tC (.bl false))) tNext))))))))
    (tRet (tC (.bl true))))
theorem c_law {K : PySem.W.Frag} : SS K (fun _ => t_law K) (fun _ => m_law) := by
  unfold t_law m_law b_law_1 l_law_1 b_law_L1_1 b_law_L1_2 b_law_L1_3 b_law_L1_4 b_law_L1_5 b_law_L1_6
  exact (S_seq (S_for (I_rng1 (E_cons (E_cb C_max (E_cons (E_int 2) (E_cons (E_cb C_min (E_cons (E_int 10) (E_cons (E_cb C_len (E_cons (E_var 0) E_nil)) E_nil))) E_nil))) E_nil)) (G_name 1) (S_seq (S_asg (E_call f_law_box (E_cons (E_call f_law_cell (E_cons (E_var 0) (E_cons (E_var 1) E_nil))) E_nil)) (G_name 2))
    (S_seq (S_asg (E_call f_law_model (E_cons (E_var 2) (E_cons (E_int 7) E_nil))) (G_name 3))
    (S_seq (S_asg (E_call f_law_catalog (E_cons (E_var 2) (E_cons (E_var 3) E_nil))) (G_name 4))
    (S_seq (S_if (E_not (E_B (E_call f_law_right (E_cons (E_var 4) (E_cons (E_var 3) E_nil))))) (S_ret (E_bl false)) S_next)
    (S_seq (S_asg (E_meth "Catalog" "stretches" [0] 0 0 f_Catalog_stretches DfL.nil (E_var 4) E_nil E_nil) (G_name 5))
    (S_seq (S_drop (E_bm M_append (E_var 5) (E_cons (E_tup (E_cons (E_int 1) (E_cons (E_int 2) (E_cons (E_str (by decide)) E_nil)))) E_nil)))
    (S_if ((E_or (E_not (E_B (E_call f_law_right (E_cons (E_var 4) (E_cons (E_var 3) E_nil))))) (E_test (E_op O_ne (E_lc (I_seq (E_meth "Catalog" "stretches" [0] 0 0 f_Catalog_stretches DfL.nil (E_var 4) E_nil E_nil)) (V_name 6 (by decide)) (E_not (E_B (E_cb C_isi (E_cons (E_var 6) (E_cons (E_ty _) E_nil))))) (E_var 6)) (E_lst E_nil))))) (S_ret (E_bl false)) S_next))))))))
    (S_ret (E_bl true)))
theorem len_law (K : PySem.W.Frag) : ∀ vs H Q E, sp_law K vs H Q E → vs.length = (["script"] : List Str).length := fun _ _ _ _ h => up_len h
theorem pure_law (K : PySem.W.Frag) (vs : List V) (H : Hp) (Q : VK) (E : XK) (h : sp_law K vs H Q E) : t_law K { nx := fun _ H' => Q .non H', rt := Q } (start ["script", "k", "box", "model", "catalog", "told", "row"] vs) H := up_run (tw := fun _ => t_law K) (c_law) (N := ["script", "k", "box", "model", "catalog", "told", "row"]) rfl h
theorem fl_Catalog_own_spans (a0 a1 : Da) : List.lookup ("own_spans" : Str) ([("own_spans", a0), ("own_rest", a1)] : List (Str × Da)) = some a0 := by rfl
theorem pf_Catalog_own_spans ( d : Da) : putFD ("own_spans" : Str) d ([] : List (Str × Da)) = ([("own_spans", d)] : List (Str × Da)) := by rfl
theorem fl_Catalog_own_rest (a0 a1 : Da) : List.lookup ("own_rest" : Str) ([("own_spans", a0), ("own_rest", a1)] : List (Str × Da)) = some a1 := by rfl
theorem pf_Catalog_own_rest (a0 d : Da) : putFD ("own_rest" : Str) d ([("own_spans", a0)] : List (Str × Da)) = ([("own_spans", a0), ("own_rest", d)] : List (Str × Da)) := by rfl
theorem fn_Catalog_init (a0 a1 : Da) : List.lookup ("__init__" : Str) ([("own_spans", a0), ("own_rest", a1)] : List (Str × Da)) = none := by rfl
theorem fn_Catalog_names (a0 a1 : Da) : List.lookup ("names" : Str) ([("own_spans", a0), ("own_rest", a1)] : List (Str × Da)) = none := by rfl
theorem fn_Catalog_span (a0 a1 : Da) : List.lookup ("span" : Str) ([("own_spans", a0), ("own_rest", a1)] : List (Str × Da)) = none := by rfl
theorem fn_Catalog_part_of (a0 a1 : Da) : List.lookup ("part_of" : Str) ([("own_spans", a0), ("own_rest", a1)] : List (Str × Da)) = none := by rfl
theorem fn_Catalog_in_order (a0 a1 : Da) : List.lookup ("in_order" : Str) ([("own_spans", a0), ("own_rest", a1)] : List (Str × Da)) = none := by rfl
theorem fn_Catalog_stretches (a0 a1 : Da) : List.lookup ("stretches" : Str) ([("own_spans", a0), ("own_rest", a1)] : List (Str × Da)) = none := by rfl
theorem fn_Catalog_with_part (a0 a1 : Da) : List.lookup ("with_part" : Str) ([("own_spans", a0), ("own_rest", a1)] : List (Str × Da)) = none := by rfl
theorem fn_Catalog_without_part (a0 a1 : Da) : List.lookup ("without_part" : Str) ([("own_spans", a0), ("own_rest", a1)] : List (Str × Da)) = none := by rfl
theorem fn_Catalog_with_rest (a0 a1 : Da) : List.lookup ("with_rest" : Str) ([("own_spans", a0), ("own_rest", a1)] : List (Str × Da)) = none := by rfl
theorem fn_Catalog_contains (a0 a1 : Da) : List.lookup ("__contains__" : Str) ([("own_spans", a0), ("own_rest", a1)] : List (Str × Da)) = none := by rfl
theorem fn_Catalog_len (a0 a1 : Da) : List.lookup ("__len__" : Str) ([("own_spans", a0), ("own_rest", a1)] : List (Str × Da)) = none := by rfl
theorem fn_Catalog_eq (a0 a1 : Da) : List.lookup ("__eq__" : Str) ([("own_spans", a0), ("own_rest", a1)] : List (Str × Da)) = none := by rfl
theorem fn_Catalog_str (a0 a1 : Da) : List.lookup ("__str__" : Str) ([("own_spans", a0), ("own_rest", a1)] : List (Str × Da)) = none := by rfl

end Z

/-! k07, the plain law: rows in ascending order, their stretches (no program in sight) -/
namespace Z
open PySem PySem.Spec PyProof.Rows L2 Evl
namespace Ct
abbrev Lim := Option Int
abbrev Row := Str × Lim × Lim
abbrev Stg := Lim × Lim × Option Str
def hasB (s : Lim × Lim) (k : Int) : Bool := (match s.1 with | none => true | some l => decide (l ≤ k)) && (match s.2 with | none => true | some h => decide (k < h))
def ltL (lo hi : Lim) : Prop := ∀ l h, lo = some l → hi = some h → l < h
/-- behind a span that ends at a -/
def AscA : Lim → List Row → Prop
  | _, [] => True
  | a, (_, lo, hi) :: r => (∃ h l, a = some h ∧ lo = some l ∧ h ≤ l) ∧ ltL lo hi ∧ AscA hi r
def AscF : List Row → Prop
  | [] => True
  | (_, lo, hi) :: r => ltL lo hi ∧ AscA hi r
def partL (rest : Option Str) : List Row → Int → Option Str
  | [], _ => rest
  | (z, s) :: r, k => if hasB s k = true then some z else partL rest r k
/-- the stretches, as the program tells them -/
def stc (rest : Option Str) : Bool → Lim → List Row → List Stg
  | b, low, [] => if b = false ∨ low ≠ none then [(low, none, rest)] else []
  | b, low, (z, f, l) :: r => (if f ≠ none ∧ (b = false ∨ f ≠ low) then [(low, f, rest)] else []) ++ (f, l, some z) :: stc rest true l r
def Good (part : Int → Option Str) : Lim → List Stg → Prop
  | _, [] => False
  | low, (a, b, p) :: r => a = low ∧ (∀ k, hasB (a, b) k = true → part k = p) ∧ ltL a b ∧ match r with
    | [] => b = none
    | (a2, b2, p2) :: r2 => b ≠ none ∧ p ≠ p2 ∧ Good part b ((a2, b2, p2) :: r2)
theorem Good.congr {p q : Int → Option Str} : ∀ {S : List Stg} {low : Lim}, (∀ k, (∀ l, low = some l → l ≤ k) → p k = q k) → Good p low S → Good q low S
  | [], _, _, h => h
  | [(a, b, x)], low, e, h => by
    obtain ⟨h1, h2, h3, h4⟩ := h
    subst h1
    exact ⟨rfl, fun k hk => by
      rw [← e k ?_]
      · exact h2 k hk
      · rintro l rfl
        unfold hasB at hk
        simp only [Bool.and_eq_true, decide_eq_true_eq] at hk
        exact hk.1, h3, h4⟩
  | (a, b, x) :: (a2, b2, x2) :: r, low, e, h => by
    obtain ⟨h1, h2, h3, h4, h5, h6⟩ := h
    subst h1
    refine ⟨rfl, fun k hk => ?_, h3, h4, h5, Good.congr (fun k hk => e k ?_) h6⟩
    · rw [← e k ?_]
      · exact h2 k hk
      · rintro l rfl
        unfold hasB at hk
        simp only [Bool.and_eq_true, decide_eq_true_eq] at hk
        exact hk.1
    · rintro l rfl
      cases b with
      | none => exact absurd rfl h4
      | some h =>
        have := h3 l h rfl rfl
        have := hk h rfl
        omega
theorem Good.ne {p : Int → Option Str} {low : Lim} (h : Good p low []) : False := h
/-- the head of what stands behind a span -/
theorem stc_head {rest : Option Str} {h : Int} : ∀ {r : List Row}, ∃ a b p S, stc rest true (some h) r = (a, b, p) :: S ∧ (p = rest ∨ ∃ x ∈ r, p = some x.1)
  | [] => ⟨some h, none, rest, [], by unfold stc; simp, .inl rfl⟩
  | (z, f, l) :: r => by
    unfold stc
    by_cases c : f ≠ none ∧ (true = false ∨ f ≠ some h)
    · rw [if_pos c]
      exact ⟨_, _, _, _, rfl, .inl rfl⟩
    · rw [if_neg c]
      exact ⟨_, _, _, _, rfl, .inr ⟨_, List.mem_cons_self .., rfl⟩⟩
theorem part_low {rest : Option Str} {h k : Int} (lk : k < h) : ∀ {r : List Row} {a : Lim}, AscA a r → (∀ x, a = some x → h ≤ x) → partL rest r k = rest
  | [], _, _, _ => rfl
  | (z, lo, hi) :: r, a, A, ha => by
    obtain ⟨⟨x, l, rfl, rfl, hl⟩, lt, A2⟩ := A
    have := ha x rfl
    unfold partL
    rw [if_neg (by
      unfold hasB
      simp only [Bool.and_eq_true, decide_eq_true_eq]
      omega)]
    refine part_low lk A2 ?_
    rintro y rfl
    have := lt l y rfl rfl
    omega
/-- the stretches behind a span -/
theorem good_A {rest : Option Str} : ∀ {r : List Row} {h : Int}, AscA (some h) r → (r.map (·.1)).Nodup → (∀ x ∈ r, rest ≠ some x.1) → Good (partL rest r) (some h) (stc rest true (some h) r)
  | [], h, _, _, _ => by
    unfold stc
    simp only [if_true, ne_eq, reduceCtorEq, not_false_eq_true, or_true]
    exact ⟨rfl, fun k _ => rfl, (fun l h _ e => by cases e), rfl⟩
  | (z, lo, hi) :: r, h, A, nd, hr => by
    obtain ⟨⟨x, l, e1, rfl, hl⟩, lt, A2⟩ := A
    cases e1
    rw [List.map_cons, List.nodup_cons] at nd
    have hz : rest ≠ some z := hr _ (List.mem_cons_self ..)
    have body : Good (partL rest ((z, some l, hi) :: r)) (some l) ((some l, hi, some z) :: stc rest true hi r) := by
      have inZ : ∀ k, hasB (some l, hi) k = true → partL rest ((z, some l, hi) :: r) k = some z := fun k hk => by
        unfold partL
        rw [if_pos hk]
      cases hi with
      | none =>
        cases r with
        | nil => exact ⟨rfl, inZ, lt, rfl⟩
        | cons y r =>
          obtain ⟨z2, lo2, hi2⟩ := y
          obtain ⟨⟨_, _, e, _⟩, _⟩ := A2
          cases e
      | some g =>
        have ih := good_A A2 nd.2 fun x hx => hr x (List.mem_cons_of_mem _ hx)
        have ih2 : Good (partL rest ((z, some l, some g) :: r)) (some g) (stc rest true (some g) r) := ih.congr fun k hk => by
          have := hk g rfl
          conv => rhs; unfold partL
          rw [if_neg (by
            unfold hasB
            simp only [Bool.and_eq_true, decide_eq_true_eq]
            omega)]
        obtain ⟨a, b, p, S, e, hp⟩ := stc_head (rest := rest) (h := g) (r := r)
        rw [e] at ih2 ⊢
        refine ⟨rfl, inZ, lt, by simp, ?_, ih2⟩
        rcases hp with rfl | ⟨y, hy, rfl⟩
        · exact fun q => hz q.symm
        · intro q
          exact nd.1 (List.mem_map.2 ⟨y, hy, (Option.some.inj q).symm⟩)
    unfold stc
    by_cases c : (some l : Lim) ≠ none ∧ (true = false ∨ (some l : Lim) ≠ some h)
    · rw [if_pos c]
      have ne : l ≠ h := fun q => by
        rcases c.2 with c | c
        · cases c
        · exact c (by rw [q])
      refine ⟨rfl, fun k hk => ?_, (fun a b e1 e2 => by cases e1; cases e2; omega), by simp, hz, body⟩
      unfold hasB at hk
      simp only [Bool.and_eq_true, decide_eq_true_eq] at hk
      exact part_low hk.2 (a := some l) (r := (z, some l, hi) :: r) ⟨⟨l, l, rfl, rfl, Int.le_refl _⟩, lt, A2⟩ fun x e => by cases e; exact Int.le_refl _
    · rw [if_neg c]
      have e : l = h := Classical.byContradiction fun q => c ⟨by simp, .inr fun z => q (Option.some.inj z)⟩
      subst e
      exact body
theorem good_F {rest : Option Str} {rs : List Row} (A : AscF rs) (nd : (rs.map (·.1)).Nodup) (hr : ∀ x ∈ rs, rest ≠ some x.1) : Good (partL rest rs) none (stc rest false none rs) := by
  cases rs with
  | nil =>
    unfold stc
    simp only [true_or, if_true]
    exact ⟨rfl, fun k _ => rfl, (fun l h e _ => by cases e), rfl⟩
  | cons y r =>
    obtain ⟨z, lo, hi⟩ := y
    obtain ⟨lt, A2⟩ := A
    rw [List.map_cons, List.nodup_cons] at nd
    have hz : rest ≠ some z := hr _ (List.mem_cons_self ..)
    have body : Good (partL rest ((z, lo, hi) :: r)) lo ((lo, hi, some z) :: stc rest true hi r) := by
      have inZ : ∀ k, hasB (lo, hi) k = true → partL rest ((z, lo, hi) :: r) k = some z := fun k hk => by
        unfold partL
        rw [if_pos hk]
      cases hi with
      | none =>
        cases r with
        | nil => exact ⟨rfl, inZ, lt, rfl⟩
        | cons y r =>
          obtain ⟨z2, lo2, hi2⟩ := y
          obtain ⟨⟨_, _, e, _⟩, _⟩ := A2
          cases e
      | some g =>
        have ih := good_A A2 nd.2 fun x hx => hr x (List.mem_cons_of_mem _ hx)
        have ih2 : Good (partL rest ((z, lo, some g) :: r)) (some g) (stc rest true (some g) r) := ih.congr fun k hk => by
          have := hk g rfl
          conv => rhs; unfold partL
          rw [if_neg (by
            unfold hasB
            simp only [Bool.and_eq_true, decide_eq_true_eq]
            omega)]
        obtain ⟨a, b, p, S, e, hp⟩ := stc_head (rest := rest) (h := g) (r := r)
        rw [e] at ih2 ⊢
        refine ⟨rfl, inZ, lt, by simp, ?_, ih2⟩
        rcases hp with rfl | ⟨y, hy, rfl⟩
        · exact fun q => hz q.symm
        · intro q
          exact nd.1 (List.mem_map.2 ⟨y, hy, (Option.some.inj q).symm⟩)
    unfold stc
    cases lo with
    | none =>
      rw [if_neg (by simp)]
      exact body
    | some l =>
      rw [if_pos (by simp)]
      refine ⟨rfl, fun k hk => ?_, (fun a b e1 _ => by cases e1), by simp, hz, body⟩
      unfold hasB at hk
      simp only [Bool.and_eq_true, decide_eq_true_eq] at hk
      exact part_low hk.2 (a := some l) (r := (z, some l, hi) :: r) ⟨⟨l, l, rfl, rfl, Int.le_refl _⟩, lt, A2⟩ fun x e => by cases e; exact Int.le_refl _
end Ct
end Z

/-! k07, the plain law: limits, order, parts -/
namespace Z
open PySem PySem.Spec PyProof.Rows L2 Evl
namespace Ct
def bnd : List Stg → List Int
  | (_, some h, _) :: y :: r => h :: bnd (y :: r)
  | _ => []
theorem Good.hd {part : Int → Option Str} {low a b : Lim} {p : Option Str} {r : List Stg} (h : Good part low ((a, b, p) :: r)) : a = low ∧ (∀ k, hasB (a, b) k = true → part k = p) ∧ ltL a b := by
  unfold Good at h
  exact ⟨h.1, h.2.1, h.2.2.1⟩
theorem good_bnd {part : Int → Option Str} : ∀ {S : List Stg} {low : Lim}, Good part low S → S.length = 1 + (bnd S).length ∧ ∀ L ∈ bnd S, part (L - 1) ≠ part L
  | [], _, h => h.elim
  | [(a, b, p)], _, h => by
    obtain ⟨_, _, _, rfl⟩ := h
    exact ⟨rfl, fun L hL => by cases hL⟩
  | (a, b, p) :: (a2, b2, p2) :: r, low, h => by
    obtain ⟨rfl, h2, h3, h4, h5, h6⟩ := h
    cases b with
    | none => exact absurd rfl h4
    | some g =>
      have ih := good_bnd h6
      have g6 := h6
      have hb : bnd ((a, some g, p) :: (a2, b2, p2) :: r) = g :: bnd ((a2, b2, p2) :: r) := rfl
      rw [hb]
      refine ⟨?_, fun L hL => ?_⟩
      · rw [List.length_cons, ih.1, List.length_cons]
        omega
      · rcases List.mem_cons.1 hL with rfl | hL
        · obtain ⟨e2, k2, l2⟩ := g6.hd
          have x1 : part (L - 1) = p := h2 _ (by
            unfold hasB
            simp only [Bool.and_eq_true, decide_eq_true_eq]
            refine ⟨?_, by omega⟩
            cases a with
            | none => rfl
            | some l =>
              have := h3 l L rfl rfl
              simp only [decide_eq_true_eq]
              omega)
          have x2 : part L = p2 := k2 _ (by
            subst e2
            unfold hasB
            simp only [Bool.and_eq_true, decide_eq_true_eq]
            refine ⟨Int.le_refl _, ?_⟩
            cases b2 with
            | none => rfl
            | some l =>
              have := l2 L l rfl rfl
              simp only [decide_eq_true_eq]
              omega)
          rw [x1, x2]
          exact h5
        · exact ih.2 L hL
/-- the limits as the law gathers them -/
def limS (acc : List Int) (lo hi : Lim) : List Int := acc ++ ([lo, hi].filterMap id).filter fun x => !decide (x ∈ acc)
def lims (acc : List Int) (rs : List Row) : List Int := rs.foldl (fun acc r => limS acc r.2.1 r.2.2) acc
theorem limS_none {acc : List Int} {lo : Lim} : limS acc lo none = acc ++ ([lo].filterMap id).filter fun x => !decide (x ∈ acc) := by
  unfold limS
  cases lo <;> rfl
theorem lims_A {rest : Option Str} : ∀ {r : List Row} {h : Int} {acc : List Int}, (∀ x ∈ acc, x ≤ h) → h ∈ acc → AscA (some h) r → lims acc r = acc ++ bnd (stc rest true (some h) r)
  | [], h, acc, _, _, _ => by
    unfold stc lims
    simp [bnd]
  | (z, lo, hi) :: r, h, acc, h1, h2, A => by
    obtain ⟨⟨x, l, e1, rfl, hl⟩, lt, A2⟩ := A
    cases e1
    have step : lims acc ((z, some l, hi) :: r) = lims (limS acc (some l) hi) r := rfl
    rw [step]
    have noth : ∀ y, h < y → ¬ y ∈ acc := fun y hy m => by
      have := h1 y m
      omega
    by_cases e : l = h
    · subst e
      have es : stc rest true (some l) ((z, some l, hi) :: r) = (some l, hi, some z) :: stc rest true hi r := by
        conv => lhs; unfold stc
        rw [if_neg (by simp)]
        rfl
      rw [es]
      cases hi with
      | none =>
        cases r with
        | nil =>
          rw [limS_none]
          simp [lims, h2, bnd, stc]
        | cons y r =>
          obtain ⟨z2, lo2, hi2⟩ := y
          obtain ⟨⟨_, _, e, _⟩, _⟩ := A2
          cases e
      | some g =>
        have lg := lt l g rfl rfl
        have el : limS acc (some l) (some g) = acc ++ [g] := by
          unfold limS
          simp [h2, noth g lg]
        rw [el, lims_A (rest := rest) (h := g) (fun x hx => ?_) (by simp) A2]
        · obtain ⟨a, b, p, S, e, _⟩ := stc_head (rest := rest) (h := g) (r := r)
          rw [e, List.append_assoc]
          rfl
        · rcases List.mem_append.1 hx with hx | hx
          · have := h1 x hx
            omega
          · rw [List.mem_singleton.1 hx]
            exact Int.le_refl _
    · have lh : h < l := by omega
      have es : stc rest true (some h) ((z, some l, hi) :: r) = (some h, some l, rest) :: (some l, hi, some z) :: stc rest true hi r := by
        conv => lhs; unfold stc
        rw [if_pos (by simp; exact e)]
        rfl
      rw [es]
      have hb : bnd ((some h, some l, rest) :: (some l, hi, some z) :: stc rest true hi r) = l :: bnd ((some l, hi, some z) :: stc rest true hi r) := rfl
      rw [hb]
      cases hi with
      | none =>
        cases r with
        | nil =>
          rw [limS_none]
          simp [lims, noth l lh, bnd, stc]
        | cons y r =>
          obtain ⟨z2, lo2, hi2⟩ := y
          obtain ⟨⟨_, _, e, _⟩, _⟩ := A2
          cases e
      | some g =>
        have lg := lt l g rfl rfl
        have el : limS acc (some l) (some g) = acc ++ [l, g] := by
          unfold limS
          simp [noth l lh, noth g (by omega)]
        rw [el, lims_A (rest := rest) (h := g) (fun x hx => ?_) (by simp) A2]
        · obtain ⟨a, b, p, S, e, _⟩ := stc_head (rest := rest) (h := g) (r := r)
          rw [e, List.append_assoc]
          rfl
        · rcases List.mem_append.1 hx with hx | hx
          · have := h1 x hx
            omega
          · simp only [List.mem_cons, List.not_mem_nil, or_false] at hx
            rcases hx with rfl | rfl <;> omega
theorem lims_F {rest : Option Str} {rs : List Row} (A : AscF rs) : lims [] rs = bnd (stc rest false none rs) := by
  cases rs with
  | nil => rfl
  | cons y r =>
    obtain ⟨z, lo, hi⟩ := y
    obtain ⟨lt, A2⟩ := A
    have step : lims [] ((z, lo, hi) :: r) = lims (limS [] lo hi) r := rfl
    rw [step]
    have tail : ∀ {acc : List Int} {a : Lim} {p : Option Str}, (∀ g, hi = some g → (∀ x ∈ acc, x ≤ g) ∧ g ∈ acc) → lims acc r = acc ++ (match hi with | none => [] | some _ => bnd (stc rest true hi r)) := by
      intro acc a p h
      cases hi with
      | none =>
        cases r with
        | nil => simp [lims]
        | cons y r =>
          obtain ⟨z2, lo2, hi2⟩ := y
          obtain ⟨⟨_, _, e, _⟩, _⟩ := A2
          cases e
      | some g => exact lims_A (h g rfl).1 (h g rfl).2 A2
    have one : bnd ((lo, hi, some z) :: stc rest true hi r) = match hi with | none => [] | some g => g :: bnd (stc rest true hi r) := by
      cases hi with
      | none =>
        cases r with
        | nil => rfl
        | cons y r =>
          obtain ⟨z2, lo2, hi2⟩ := y
          obtain ⟨⟨_, _, e, _⟩, _⟩ := A2
          cases e
      | some g =>
        obtain ⟨a, b, p, S, e, _⟩ := stc_head (rest := rest) (h := g) (r := r)
        rw [e]
        rfl
    cases lo with
    | none =>
      have es : stc rest false none ((z, none, hi) :: r) = (none, hi, some z) :: stc rest true hi r := by
        conv => lhs; unfold stc
        rw [if_neg (by simp)]
        rfl
      rw [es, one]
      cases hi with
      | none => exact tail (a := none) (p := none) (fun g e => by cases e)
      | some g => exact tail (acc := [g]) (a := none) (p := none) (fun x e => by cases e; simp)
    | some l =>
      have es : stc rest false none ((z, some l, hi) :: r) = (none, some l, rest) :: (some l, hi, some z) :: stc rest true hi r := by
        conv => lhs; unfold stc
        rw [if_pos (by simp)]
        rfl
      rw [es]
      have hb : bnd ((none, some l, rest) :: (some l, hi, some z) :: stc rest true hi r) = l :: bnd ((some l, hi, some z) :: stc rest true hi r) := rfl
      rw [hb, one]
      cases hi with
      | none => exact tail (acc := [l]) (a := none) (p := none) (fun g e => by cases e)
      | some g =>
        have lg := lt l g rfl rfl
        exact tail (acc := [l, g]) (a := none) (p := none) (fun x e => by
          cases e
          refine ⟨fun y hy => ?_, by simp⟩
          simp only [List.mem_cons, List.not_mem_nil, or_false] at hy
          rcases hy with rfl | rfl <;> omega)
end Ct
end Z

/-! k07, the plain law: the order of the spans, parts of keys in any order of the rows -/
namespace Z
open PySem PySem.Spec PyProof.Rows L2 Evl
namespace Ct
def befL : Lim → Lim → Bool
  | none, some _ => true
  | some a, some b => decide (a < b)
  | _, none => false
def befR (a b : Row) : Bool := befL a.2.1 b.2.1
def insR (f : List Row) (x : Row) : List Row := f.take (f.filter fun y => befR y x).length ++ [x] ++ f.drop (f.filter fun y => befR y x).length
theorem befL_asymm : ∀ {a b : Lim}, befL a b = true → befL b a = false
  | none, some _, _ => rfl
  | some a, some b, h => by
    have : a < b := of_decide_eq_true h
    exact decide_eq_false (by omega)
theorem befL_trans : ∀ {a b c : Lim}, befL a b = true → befL b c = true → befL a c = true
  | none, some _, some _, _, _ => rfl
  | some a, some b, some c, h1, h2 => by
    have h1 : a < b := of_decide_eq_true h1
    have h2 : b < c := of_decide_eq_true h2
    exact decide_eq_true (by omega)
abbrev Srt (l : List Row) : Prop := l.Pairwise fun a b => befR a b = true
theorem srt_A : ∀ {r : List Row} {h : Int}, AscA (some h) r → Srt r ∧ ∀ x ∈ r, ∃ l, x.2.1 = some l ∧ h ≤ l
  | [], _, _ => ⟨.nil, fun x hx => by cases hx⟩
  | (z, lo, hi) :: r, h, A => by
    obtain ⟨⟨x, l, e1, rfl, hl⟩, lt, A2⟩ := A
    cases e1
    cases hi with
    | none =>
      cases r with
      | nil => exact ⟨.cons (fun y hy => by cases hy) .nil, fun x hx => by rw [List.mem_singleton.1 hx]; exact ⟨l, rfl, hl⟩⟩
      | cons y r =>
        obtain ⟨z2, lo2, hi2⟩ := y
        obtain ⟨⟨_, _, e, _⟩, _⟩ := A2
        cases e
    | some g =>
      obtain ⟨s, m⟩ := srt_A A2
      have lg := lt l g rfl rfl
      refine ⟨.cons (fun y hy => ?_) s, fun x hx => ?_⟩
      · obtain ⟨k, e, hk⟩ := m y hy
        show befL (some l) y.2.1 = true
        rw [e]
        exact decide_eq_true (by omega)
      · rcases List.mem_cons.1 hx with rfl | hx
        · exact ⟨l, rfl, hl⟩
        · obtain ⟨k, e, hk⟩ := m x hx
          exact ⟨k, e, by omega⟩
theorem srt_F {rs : List Row} (A : AscF rs) : Srt rs := by
  cases rs with
  | nil => exact .nil
  | cons y r =>
    obtain ⟨z, lo, hi⟩ := y
    obtain ⟨lt, A2⟩ := A
    cases hi with
    | none =>
      cases r with
      | nil => exact .cons (fun y hy => by cases hy) .nil
      | cons y r =>
        obtain ⟨z2, lo2, hi2⟩ := y
        obtain ⟨⟨_, _, e, _⟩, _⟩ := A2
        cases e
    | some g =>
      obtain ⟨s, m⟩ := srt_A A2
      refine .cons (fun y hy => ?_) s
      obtain ⟨k, e, hk⟩ := m y hy
      show befL lo y.2.1 = true
      rw [e]
      cases lo with
      | none => rfl
      | some l =>
        have lg := lt l g rfl rfl
        exact decide_eq_true (by omega)
theorem ins_cons_t {f : List Row} {x y : Row} (h : befR y x = true) : insR (y :: f) x = y :: insR f x := by
  unfold insR
  rw [List.filter_cons, if_pos h, List.length_cons, List.take_succ_cons, List.drop_succ_cons]
  rfl
theorem ins_none {f : List Row} {x : Row} (h : ∀ y ∈ f, befR y x = false) : insR f x = x :: f := by
  have e : (f.filter fun y => befR y x) = [] := List.filter_eq_nil_iff.2 fun y hy => by rw [h y hy]; simp
  unfold insR
  rw [e]
  rfl
theorem ins_srt {x : Row} : ∀ {f : List Row}, Srt f → (∀ y ∈ f, befR y x = true ∨ befR x y = true) → Srt (insR f x) ∧ (insR f x).Perm (x :: f)
  | [], _, _ => ⟨.cons (fun y hy => by cases hy) .nil, .refl _⟩
  | y :: f, s, h => by
    cases s with
    | cons sy sf =>
      rcases h y (List.mem_cons_self ..) with hy | hy
      · rw [ins_cons_t hy]
        obtain ⟨i1, i2⟩ := ins_srt sf fun z hz => h z (List.mem_cons_of_mem _ hz)
        refine ⟨.cons (fun z hz => ?_) i1, (i2.cons y).trans (List.Perm.swap x y f)⟩
        rcases List.mem_cons.1 (i2.mem_iff.1 hz) with rfl | hz
        · exact hy
        · exact sy z hz
      · have all : ∀ z ∈ y :: f, befR x z = true := fun z hz => by
          rcases List.mem_cons.1 hz with rfl | hz
          · exact hy
          · exact befL_trans hy (sy z hz)
        rw [ins_none fun z hz => befL_asymm (all z hz)]
        exact ⟨.cons all (.cons sy sf), .refl _⟩
theorem srt_eq : ∀ {a b : List Row}, Srt a → Srt b → a.Perm b → a = b
  | [], b, _, _, p => (List.Perm.nil_eq p)
  | x :: a, [], _, _, p => by have := p.length_eq; simp at this
  | x :: a, y :: b, sa, sb, p => by
    cases sa with
    | cons ha sa =>
      cases sb with
      | cons hb sb =>
        have e : x = y := by
          rcases List.mem_cons.1 (p.mem_iff.1 (List.mem_cons_self ..)) with e | hx
          · exact e
          · rcases List.mem_cons.1 (p.mem_iff.2 (List.mem_cons_self ..)) with e | hy
            · exact e.symm
            · have h1 := hb x hx
              have h2 := ha y hy
              have := befL_asymm h1
              have h2 : befL x.2.1 y.2.1 = true := h2
              rw [this] at h2
              cases h2
        subst e
        rw [srt_eq sa sb (List.Perm.cons_inv p)]
theorem pair_of {rs : List Row} (s : Srt rs) {x y : Row} (hx : x ∈ rs) (hy : y ∈ rs) (n : x ≠ y) : befR x y = true ∨ befR y x = true := by
  induction rs with
  | nil => cases hx
  | cons a r ih =>
    cases s with
    | cons ha sr =>
      rcases List.mem_cons.1 hx with rfl | hx'
      · rcases List.mem_cons.1 hy with rfl | hy'
        · exact absurd rfl n
        · exact .inl (ha y hy')
      · rcases List.mem_cons.1 hy with rfl | hy'
        · exact .inr (ha x hx')
        · exact ih sr hx' hy'
/-- the rows put in one by one, in any order, stand in ascending order -/
theorem ins_all {rs : List Row} (s : Srt rs) (nd : rs.Nodup) {qs : List Row} (p : qs.Perm rs) : qs.foldl insR [] = rs := by
  have ndq : qs.Nodup := p.nodup_iff.2 nd
  have go : ∀ (l f : List Row), (f ++ l).Nodup → (∀ x ∈ f ++ l, x ∈ rs) → Srt f → Srt (l.foldl insR f) ∧ (l.foldl insR f).Perm (f ++ l) := by
    intro l
    induction l with
    | nil => intro f _ _ sf; rw [List.append_nil]; exact ⟨sf, .refl _⟩
    | cons x l ih =>
      intro f nf hf sf
      have hx : x ∈ rs := hf x (by simp)
      have nx : x ∉ f := fun q => by
        have := (List.nodup_append.1 nf).2.2 x q x (by simp)
        exact this rfl
      obtain ⟨i1, i2⟩ := ins_srt (x := x) sf fun y hy => pair_of s (hf y (List.mem_append_left _ hy)) hx fun e => nx (by rw [← e]; exact hy)
      have pm : (insR f x ++ l).Perm (f ++ x :: l) := (i2.append_right l).trans (by
        rw [List.cons_append]
        exact List.perm_middle.symm)
      obtain ⟨j1, j2⟩ := ih (insR f x) (pm.nodup_iff.2 nf) (fun y hy => hf y (pm.mem_iff.1 hy)) i1
      exact ⟨j1, j2.trans pm⟩
  obtain ⟨h1, h2⟩ := go qs [] (by simpa using ndq) (fun x hx => p.mem_iff.1 (by simpa using hx)) .nil
  exact srt_eq h1 s (h2.trans (by simpa using p))
/-- no key in two rows -/
theorem one_row {rs : List Row} (A : AscF rs) {x y : Row} (hx : x ∈ rs) (hy : y ∈ rs) {k : Int} (kx : hasB x.2 k = true) (ky : hasB y.2 k = true) : x = y := by
  have up : ∀ {r : List Row} {h : Int}, AscA (some h) r → ∀ y ∈ r, hasB y.2 k = true → h ≤ k := by
    intro r h A y hy ky
    obtain ⟨l, e, hl⟩ := (srt_A A).2 y hy
    unfold hasB at ky
    rw [e] at ky
    simp only [Bool.and_eq_true, decide_eq_true_eq] at ky
    omega
  have lowK : ∀ {lo : Lim} {g : Int}, hasB (lo, some g) k = true → k < g := by
    intro lo g h
    unfold hasB at h
    simp only [Bool.and_eq_true, decide_eq_true_eq] at h
    exact h.2
  have goA : ∀ {r : List Row} {h : Int}, AscA (some h) r → ∀ x ∈ r, ∀ y ∈ r, hasB x.2 k = true → hasB y.2 k = true → x = y := by
    intro r
    induction r with
    | nil => intro h _ x hx; cases hx
    | cons a r ih =>
      intro h A x hx y hy kx ky
      obtain ⟨z, lo, hi⟩ := a
      obtain ⟨⟨_, l, e1, rfl, hl⟩, lt, A2⟩ := A
      have other : ∀ w ∈ r, hasB w.2 k = true → hasB (some l, hi) k = true → False := by
        intro w hw kw ka
        cases hi with
        | none =>
          cases r with
          | nil => cases hw
          | cons y r =>
            obtain ⟨z2, lo2, hi2⟩ := y
            obtain ⟨⟨_, _, e, _⟩, _⟩ := A2
            cases e
        | some g =>
          have := up A2 w hw kw
          have := lowK ka
          omega
      rcases List.mem_cons.1 hx with rfl | hx'
      · rcases List.mem_cons.1 hy with rfl | hy'
        · rfl
        · exact (other y hy' ky kx).elim
      · rcases List.mem_cons.1 hy with rfl | hy'
        · exact (other x hx' kx ky).elim
        · cases hi with
          | none =>
            cases r with
            | nil => exact (List.not_mem_nil hx').elim
            | cons y r =>
              obtain ⟨z2, lo2, hi2⟩ := y
              obtain ⟨⟨_, _, e, _⟩, _⟩ := A2
              cases e
          | some g => exact ih A2 x hx' y hy' kx ky
  cases rs with
  | nil => cases hx
  | cons a r =>
    obtain ⟨z, lo, hi⟩ := a
    obtain ⟨lt, A2⟩ := A
    have other : ∀ w ∈ r, hasB w.2 k = true → hasB (lo, hi) k = true → False := by
      intro w hw kw ka
      cases hi with
      | none =>
        cases r with
        | nil => cases hw
        | cons y r =>
          obtain ⟨z2, lo2, hi2⟩ := y
          obtain ⟨⟨_, _, e, _⟩, _⟩ := A2
          cases e
      | some g =>
        have := up A2 w hw kw
        have := lowK ka
        omega
    rcases List.mem_cons.1 hx with rfl | hx'
    · rcases List.mem_cons.1 hy with rfl | hy'
      · rfl
      · exact (other y hy' ky kx).elim
    · rcases List.mem_cons.1 hy with rfl | hy'
      · exact (other x hx' kx ky).elim
      · cases hi with
        | none =>
          cases r with
          | nil => exact (List.not_mem_nil hx').elim
          | cons y r =>
            obtain ⟨z2, lo2, hi2⟩ := y
            obtain ⟨⟨_, _, e, _⟩, _⟩ := A2
            cases e
        | some g => exact goA A2 x hx' y hy' kx ky
theorem partL_hit {rest : Option Str} {k : Int} : ∀ {rs : List Row} {x : Row}, x ∈ rs → hasB x.2 k = true → (∀ y ∈ rs, hasB y.2 k = true → y = x) → partL rest rs k = some x.1
  | [], _, h, _, _ => by cases h
  | (z, s) :: r, x, hx, kx, one => by
    unfold partL
    by_cases c : hasB s k = true
    · rw [if_pos c, ← one (z, s) (List.mem_cons_self ..) c]
    · rw [if_neg c]
      rcases List.mem_cons.1 hx with rfl | hx
      · exact absurd kx c
      · exact partL_hit hx kx fun y hy => one y (List.mem_cons_of_mem _ hy)
theorem partL_miss {rest : Option Str} {k : Int} : ∀ {rs : List Row}, (∀ y ∈ rs, hasB y.2 k = false) → partL rest rs k = rest
  | [], _ => rfl
  | (z, s) :: r, h => by
    unfold partL
    rw [if_neg (by rw [h (z, s) (List.mem_cons_self ..)]; simp)]
    exact partL_miss fun y hy => h y (List.mem_cons_of_mem _ hy)
theorem partL_perm {rest : Option Str} {rs qs : List Row} (A : AscF rs) (p : qs.Perm rs) (k : Int) : partL rest qs k = partL rest rs k := by
  by_cases h : ∃ x ∈ rs, hasB x.2 k = true
  · obtain ⟨x, hx, kx⟩ := h
    rw [partL_hit hx kx fun y hy ky => one_row A hy hx ky kx, partL_hit (p.mem_iff.2 hx) kx fun y hy ky => one_row A (p.mem_iff.1 hy) hx ky kx]
  · have no : ∀ y ∈ rs, hasB y.2 k = false := fun y hy => by
      cases e : hasB y.2 k with
      | false => rfl
      | true => exact absurd ⟨y, hy, e⟩ h
    rw [partL_miss no, partL_miss fun y hy => no y (p.mem_iff.1 hy)]
end Ct
end Z

namespace Z
open PySem PySem.Spec PyProof.Rows L2 Evl
theorem get2a {α : Type} (R : List α) (x y : α) : (R ++ [x, y])[R.length]? = some x := by simp
theorem get2b {α : Type} (R : List α) (x y : α) : (R ++ [x, y])[R.length + 1]? = some y := by simp
theorem set2a {α : Type} (R : List α) (x y z : α) : (R ++ [x, y]).set R.length z = R ++ [z, y] := by simp
theorem set2b {α : Type} (R : List α) (x y z : α) : (R ++ [x, y]).set (R.length + 1) z = R ++ [x, z] := by simp
end Z

/-! simp sets over data: walk_at "m" reckons a reading, walk_at "m0" opens a def -/
section
open PySem PySem.Spec PyProof.Rows L2 Evl Z
end
open Z in
local macro_rules | `(tactic| walk_at "m") => `(tactic| try simp only [Z.mSeq, Z.mIfS, Z.mRet, Z.mRetN, Z.mNext, Z.mDrop, Z.mAsg, Z.hName, Z.mVar, Z.mC, Z.mOp, Z.mOpR, Z.mOpL, Z.mNeg, Z.mNotV, Z.mAndV, Z.mOrV, Z.mChain, Z.mIf, Z.mB, Z.mNot, Z.mAnd, Z.mOr, Z.mYes, Z.mNil, Z.mCons, Z.mTup, Z.mLst, Z.mDNew,
  Z.mDisp, Z.mPairs, Z.keyD, Z.mSl, Z.mNoPart, Z.mPart, Z.mCB, Z.mBM, Z.mBM0, Z.mCall, Z.mCallS, Z.mCallP, Z.mCallPS, Z.mCell, Z.mPar, Z.mPar3, Z.mAny, Z.mEnum, Z.mStar, Z.nCount, Z.nIndex, Z.mRng1, Z.mRng2, Z.mLc, Z.wipeD, Z.mFor, Z.hTup, Z.hCons, Z.hNil, Z.hStar, Z.hSub, Z.mXf, Z.mFld, Z.mFldS, Z.mMeth, Z.mMethS, Z.mMake, Z.mMakeS, Z.nLenO, Z.nEqO, Z.nInO, Z.nNinO, Z.nIsiO, Z.nEqK, Z.mDc, Z.mLc2, Z.mEnumA, Z.fl_Catalog_own_spans, Z.pf_Catalog_own_spans, Z.fl_Catalog_own_rest, Z.pf_Catalog_own_rest, Z.fn_Catalog_init, Z.fn_Catalog_names, Z.fn_Catalog_span, Z.fn_Catalog_part_of, Z.fn_Catalog_in_order, Z.fn_Catalog_stretches, Z.fn_Catalog_with_part, Z.fn_Catalog_without_part, Z.fn_Catalog_with_rest, Z.fn_Catalog_contains, Z.fn_Catalog_len, Z.fn_Catalog_eq, Z.fn_Catalog_str, Z.nSort, Z.nDictP, Z.pairsD, Z.nLtT, Z.intsD, Z.mForK, Z.mLcK, Z.pVar, Z.pFld, Z.hTL, Z.keysD, Z.itemsD, Z.get2a, Z.get2b, Z.set2a, Z.set2b, Z.unbD, Z.bndD, Z.lookup_one, Z.mRaise, Z.mTry,
  Z.nAdd, Z.nSub, Z.nMul, Z.nDiv, Z.nMod, Z.nPow, Z.nEq, Z.nNe, Z.nLt, Z.nLe, Z.nGt, Z.nGe, Z.nIs, Z.nIsnt, Z.nIn, Z.nNin, Z.nInR, Z.nIx, Z.nSl, Z.nIsi, Z.nLen, Z.nMax, Z.nMin, Z.nAll, Z.nAny, Z.nList, Z.nTupC, Z.nInt, Z.nStr, Z.nJoin, Z.nAppend, Z.nExtend, Z.nInsert, Z.nPop, Z.nGet, Z.nInK, Z.nNinK, Z.nIxK, Z.nSet,
  Z.pd, Z.pdL, Z.plD, Z.plL, Z.dpD, Z.dpL, Z.eqD_non_non, Z.eqD_non_bl, Z.eqD_non_int, Z.eqD_non_str, Z.eqD_non_tup, Z.eqD_non_lst, Z.eqD_non_dct, Z.eqD_non_obj, Z.eqD_bl_non, Z.eqD_bl_bl, Z.eqD_bl_int, Z.eqD_bl_str, Z.eqD_bl_tup, Z.eqD_bl_lst, Z.eqD_bl_dct, Z.eqD_bl_obj, Z.eqD_int_non, Z.eqD_int_bl, Z.eqD_int_int, Z.eqD_int_str, Z.eqD_int_tup, Z.eqD_int_lst, Z.eqD_int_dct, Z.eqD_int_obj, Z.eqD_str_non, Z.eqD_str_bl, Z.eqD_str_int, Z.eqD_str_str, Z.eqD_str_tup, Z.eqD_str_lst, Z.eqD_str_dct, Z.eqD_str_obj, Z.eqD_tup_non, Z.eqD_tup_bl, Z.eqD_tup_int, Z.eqD_tup_str, Z.eqD_tup_tup, Z.eqD_tup_lst, Z.eqD_tup_dct, Z.eqD_tup_obj, Z.eqD_lst_non, Z.eqD_lst_bl, Z.eqD_lst_int, Z.eqD_lst_str, Z.eqD_lst_tup, Z.eqD_lst_lst, Z.eqD_lst_dct, Z.eqD_lst_obj, Z.eqD_dct_non, Z.eqD_dct_bl, Z.eqD_dct_int, Z.eqD_dct_str, Z.eqD_dct_tup, Z.eqD_dct_lst, Z.eqD_dct_dct, Z.eqD_dct_obj, Z.eqD_obj_non, Z.eqD_obj_bl, Z.eqD_obj_int, Z.eqD_obj_str, Z.eqD_obj_tup, Z.eqD_obj_lst, Z.eqD_obj_dct, Z.eqD_obj_obj, Z.eqL_nn, Z.eqL_nc, Z.eqL_cn, Z.eqL_cc, decide_true, decide_false, Nat.max_self, Nat.zero_max, Nat.max_zero, decide_eq_true_eq, Bool.or_false, Bool.and_true, Bool.true_and, Bool.and_false, Bool.false_and, Z.tyB, Z.tyTs, List.mem_cons, List.not_mem_nil, or_false, false_or, or_true, true_or, Bool.or_true, Bool.true_or, Bool.false_or, Bool.not_eq_true', decide_eq_false_iff_not, String.reduceBEq, String.reduceEq, beq_self_eq_true, Z.natc_0, Z.natc_1, Z.natc_2, Z.natc_3, Z.natc_4, Z.natc_5, Z.natc_6, Z.natc_7, Z.natc_8, Z.natc_9, Z.natc_10, Z.natc_11, Z.natc_12, Z.natc_13, Z.natc_14, Z.natc_15, Z.natc_16, List.map_cons, List.map_nil, Z.chS, Z.get_last, Z.set_last, List.getD_eq_getElem?_getD, Option.getD_some, Option.getD_none, Z.ixN_0, Z.ixN_1, Z.ixN_2, Z.atI_0, Z.atI_1, Z.atI_2, Z.atI_3, Z.atI_4, Z.atI_m1, Z.look_non, Z.look_bl, Z.look_int, Z.look_str, Z.look_tup, Z.look_lst, Z.look_dct, Z.look_obj, Z.look_ty, Z.look_gl, Z.look_exv, Z.lookE_non, Z.lookE_bl, Z.lookE_int, Z.lookE_str, Z.lookE_tup, Z.lookE_lst, Z.lookE_dct, Z.lookE_obj, Z.lookE_ty, Z.lookE_gl, Z.lookE_exv, Z.look_cell, Z.lookE_cell, Z.look_kl, Z.look_kt, Z.tyDa_non, Z.tyDa_bl, Z.tyDa_int, Z.tyDa_str, Z.tyDa_tup, Z.tyDa_lst, Z.tyDa_dct, Z.tyDa_kt, Z.tyDa_cell, Z.nonD_non, Z.nonD_bl, Z.nonD_int, Z.nonD_str, Z.nonD_tup, Z.nonD_lst, Z.nonD_dct, Z.nonD_obj, Z.nonD_ty, Z.nonD_gl, Z.nonD_exv, Z.seqD, Z.itD, Z.cellL, Z.okM_list, Z.okM_str, Z.okM_dict, Z.okS_str, Z.okLs, Z.okDc, Z.perm,
  List.getElem?_cons_zero, List.getElem?_cons_succ, List.set_cons_zero, List.set_cons_succ, List.getD_cons_zero, List.getD_cons_succ, List.length_cons, List.length_nil, List.cons_append, List.nil_append, List.append_nil, List.filterMap_cons, List.filterMap_nil,
  if_true, if_false, Bool.false_eq_true, and_true, true_and, Nat.reduceAdd, Nat.reduceLeDiff, Int.reduceEq, Int.reduceLT, Int.reduceLE, Int.reduceAdd, Int.reduceSub, Int.reduceMul, Int.reduceNeg, Int.reduceMod, Int.reduceDiv, Nat.reduceEqDiff, Nat.reduceSub, not_true_eq_false, not_false_eq_true, Option.some.injEq, reduceCtorEq, List.cons.injEq, exists_eq_left, exists_eq_left', Bool.not_true, Bool.not_false])
open Z in
local macro_rules | `(tactic| walk_at "m1") => `(tactic| simp only [Z.dfn, Z.startD, List.map_cons, List.map_nil, List.length_cons, List.length_nil, Nat.reduceAdd, Nat.reduceSub, List.replicate_succ, List.replicate_zero, List.cons_append, List.nil_append, List.append_nil, true_and, and_true])
open Z in
local macro_rules | `(tactic| walk_at "m0") => `(tactic| (walk_at "m1"; refine fun _ _ => ?_))

open Z in
local macro_rules | `(tactic| walk_at "in") => `(tactic| simp only [Z.anyEq, List.any_cons, List.any_nil, Z.eqD, Z.eqL, Bool.or_false, Bool.and_true, Bool.true_and, Bool.and_false, Bool.false_and, Bool.or_eq_true, Bool.and_eq_true, decide_eq_true_eq, Bool.or_eq_false_iff, decide_eq_false_iff_not, not_or])

open Z in
local macro_rules | `(tactic| walk_at "g") => `(tactic| simp only [Z.hTup, Z.hTL, Z.hCons, Z.hNil, Z.hName, Z.look_tup, Z.look_lst, List.set_cons_zero, List.set_cons_succ, List.length_cons, List.length_nil, Nat.reduceAdd, true_and, and_true])


namespace Z
open PySem PySem.Spec PyProof.Rows L2 Evl
theorem cell_ok {ns : List Int} {k : Int} {M : Mem} {Q : TK} {E : XD} (h0 : 0 ≤ k) (h1 : k < 1000) (q : ∀ n : Int, Q (.int n) M) : f_law_cell [.kl (ns.map Da.int), .int k] M Q E := by
  unfold f_law_cell m_law_cell
  walk_at "m0"
  walk_at "m"
  rw [List.length_map]
  by_cases c : k < (ns.length : Int)
  · rw [if_pos (by simpa using c)]
    obtain ⟨d, hd, e⟩ := atI_mem (xs := ns.map Da.int) h0 (by rw [List.length_map]; exact c)
    obtain ⟨n, _, rfl⟩ := List.mem_map.1 hd
    rw [e]
    exact leave_same (q n)
  · rw [if_neg (by simpa using c)]
    exact ⟨wide_mul (a := 13) (b := 10) (by decide) (by omega) (by decide) (by decide) (by decide), leave_same (q _)⟩
theorem box_ok {n : Int} {M : Mem} {Q : TK} {E : XD} (q : ∀ b, BoxD 0 b → Q (.cell M.length) (M ++ [b])) : f_law_box [.int n] M Q E := by
  unfold f_law_box m_law_box
  walk_at "m0"
  walk_at "m"
  refine ⟨⟨by decide, by decide, by decide⟩, leave_same (q _ ⟨_, _, _, rfl, Int.emod_nonneg _ (by decide), Int.lt_trans (Int.emod_lt_of_pos _ (by decide)) (by decide), Int.le_refl _, Int.le_refl _⟩)⟩
theorem take_ok {m : Int} {n : Nat} {b : Da} {R : Mem} {Q : TK} {E : XD} (B : BoxD n b) (hn : n < 4294967296) (hm : 0 < m) (hl : m.natAbs.log2 < 9000)
    (k : ∀ (d : Int) (b' : Da), BoxD (n + 1) b' → 0 ≤ d → d < m → Q (.int d) (b' :: R)) : f_law_take [.cell 0, .int m] (b :: R) Q E := by
  obtain ⟨a, b, c, rfl, hb0, hb1, hc0, hc1⟩ := B
  unfold f_law_take m_law_take
  walk_at "m0"
  walk_at "m"
  refine ite2 (fun ca => ?_) (fun ca => ?_)
  · refine ⟨hm, ⟨hm, hl⟩, leave_same (k _ _ ⟨_, _, _, rfl, hb0, hb1, hc0, ?_⟩ (Int.emod_nonneg _ (by omega)) (Int.emod_lt_of_pos _ hm))⟩
    omega
  · have q0 : 0 ≤ (b + 7919 * (c + 1) + 43) ^ (5 : Int).toNat % 2147483647 := Int.emod_nonneg _ (by decide)
    have q1 : (b + 7919 * (c + 1) + 43) ^ (5 : Int).toNat % 2147483647 < 2147483647 := Int.emod_lt_of_pos _ (by decide)
    refine ⟨wide_mul (a := 13) (b := 34) (by decide) (by omega) (by decide) (by decide) (by decide), ⟨by decide, by decide, by omega⟩, wide_mul (a := 17) (b := 34) (by decide) (by omega) (by decide) (by decide) (by decide), ?_⟩
    generalize (b + 7919 * (c + 1) + 43) ^ (5 : Int).toNat % 2147483647 = u at q0 q1 ⊢
    exact ⟨⟨by decide, by decide, by omega⟩, ⟨by decide, by decide⟩, hm, leave_same (k _ _ ⟨_, _, _, rfl, hb0, hb1, by omega, by omega⟩ (Int.emod_nonneg _ (by omega)) (Int.emod_lt_of_pos _ hm))⟩
end Z

/-! the law's draws: mixed lists, names (behind the law's readings) -/
namespace Z
open PySem PySem.Spec PyProof.Rows L2 Evl
theorem mixed_ok {n : Nat} {b : Da} {R : Mem} {Q : TK} {E : XD} {xs : List Da} (B : BoxD n b) (hn : n ≤ 1000000000) (hx : xs.length ≤ 1000) (px : cloL (R.length + 1) xs = true)
    (k : ∀ (ys : List Da) (b' : Da), BoxD (n + xs.length) b' → ys.Perm xs → Q (.lst ys) (b' :: R)) : f_law_mixed [.cell 0, .lst xs] (b :: R) Q E := by
  unfold f_law_mixed m_law_mixed
  walk_at "m1"
  intro cM cD
  walk_at "m"
  refine ⟨by omega, by omega, by rw [rngD_len]; omega, ?_⟩
  have go : ∀ (is left acc : List Da) (b : Da) (c : Nat), is.length = left.length → c + left.length ≤ xs.length → BoxD (n + c) b → (acc ++ left).Perm xs →
      lcL (fun _ => True) (hName 3) mYes (mBM "list" nPop (mVar 2) (mCons (mCall f_law_take (mCons (mVar 0) (mCons (mCB nLen (mCons (mVar 2) mNil)) mNil))) mNil)) [3] [some (Da.cell 0), some (Da.lst xs), some (Da.cell (List.length R + 1)), none] is acc (b :: (R ++ [Da.lst left])) (leave (List.length R + 1) Q) := by
    intro is
    induction is with
    | nil =>
      intro left acc b c h1 h2 B pm
      have hl : left = [] := List.length_eq_zero_iff.1 h1.symm
      subst hl
      rw [List.append_nil] at pm
      show leave _ Q (.lst acc) _
      refine leave_box B cM (frz_clo ?_) (k acc b (B.mono (by simp at h2; omega)) pm)
      unfold cloD
      rw [cloL_all] at px ⊢
      exact fun d hd => px d (pm.mem_iff.1 hd)
    | cons i is ih =>
      intro left acc b c h1 h2 B pm
      have hl : 0 < left.length := by rw [← h1]; simp
      unfold lcL
      walk_at "m"
      refine ⟨⟨left, rfl⟩, take_ok B (by omega) (by omega) (log_nat (by omega)) fun d b' B' d0 d1 => ?_⟩
      have hd : d.toNat < left.length := by omega
      walk_at "m"
      refine ⟨by omega, by omega, d.toNat, left[d.toNat], seqI d0 d1, by simp [hd], ?_⟩
      refine ih (left.eraseIdx d.toNat) (acc ++ [left[d.toNat]]) b' (c + 1) ?_ ?_ B' ?_
      · rw [List.length_eraseIdx_of_lt hd]
        rw [List.length_cons] at h1
        omega
      · rw [List.length_eraseIdx_of_lt hd]
        omega
      · refine List.Perm.trans ?_ pm
        rw [List.append_assoc]
        exact List.Perm.append_left acc (perm_erase hd)
  exact go _ xs [] b 0 (by rw [rngD_len]; omega) (by omega) B (by simp)
theorem mem13 : ∀ z ∈ (["begin", "empty", "rest", "step", "end", "look", "old", "new", "put", "part", "move", "split", "lock"] : List Str), nmS z = true := by decide +kernel
theorem nd13 : (["begin", "empty", "rest", "step", "end", "look", "old", "new", "put", "part", "move", "split", "lock"] : List Str).Nodup := by decide +kernel
theorem cutL_take {α : Type} (xs : List α) {m : Int} (h : 0 ≤ m) : cutL xs none (some m) = xs.take m.toNat := by
  have e1 : HT.sIx xs.length 0 none = 0 := rfl
  have e2 : HT.sIx xs.length xs.length (some m) = min m.toNat xs.length := by
    unfold HT.sIx
    show (if m < 0 then _ else _) = _
    rw [if_neg (by omega)]
  unfold cutL
  rw [e1, e2, List.drop_zero, Nat.sub_zero]
  rcases Nat.le_total m.toNat xs.length with q | q
  · rw [Nat.min_eq_left q]
  · rw [Nat.min_eq_right q, List.take_length, List.take_of_length_le q]
def strO : Da → Option Str
  | .str z => some z
  | _ => none
theorem strs_of_perm {ys : List Da} {zs : List Str} (p : ys.Perm (zs.map Da.str)) : ∃ ws : List Str, ys = ws.map Da.str ∧ ws.Perm zs := by
  refine ⟨ys.filterMap strO, ?_, ?_⟩
  · have h : ∀ d ∈ ys, ∃ z, d = Da.str z := fun d hd => by
      obtain ⟨z, _, e⟩ := List.mem_map.1 (p.mem_iff.1 hd)
      exact ⟨z, e.symm⟩
    clear p
    induction ys with
    | nil => rfl
    | cons y ys ih =>
      obtain ⟨z, rfl⟩ := h y (List.mem_cons_self ..)
      have e := ih fun d hd => h d (List.mem_cons_of_mem _ hd)
      show _ = Da.str z :: (ys.filterMap strO).map Da.str
      rw [← e]
  · have q := p.filterMap strO
    rw [List.filterMap_map] at q
    have e : zs.filterMap (strO ∘ Da.str) = zs := by
      induction zs with
      | nil => rfl
      | cons z zs ih =>
        clear q p
        induction (z :: zs) with
        | nil => rfl
        | cons a l ih2 => rw [List.filterMap_cons]; show a :: _ = _; rw [ih2]
    rw [e] at q
    exact q
theorem nms_len {z : Str} (h : nmS z = true) : z.length ≤ 8 := by
  simp only [nmS, Bool.and_eq_true, decide_eq_true_eq] at h
  exact h.2.2.1
theorem names_okG {P : Str → Prop} (h13 : ∀ z ∈ (["begin", "empty", "rest", "step", "end", "look", "old", "new", "put", "part", "move", "split", "lock"] : List Str), P z) (hf : ∀ stem ∈ stems, ∀ c ∈ letters, ∀ w ∈ [0, 1, 2], P (formS stem c w)) {n : Nat} {b : Da} {R : Mem} {Q : TK} {E : XD} {m : Int} (B : BoxD n b) (hn : n ≤ 1000000) (hm0 : 0 ≤ m) (hm1 : m ≤ 13)
    (k : ∀ (zs : List Str) (b' : Da), BoxD (n + 20) b' → (zs.length : Int) = m → zs.Nodup → (∀ z ∈ zs, P z) → Q (.lst (zs.map Da.str)) (b' :: R)) : f_law_names [.cell 0, .int m] (b :: R) Q E := by
  unfold f_law_names m_law_names
  walk_at "m1"
  intro cM cD
  walk_at "m"
  refine take_ok B (by omega) (by decide) (by decide +kernel) fun d0 b1 B1 e0 e1 => ?_
  walk_at "m"
  refine ite2 (fun c => ?_) (fun c => ?_)
  · refine mixed_ok (xs := (["begin", "empty", "rest", "step", "end", "look", "old", "new", "put", "part", "move", "split", "lock"] : List Str).map Da.str) B1 (by omega) (by decide) (by rfl) fun ys b2 B2 pm => ?_
    obtain ⟨ws, rfl, pw⟩ := strs_of_perm pm
    walk_at "m"
    rw [cutL_take _ hm0, ← List.map_take]
    have hl : ws.length = 13 := pw.length_eq
    refine leave_same (k _ b2 (B2.mono (by simp)) (by rw [List.length_take]; omega) ?_ fun z hz => h13 z (pw.mem_iff.1 (List.mem_of_mem_take hz)))
    exact (pw.nodup_iff.2 nd13).sublist (List.take_sublist _ _)
  · refine take_ok B1 (by omega) (by decide) (by decide +kernel) fun d1 b2 B2 f0 f1 => ?_
    obtain ⟨stem, hs0, e⟩ := atI_mem (xs := stems.map Da.str) f0 f1
    obtain ⟨stem, hs, rfl⟩ := List.mem_map.1 hs0
    have e : atI [Da.str "", Da.str "a", Da.str "tabl", Da.str "rest", Da.str "part", Da.str "zzzzzzz"] d1 = some (Da.str stem) := e
    walk_at "m"
    rw [e]
    refine take_ok B2 (by omega) (by decide) (by decide +kernel) fun d2 b3 B3 g0 g1 => ?_
    refine take_ok B3 (by omega) (by decide) (by decide +kernel) fun d3 b4 B4 h0 h1 => ?_
    obtain ⟨st, hst0, e⟩ := atI_mem (xs := ([1, 3, 5, 7, 9, 11] : List Int).map Da.int) h0 h1
    obtain ⟨st, hst, rfl⟩ := List.mem_map.1 hst0
    have e : atI [Da.int 1, Da.int 3, Da.int 5, Da.int 7, Da.int 9, Da.int 11] d3 = some (Da.int st) := e
    walk_at "m"
    rw [e]
    refine take_ok B4 (by omega) (by decide) (by decide +kernel) fun way b5 B5 i0 i1 => ?_
    refine ⟨by omega, by omega, ?_⟩
    have hS : st.toNat ∈ [1, 3, 5, 7, 9, 11] ∧ (st.toNat : Int) = st := by
      simp only [List.mem_cons, List.not_mem_nil, or_false] at hst
      rcases hst with rfl | rfl | rfl | rfl | rfl | rfl <;> exact ⟨by decide, rfl⟩
    have hsb : 0 ≤ st ∧ st ≤ 11 := by
      simp only [List.mem_cons, List.not_mem_nil, or_false] at hst
      rcases hst with rfl | rfl | rfl | rfl | rfl | rfl <;> exact ⟨by decide, by decide⟩
    refine forL_ind (fun k ρ M => ∃ s9 s10 s11 : Option Da, ρ = [some (Da.cell 0), some (Da.int m), some (Da.str "abcdefghijklmnopqrstuvwxyz"), none, some (Da.str stem), some (Da.int d2), some (Da.int st), some (Da.int way), some (Da.cell (R.length + 1)), s9, s10, s11] ∧
      M = b5 :: (R ++ [.lst (((List.range k).map fun k => nameK stem d2.toNat st.toNat way.toNat k).map Da.str)])) ⟨_, _, _, rfl, rfl⟩ ?_ ?_
    · rintro k d _ _ ek ⟨s9, s10, s11, rfl, rfl⟩ C hC
      obtain ⟨hk, rfl⟩ := rngD_at ek
      have hi : (d2 + st * (0 + (k : Int))) % 26 = (((d2.toNat + st.toNat * k) % 26 : Nat) : Int) := by
        have h2 : (d2.toNat : Int) = d2 := by omega
        rw [Int.natCast_emod, Int.natCast_add, Int.natCast_mul, h2, hS.2, Int.zero_add]
        rfl
      have ec : atI ("abcdefghijklmnopqrstuvwxyz" : Str).cps.toList ((d2 + st * (0 + (k : Int))) % 26) = some (lett ((d2.toNat + st.toNat * k) % 26)) := by
        have hl : (d2.toNat + st.toNat * k) % 26 < letters.length := Nat.mod_lt _ (by decide)
        rw [hi, atI_nat']
        show letters[_]? = _
        unfold lett
        rw [List.getElem?_eq_getElem hl, List.getD_eq_getElem?_getD, List.getElem?_eq_getElem hl]
        rfl
      have ml : CMulW st (0 + (k : Int)) := wide_mul (a := 4) (b := 4) (by omega) (by omega) (by decide) (by decide) (by decide)
      walk_at "m"
      rw [ec]
      walk_at "m"
      have hL : (List.map Da.str (List.map (fun k => nameK stem d2.toNat st.toNat way.toNat k) (List.range k))).length < sizeLine := by
        rw [List.length_map, List.length_map, List.length_range, sizeLine_eq]
        omega
      have hsl : stem.length ≤ 8 := by
        simp only [stems, List.mem_cons, List.not_mem_nil, or_false] at hs
        rcases hs with rfl | rfl | rfl | rfl | rfl | rfl <;> decide
      have h1 : ({ cps := #[lett ((d2.toNat + st.toNat * k) % 26)] } : Str).length = 1 := rfl
      have fin : ∀ nm : Str, fixS nm = nameK stem d2.toNat st.toNat way.toNat k → ∀ s10 : Option Da, if nm = ("table" : Str) then
          (List.map Da.str (List.map (fun k => nameK stem d2.toNat st.toNat way.toNat k) (List.range k))).length < sizeLine ∧
            C [some (Da.cell 0), some (Da.int m), some (Da.str "abcdefghijklmnopqrstuvwxyz"), none, some (Da.str stem), some (Da.int d2), some (Da.int st), some (Da.int way), some (Da.cell (List.length R + 1)), some (Da.int (0 + (k : Int))), s10, some (Da.str nm)]
              (b5 :: (R ++ [Da.lst (List.map Da.str (List.map (fun k => nameK stem d2.toNat st.toNat way.toNat k) (List.range k)) ++ [Da.str "tables"])]))
          else (List.map Da.str (List.map (fun k => nameK stem d2.toNat st.toNat way.toNat k) (List.range k))).length < sizeLine ∧
            C [some (Da.cell 0), some (Da.int m), some (Da.str "abcdefghijklmnopqrstuvwxyz"), none, some (Da.str stem), some (Da.int d2), some (Da.int st), some (Da.int way), some (Da.cell (List.length R + 1)), some (Da.int (0 + (k : Int))), s10, some (Da.str nm)]
              (b5 :: (R ++ [Da.lst (List.map Da.str (List.map (fun k => nameK stem d2.toNat st.toNat way.toNat k) (List.range k)) ++ [Da.str nm])])) := by
        intro nm e s10
        have end_ : List.map Da.str (List.map (fun k => nameK stem d2.toNat st.toNat way.toNat k) (List.range (k + 1))) = List.map Da.str (List.map (fun k => nameK stem d2.toNat st.toNat way.toNat k) (List.range k)) ++ [Da.str (fixS nm)] := by
          rw [List.range_succ, List.map_append, List.map_append, e]
          rfl
        by_cases q : nm = ("table" : Str)
        · rw [if_pos q]
          refine ⟨hL, hC _ _ _ _ .same trivial ⟨_, _, _, rfl, ?_⟩⟩
          rw [end_, fixS, if_pos q]
        · rw [if_neg q]
          refine ⟨hL, hC _ _ _ _ .same trivial ⟨_, _, _, rfl, ?_⟩⟩
          rw [end_, fixS, if_neg q]
      refine ⟨ml, by rw [h1, sizeLine_eq]; omega, by rw [h1, sizeLine_eq]; omega, ite2 (fun ck => ?_) (fun ck => ?_)⟩
      · have k0 : k ≠ 0 := by omega
        have hw : way = 0 ∨ way = 1 ∨ way = 2 := by omega
        have e : ∀ w : Nat, nameK stem d2.toNat st.toNat w k = formS stem (lett ((d2.toNat + st.toNat * k) % 26)) w := fun w => by
          unfold nameK
          rw [if_neg k0]
        rcases hw with rfl | rfl | rfl
        · walk_at "m"
          exact ⟨⟨_, rfl⟩, fin _ (e 0).symm _⟩
        · walk_at "m"
          exact ⟨⟨_, rfl⟩, fin _ (e 1).symm _⟩
        · walk_at "m"
          exact ⟨⟨_, rfl⟩, fin _ (e 2).symm _⟩
      · have k0 : k = 0 := by omega
        refine ⟨⟨_, rfl⟩, fin _ ?_ _⟩
        unfold nameK
        rw [if_pos k0]
        rfl
    · rintro _ _ ⟨s9, s10, s11, rfl, rfl⟩
      rw [rngD_len]
      walk_at "m"
      refine leave_box B5 cM (d' := .lst (((List.range m.toNat).map fun k => nameK stem d2.toNat st.toNat way.toNat k).map Da.str)) ?_ (k _ b5 (B5.mono (by omega)) ?_ ?_ ?_)
      · exact frz_cell (by simp) (Nat.le_refl _) (clo_strs _ _)
      · rw [List.length_map, List.length_range]
        omega
      · refine names_nodup hs (by omega) hS.1 (by omega) _ (by omega)
      · intro z hz
        obtain ⟨j, _, rfl⟩ := List.mem_map.1 hz
        exact hf stem hs _ (lett_mem _ (List.mem_range.mpr (Nat.mod_lt _ (by decide)))) _ (by split <;> first | decide | (simp; omega))
theorem names_ok {n : Nat} {b : Da} {R : Mem} {Q : TK} {E : XD} {m : Int} (B : BoxD n b) (hn : n ≤ 1000000) (hm0 : 0 ≤ m) (hm1 : m ≤ 13)
    (k : ∀ (zs : List Str) (b' : Da), BoxD (n + 20) b' → (zs.length : Int) = m → zs.Nodup → (∀ z ∈ zs, nmS z = true) → Q (.lst (zs.map Da.str)) (b' :: R)) : f_law_names [.cell 0, .int m] (b :: R) Q E := names_okG (P := fun z => nmS z = true) mem13 form_ok B hn hm0 hm1 k
end Z

namespace Z
open PySem PySem.Spec PyProof.Rows L2 Evl
def nmD : Da → Bool
  | .str z => nmS z
  | _ => false
theorem inS_ch (c : Nat) (z : Str) : inS ⟨#[c]⟩ z = decide (c ∈ z.cps.toList) := rfl
theorem filter_true {α : Type} (xs : List α) : xs.filter (fun _ => true) = xs := List.filter_eq_self.mpr fun _ _ => rfl
theorem len_cps (z : Str) : z.cps.toList.length = z.length := Array.length_toList
/-- a test over the signs of a text -/
theorem signs_all {z : Str} (P : Nat → Bool) : ((z.cps.toList.map chS).map fun d => match d with | .str s => (match s.cps.toList with | [c] => Da.bl (P c) | _ => .non) | _ => .non) = (z.cps.toList.map P).map Da.bl := by
  simp [List.map_map, Function.comp_def, chS]
theorem is_name_ok {d : Da} {M : Mem} {Q : TK} {E : XD} (h : pdd d = true) (q : Q (.bl (nmD d)) M) : f_is_name [d] M Q E := by
  unfold f_is_name m_is_name
  walk_at "m0"
  cases d with
  | str z =>
    walk_at "m"
    refine ite2 (fun c => leave_same ?_) (fun c => ?_)
    · have e : nmD (.str z) = false := by simp [nmD, nmS, c]
      rw [e] at q
      exact q
    · refine ite2 (fun c1 => ?_) (fun c1 => leave_same ?_)
      · refine ite2 (fun c2 => leave_same ?_) (fun c2 => ?_)
        · have e : nmD (.str z) = false := by
            have : ¬ z.length ≤ 8 := by omega
            simp [nmD, nmS, this]
          rw [e] at q
          exact q
        · refine ⟨by rw [List.length_map, len_cps]; omega, ?_⟩
          refine lcL_pure (fun _ => true) (fun d => match d with | .str s => (match s.cps.toList with | [c] => Da.bl (decide (c ∈ letters)) | _ => .non) | _ => .non) (fun d hd R r => r) (fun d hd _ R r => ?_) trivial ?_
          · obtain ⟨c, _, rfl⟩ := List.mem_map.1 hd
            walk_at "m"
            exact r
          · rw [filter_true, signs_all]
            walk_at "m"
            rw [blsD_map]
            refine leave_same ?_
            have e : nmD (.str z) = (z.cps.toList.map fun c => decide (c ∈ letters)).all id := by
              have h1 : 1 ≤ z.length := by omega
              have h2 : z.length ≤ 8 := by omega
              simp [nmD, nmS, c, h1, h2, List.all_map, Function.comp_def]
            rw [← e]
            exact q
      · have e : nmD (.str z) = false := by
          have : ¬ 1 ≤ z.length := by omega
          simp [nmD, nmS, this]
        rw [e] at q
        exact q
  | ty _ => cases h
  | gl _ => cases h
  | obj _ _ => cases h
  | kl _ => cases h
  | kt _ => cases h
  | cell _ => cases h
  | exv _ _ _ _ => cases h
  | _ =>
    walk_at "m"
    exact leave_same q
end Z

namespace Z
open PySem PySem.Spec PyProof.Rows L2 Evl
open Ct
def limD : Lim → Da
  | none => .non
  | some i => .int i
def spD (s : Lim × Lim) : Da := .tup [limD s.1, limD s.2]
def spB : Lim × Lim → Bool
  | (some l, some h) => decide (l < h)
  | _ => true
theorem spB_lt {s : Lim × Lim} (h : ltL s.1 s.2) : spB s = true := by
  obtain ⟨a, b⟩ := s
  cases a with
  | none => rfl
  | some l =>
    cases b with
    | none => rfl
    | some g => exact decide_eq_true (h l g rfl rfl)
def grL : Lim → Lim → Lim
  | some a, some b => some (max a b)
  | none, b => b
  | a, none => a
def lsL : Lim → Lim → Lim
  | some a, some b => some (min a b)
  | none, b => b
  | a, none => a
section
variable {M : Mem} {Q : TK} {E : XD} {l g : Lim} {s t : Lim × Lim} {k : Int}
theorem is_limit_ok (q : Q (.bl true) M) : f_is_limit [limD l] M Q E := by
  unfold f_is_limit m_is_limit
  walk_at "m0"
  cases l with
  | none =>
    unfold limD
    walk_at "m"
    exact leave_same q
  | some i =>
    unfold limD
    walk_at "m"
    unfold f_is_integer m_is_integer
    walk_at "m0"
    walk_at "m"
    exact leave_same (leave_same q)
theorem is_span_ok (q : Q (.bl (spB s)) M) : f_is_span [spD s] M Q E := by
  unfold f_is_span m_is_span
  walk_at "m0"
  unfold spD
  walk_at "m"
  refine is_limit_ok ?_
  walk_at "m"
  refine is_limit_ok ?_
  walk_at "m"
  obtain ⟨a, b⟩ := s
  cases a with
  | none =>
    unfold limD
    walk_at "m"
    exact leave_same q
  | some i =>
    cases b with
    | none =>
      unfold limD
      walk_at "m"
      exact leave_same q
    | some j =>
      unfold limD
      walk_at "m"
      exact leave_same q
theorem need_span_ok (h : spB s = true) (q : Q .non M) : f_need_span [spD s] M Q E := by
  unfold f_need_span m_need_span
  walk_at "m0"
  walk_at "m"
  refine is_span_ok ?_
  rw [h]
  walk_at "m"
  exact leave_same q
theorem has_key_ok (q : Q (.bl (hasB s k)) M) : f_has_key [spD s, .int k] M Q E := by
  unfold f_has_key m_has_key
  walk_at "m0"
  unfold spD
  walk_at "m"
  obtain ⟨a, b⟩ := s
  cases a with
  | none =>
    cases b with
    | none => unfold limD; walk_at "m"; exact leave_same q
    | some j => unfold limD; walk_at "m"; exact leave_same q
  | some i =>
    have e : hasB (some i, b) k = (decide (i ≤ k) && hasB (none, b) k) := rfl
    rw [e] at q
    unfold limD
    walk_at "m"
    refine ite2 (fun c => ?_) (fun c => ?_)
    · rw [decide_eq_true c, Bool.true_and] at q
      cases b with
      | none => walk_at "m"; exact leave_same q
      | some j => walk_at "m"; exact leave_same q
    · rw [decide_eq_false c, Bool.false_and] at q
      exact leave_same q
theorem greater_ok (q : Q (limD (grL l g)) M) : f_greater_limit [limD l, limD g] M Q E := by
  unfold f_greater_limit m_greater_limit
  walk_at "m0"
  cases l with
  | none => unfold limD; cases g <;> (walk_at "m"; exact leave_same q)
  | some a =>
    cases g with
    | none => unfold limD; walk_at "m"; exact leave_same q
    | some b =>
      unfold limD
      walk_at "m"
      refine ⟨[a, b], rfl, Nat.succ_pos _, fun m hm hy => leave_same ?_⟩
      have h1 := hy a (by simp)
      have h2 := hy b (by simp)
      have e : m = max a b := by
        simp only [List.mem_cons, List.not_mem_nil, or_false] at hm
        omega
      rw [e]
      exact q
theorem lesser_ok (q : Q (limD (lsL l g)) M) : f_lesser_limit [limD l, limD g] M Q E := by
  unfold f_lesser_limit m_lesser_limit
  walk_at "m0"
  cases l with
  | none => unfold limD; cases g <;> (walk_at "m"; exact leave_same q)
  | some a =>
    cases g with
    | none => unfold limD; walk_at "m"; exact leave_same q
    | some b =>
      unfold limD
      walk_at "m"
      refine ⟨[a, b], rfl, Nat.succ_pos _, fun m hm hy => leave_same ?_⟩
      have h1 := hy a (by simp)
      have h2 := hy b (by simp)
      have e : m = min a b := by
        simp only [List.mem_cons, List.not_mem_nil, or_false] at hm
        omega
      rw [e]
      exact q
def comB (s t : Lim × Lim) : Bool := spB (grL s.1 t.1, lsL s.2 t.2)
theorem common_ok (hs : spB s = true) (ht : spB t = true) (q : Q (if comB s t = true then spD (grL s.1 t.1, lsL s.2 t.2) else .non) M) : f_common [spD s, spD t] M Q E := by
  unfold f_common m_common
  walk_at "m0"
  walk_at "m"
  refine need_span_ok hs ?_
  refine need_span_ok ht ?_
  unfold spD
  walk_at "m"
  refine greater_ok ?_
  walk_at "m"
  refine lesser_ok ?_
  walk_at "m"
  refine is_span_ok (s := (grL s.1 t.1, lsL s.2 t.2)) ?_
  unfold comB at q
  cases c : spB (grL s.1 t.1, lsL s.2 t.2) with
  | true =>
    rw [c, if_pos rfl] at q
    walk_at "m"
    exact leave_same q
  | false =>
    rw [c, if_neg (by simp)] at q
    walk_at "m"
    exact leave_same q
theorem meet_ok (hs : spB s = true) (ht : spB t = true) (q : Q (.bl (comB s t)) M) : f_meet [spD s, spD t] M Q E := by
  unfold f_meet m_meet
  walk_at "m0"
  walk_at "m"
  refine common_ok hs ht ?_
  cases c : comB s t with
  | true =>
    rw [c] at q
    rw [if_pos rfl]
    unfold spD
    walk_at "m"
    exact leave_same q
  | false =>
    rw [c] at q
    rw [if_neg (by simp)]
    walk_at "m"
    exact leave_same q
/-- spans one behind the other don't meet -/
theorem com_no {h x : Int} (hs : s.2 = some h) (ht : t.1 = some x) (le : h ≤ x) : comB s t = false ∧ comB t s = false := by
  obtain ⟨a, b⟩ := s
  obtain ⟨c, d⟩ := t
  simp only at hs ht
  subst hs ht
  unfold comB
  constructor
  · cases a <;> cases d <;> simp only [grL, lsL, spB, decide_eq_false_iff_not] <;> omega
  · cases a <;> cases d <;> simp only [grL, lsL, spB, decide_eq_false_iff_not] <;> omega
def ordL : Lim → List Int
  | none => [0, 0]
  | some l => [1, l]
theorem order_ok (q : Q (.tup ((ordL s.1).map Da.int)) M) : f_order_of [spD s] M Q E := by
  unfold f_order_of m_order_of
  walk_at "m0"
  unfold spD
  walk_at "m"
  obtain ⟨a, b⟩ := s
  cases a with
  | none => unfold limD; walk_at "m"; exact leave_same q
  | some l => unfold limD; walk_at "m"; exact leave_same q
theorem ordL_lt : ltT (ordL l) (ordL g) = befL l g := by
  cases l with
  | none =>
    cases g with
    | none => rfl
    | some b => rfl
  | some a =>
    cases g with
    | none => rfl
    | some b =>
      unfold ltT
      show Ob.lexAt _ _ _ 0 2 = decide (a < b)
      rw [Ob.lexAt_succ, if_pos (by rfl), Ob.lexAt_succ]
      by_cases e : a = b
      · subst e
        rw [if_pos (decide_eq_true rfl), Ob.lexAt_zero]
        simp
      · rw [if_neg (by show ¬ decide (a = b) = true; simpa using e)]
        rfl
theorem intsD_ord : intsD ((ordL l).map Da.int) = some (ordL l) := by cases l <;> rfl
theorem before_ok (q : Q (.bl (befL s.1 t.1)) M) : f_is_before [spD s, spD t] M Q E := by
  unfold f_is_before m_is_before
  walk_at "m0"
  simp only [mRet, mOp, mCall, mVar, mCons, mNil, List.getElem?_cons_zero, List.getElem?_cons_succ]
  refine order_ok ?_
  refine order_ok ?_
  unfold nLtT
  simp only [look_tup, intsD_ord]
  refine leave_same ?_
  rw [ordL_lt]
  exact q
end
end Z

namespace Z
open PySem PySem.Spec PyProof.Rows L2 Evl
open Ct
def dicK (qs : List Ct.Row) : List (Key × Da) := qs.map fun r => ((Sum.inr r.1 : Key), spD r.2)
structure Cq (qs : List Ct.Row) : Prop where
  nd : (qs.map (·.1)).Nodup
  n8 : qs.length ≤ 20
  nm : ∀ r ∈ qs, nmS r.1 = true
  sp : ∀ r ∈ qs, spB r.2 = true
  dj : ∀ r ∈ qs, ∀ t ∈ qs, r.1 ≠ t.1 → comB r.2 t.2 = false
theorem dic_val {qs : List Ct.Row} (nd : (qs.map (·.1)).Nodup) {r : Ct.Row} (h : r ∈ qs) : valD (dicK qs) (Sum.inr r.1) = some (spD r.2) := by
  induction qs with
  | nil => cases h
  | cons q l ih =>
    rw [List.map_cons, List.nodup_cons] at nd
    show valD ((Sum.inr q.1, spD q.2) :: dicK l) _ = _
    rw [valD_cons]
    rcases List.mem_cons.1 h with rfl | h'
    · rw [if_pos rfl]
    · rw [if_neg]
      · exact ih nd.2 h'
      · intro e
        exact nd.1 (List.mem_map.2 ⟨r, h', (Sum.inr.inj e).symm⟩)
theorem dic_keys : ∀ qs : List Ct.Row, keysS (dicK qs) = some (qs.map (·.1))
  | [] => rfl
  | q :: l => by
    show (keysS (dicK l)).map (q.1 :: ·) = _
    rw [dic_keys l]
    rfl
theorem dic_names (qs : List Ct.Row) : keysD (dicK qs) = (qs.map (·.1)).map Da.str := by
  unfold keysD dicK
  rw [List.map_map, List.map_map]
  rfl
theorem dic_ok {qs : List Ct.Row} (h : Cq qs) : ∀ p ∈ dicK qs, keyOk p.1 := fun p hp => by
  obtain ⟨r, hr, rfl⟩ := List.mem_map.1 hp
  have := nms_len (h.nm r hr)
  show r.1.length ≤ sizeLine
  rw [sizeLine_eq]
  omega
theorem row_of {qs : List Ct.Row} {z : Str} (h : z ∈ qs.map (·.1)) : ∃ s, (z, s) ∈ qs := by
  obtain ⟨r, hr, rfl⟩ := List.mem_map.1 h
  exact ⟨r.2, hr⟩
theorem ltS_ne {a b : Str} (h : ltS a b = true) : a ≠ b := by
  rintro rfl
  unfold ltS at h
  have := of_decide_eq_true h
  exact absurd this (List.lt_irrefl _)
section
variable {M : Mem} {Q : TK} {E : XD} {qs : List Ct.Row}
theorem need_spans_ok (h : Cq qs) (q : Q .non M) : f_need_spans [.dct (dicK qs)] M Q E := by
  unfold f_need_spans m_need_spans
  walk_at "m0"
  refine seq_hide fun N hN => ?_
  walk_at "m"
  refine hN _ _ ?_
  clear hN
  unfold b_need_spans_1
  refine seq_hide fun N hN => ?_
  have h20 := h.n8
  walk_at "m"
  refine ⟨dic_ok h, ?_⟩
  have e0 : List.map (fun p : Key × Da => keyV p.1) (dicK qs) = (qs.map (·.1)).map Da.str := dic_names qs
  rw [e0]
  have hn : ∀ z ∈ qs.map (·.1), nmS z = true := fun z hz => by
    obtain ⟨s, hs⟩ := row_of hz
    exact h.nm _ hs
  refine forL_ind (fun k ρ M' => M' = M ∧ ∃ s1, ρ = [some (.dct (dicK qs)), s1, none]) ⟨rfl, _, rfl⟩ ?_ ?_
  · rintro k d _ _ ek ⟨rfl, s1, rfl⟩ C hC
    obtain ⟨z, hz, rfl⟩ := List.mem_map.1 (List.mem_of_getElem? ek)
    unfold l_need_spans_1
    walk_at "m"
    refine is_name_ok rfl ?_
    rw [show nmD (.str z) = true from hn z hz]
    walk_at "m"
    exact hC _ _ _ _ .same trivial ⟨rfl, _, rfl⟩
  · rintro _ M1 ⟨rfl, s1, rfl⟩
    refine hN _ _ ?_
    clear hN
    have l64 : (qs.map (·.1)).length < 64 := by rw [List.length_map]; omega
    have lens : ∀ z ∈ qs.map (·.1), z.length ≤ sizeLine := fun z hz => by
      have := nms_len (hn z hz)
      rw [sizeLine_eq]
      omega
    unfold b_need_spans_2
    refine seq_hide fun N hN => ?_
    walk_at "m"
    rw [dic_keys]
    refine ⟨l64, lens, fun ys pm _ => ?_⟩
    walk_at "m"
    refine forL_ind (fun k ρ M' => M' = M1 ∧ ∃ s1, ρ = [some (.dct (dicK qs)), s1, none]) ⟨rfl, _, rfl⟩ ?_ ?_
    · rintro k d _ _ ek ⟨rfl, s1, rfl⟩ C hC
      obtain ⟨z, hz, rfl⟩ := List.mem_map.1 (List.mem_of_getElem? ek)
      obtain ⟨s, hs⟩ := row_of (pm.mem_iff.1 hz)
      unfold l_need_spans_2
      walk_at "m"
      refine ⟨_, _, rfl, dic_val h.nd hs, ?_⟩
      walk_at "m"
      refine is_span_ok ?_
      rw [h.sp _ hs]
      walk_at "m"
      exact hC _ _ _ _ .same trivial ⟨rfl, _, rfl⟩
    · rintro _ M2 ⟨rfl, s1, rfl⟩
      refine hN _ _ ?_
      clear hN
      unfold b_need_spans_3
      walk_at "m"
      rw [dic_keys]
      refine ⟨l64, lens, fun ys pm _ => ?_⟩
      walk_at "m"
      refine forL_ind (fun k ρ M' => M' = M2 ∧ ∃ s1, ρ = [some (.dct (dicK qs)), s1, none]) ⟨rfl, _, rfl⟩ ?_ ?_
      · rintro k d _ _ ek ⟨rfl, s1, rfl⟩ C hC
        obtain ⟨z, hz, rfl⟩ := List.mem_map.1 (List.mem_of_getElem? ek)
        obtain ⟨s, hs⟩ := row_of (pm.mem_iff.1 hz)
        unfold l_need_spans_3
        walk_at "m"
        refine ⟨dic_ok h, by rw [List.length_map]; unfold dicK; rw [List.length_map]; omega, ?_⟩
        rw [e0]
        refine lcS (still := fun _ => True) (qs.map (·.1)) (fun o => ltS o z) (fun _ => .bl false) (fun o ho R r => ?_) (fun o ho lt R r => ?_) trivial ?_
        · walk_at "m"
          exact r
        · obtain ⟨t, ht⟩ := row_of ho
          walk_at "m"
          refine ⟨_, _, rfl, dic_val h.nd hs, ?_⟩
          refine ⟨_, _, rfl, dic_val h.nd ht, ?_⟩
          refine meet_ok (h.sp _ hs) (h.sp _ ht) ?_
          rw [h.dj _ hs _ ht (fun e => ltS_ne lt e.symm)]
          exact r
        · walk_at "m"
          have eb : ∀ l : List Str, blsD (l.map fun _ => Da.bl false) = some (l.map fun _ => false) := fun l => by
            rw [show (l.map fun _ => Da.bl false) = (l.map fun _ => false).map Da.bl by rw [List.map_map]; rfl, blsD_map]
          rw [eb]
          walk_at "m"
          refine ite2 (fun c => ?_) (fun _ => hC _ _ _ _ .same trivial ⟨rfl, _, rfl⟩)
          exfalso
          obtain ⟨b, hb, e⟩ := List.any_eq_true.1 c
          obtain ⟨_, _, rfl⟩ := List.mem_map.1 hb
          cases e
      · rintro _ _ ⟨rfl, s1, rfl⟩
        exact leave_same q
end
end Z

namespace Z
open PySem PySem.Spec PyProof.Rows L2 Evl
open Ct
def restD : Option Str → Da
  | none => .non
  | some z => .str z
section
variable {M : Mem} {Q : TK} {E : XD} {qs : List Ct.Row} {rest : Option Str}
theorem dic_none {z : Str} : ∀ {qs : List Ct.Row}, (∀ r ∈ qs, r.1 ≠ z) → valD (dicK qs) (Sum.inr z) = none
  | [], _ => rfl
  | q :: l, h => by
    show valD ((Sum.inr q.1, spD q.2) :: dicK l) _ = _
    rw [valD_cons, if_neg fun e => h q (List.mem_cons_self ..) (Sum.inr.inj e)]
    exact dic_none fun r hr => h r (List.mem_cons_of_mem _ hr)
theorem need_rest_ok (hr : ∀ z, rest = some z → nmS z = true ∧ ∀ r ∈ qs, r.1 ≠ z) (q : Q .non M) : f_need_rest [.dct (dicK qs), restD rest] M Q E := by
  unfold f_need_rest m_need_rest
  walk_at "m0"
  cases rest with
  | none =>
    unfold restD
    walk_at "m"
    exact leave_same q
  | some z =>
    obtain ⟨h1, h2⟩ := hr z rfl
    unfold restD
    walk_at "m"
    refine is_name_ok rfl ?_
    rw [show nmD (.str z) = true from h1]
    walk_at "m"
    refine ite2 (fun c => ?_) (fun _ => leave_same q)
    rw [dic_none h2] at c
    cases c
end
end Z

namespace Z
open PySem PySem.Spec PyProof.Rows L2 Evl
open Ct
def ctO (qs : List Ct.Row) (rest : Option Str) : Da := .obj "Catalog" [("own_spans", .dct (dicK qs)), ("own_rest", restD rest)]
theorem Cq.perm {qs ps : List Ct.Row} (h : Cq qs) (p : ps.Perm qs) : Cq ps := ⟨(p.map _).nodup_iff.2 h.nd, by rw [p.length_eq]; exact h.n8, fun r hr => h.nm r (p.mem_iff.1 hr), fun r hr => h.sp r (p.mem_iff.1 hr), fun r hr t ht => h.dj r (p.mem_iff.1 hr) t (p.mem_iff.1 ht)⟩
/-- rows by their names, in another order -/
theorem rows_by {qs : List Ct.Row} : ∀ {ys : List Str}, ys.Perm (qs.map (·.1)) → ∃ ps : List Ct.Row, ps.Perm qs ∧ ps.map (·.1) = ys := by
  have go : ∀ (ys zs : List Str), ys.Perm zs → ∀ qs : List Ct.Row, qs.map (·.1) = zs → ∃ ps : List Ct.Row, ps.Perm qs ∧ ps.map (·.1) = ys := by
    intro ys zs p
    induction p with
    | nil => intro qs e; exact ⟨[], by rw [List.map_eq_nil_iff.1 e], rfl⟩
    | @cons x a b p ih =>
      intro qs e
      cases qs with
      | nil => cases e
      | cons q l =>
        rw [List.map_cons, List.cons.injEq] at e
        obtain ⟨ps, h1, h2⟩ := ih l e.2
        exact ⟨q :: ps, h1.cons q, by rw [List.map_cons, h2, e.1]⟩
    | swap x y l =>
      intro qs e
      match qs, e with
      | a :: b :: r, e =>
        rw [List.map_cons, List.map_cons, List.cons.injEq, List.cons.injEq] at e
        exact ⟨b :: a :: r, List.Perm.swap a b r, by rw [List.map_cons, List.map_cons, e.1, e.2.1, e.2.2]⟩
    | trans p1 p2 ih1 ih2 =>
      intro qs e
      obtain ⟨ps, h1, h2⟩ := ih2 qs e
      obtain ⟨rs, h3, h4⟩ := ih1 ps h2
      exact ⟨rs, h3.trans h1, h4⟩
  exact fun {ys} p => go ys _ p qs rfl
end Z

/-! a dict's comprehension over different texts -/
namespace Z
open PySem PySem.Spec PyProof.Rows L2 Evl
theorem putD_new {kds : List (Key × Da)} {k : Key} {d : Da} (h : ∀ p ∈ kds, p.1 ≠ k) : putD kds k d = kds ++ [(k, d)] := by
  unfold putD
  rw [if_neg]
  intro q
  obtain ⟨p, hp, e⟩ := List.any_eq_true.1 q
  exact h p hp (by simpa using e)
/-- a dict's comprehension over different texts -/
theorem dcS {still : Mem → Prop} {i : Nat} {tt : MT} {tk tv : ME} {vs : List Nat} {ρ : Sl} {M : Mem} {Q : TK} (zs : List Str) (f : Str → Da) (nd : zs.Nodup)
    (ht : ∀ z ∈ zs, ∀ R : Bool → Mem → Prop, R true M → tt ((wipeD ρ vs).set i (some (.str z))) M R) (hk : ∀ z ∈ zs, ∀ R : TK, R (.str z) M → tk ((wipeD ρ vs).set i (some (.str z))) M R) (hf : ∀ z ∈ zs, ∀ R : TK, R (f z) M → tv ((wipeD ρ vs).set i (some (.str z))) M R)
    (hS : still M) (q : Q (.dct (zs.map fun z => ((Sum.inr z : Key), f z))) M) : dcL still (hName i) tt tk tv vs ρ (zs.map Da.str) [] M Q := by
  have go : ∀ (ys xs : List Str), xs ++ ys = zs → dcL still (hName i) tt tk tv vs ρ (ys.map Da.str) (xs.map fun z => ((Sum.inr z : Key), f z)) M Q := by
    intro ys
    induction ys with
    | nil =>
      intro xs e
      rw [List.append_nil] at e
      subst e
      exact q
    | cons y ys ih =>
      intro xs e
      have hy : y ∈ zs := by rw [← e]; simp
      rw [List.map_cons]
      unfold dcL
      refine ht y hy _ (iteT (hk y hy _ (hf y hy _ ⟨Sum.inr y, rfl, hS, ?_⟩)))
      have e2 : putD (xs.map fun z => ((Sum.inr z : Key), f z)) (Sum.inr y) (f y) = (xs ++ [y]).map fun z => ((Sum.inr z : Key), f z) := by
        rw [putD_new]
        · simp
        · intro p hp e3
          obtain ⟨x, hx, rfl⟩ := List.mem_map.1 hp
          have e3 : x = y := Sum.inr.inj e3
          subst e3
          rw [← e] at nd
          have := (List.nodup_append.1 nd).2.2 x hx x (by simp)
          exact this rfl
      rw [e2]
      exact ih (xs ++ [y]) (by rw [List.append_assoc]; exact e)
  exact go zs [] rfl
end Z

namespace Z
open PySem PySem.Spec PyProof.Rows L2 Evl
open Ct
section
variable {M : Mem} {Q : TK} {E : XD} {qs : List Ct.Row} {rest : Option Str}
theorem init_ok (h : Cq qs) (hr : ∀ z, rest = some z → nmS z = true ∧ ∀ r ∈ qs, r.1 ≠ z) (l7 : qs.length ≤ 7) (q : ∀ ps : List Ct.Row, ps.Perm qs → Q .non (M ++ [ctO ps rest])) : f_Catalog_init [.cell M.length, .dct (dicK qs), restD rest] (M ++ [.obj "Catalog" []]) Q E := by
  unfold f_Catalog_init m_Catalog_init
  walk_at "m0"
  refine seq_hide fun N hN => ?_
  walk_at "m"
  refine hN _ _ ?_
  clear hN
  unfold b_Catalog_init_1
  refine seq_hide fun N hN => ?_
  walk_at "m"
  refine need_spans_ok h ?_
  refine hN _ _ ?_
  clear hN
  unfold b_Catalog_init_2
  refine seq_hide fun N hN => ?_
  walk_at "m"
  refine need_rest_ok hr ?_
  refine hN _ _ ?_
  clear hN
  unfold b_Catalog_init_3
  refine seq_hide fun N hN => ?_
  walk_at "m"
  have ld : (dicK qs).length = qs.length := List.length_map ..
  rw [ld]
  refine ite2 (fun c => absurd c (by split <;> omega)) (fun _ => hN _ _ ?_)
  clear hN
  unfold b_Catalog_init_4
  refine seq_hide fun N hN => ?_
  walk_at "m"
  rw [dic_keys]
  have hn : ∀ z ∈ qs.map (·.1), nmS z = true := fun z hz => by
    obtain ⟨s, hs⟩ := row_of hz
    exact h.nm _ hs
  refine ⟨by rw [List.length_map]; omega, fun z hz => ?_, fun ys pm _ => ?_⟩
  · have := nms_len (hn z hz)
    rw [sizeLine_eq]
    omega
  obtain ⟨ps, pp, rfl⟩ := rows_by pm
  have hp := h.perm pp
  refine ⟨by rw [List.length_map, List.length_map, pp.length_eq]; omega, ?_⟩
  refine dcS (still := fun _ => True) (ps.map (·.1)) (fun z => (valD (dicK qs) (Sum.inr z)).getD .non) hp.nd (fun z hz R r => ?_) (fun z hz R r => ?_) (fun z hz R r => ?_) trivial ?_
  · exact r
  · walk_at "m"
    exact r
  · obtain ⟨s, hs⟩ := row_of hz
    have e := dic_val h.nd (pp.mem_iff.1 hs)
    rw [show valD (dicK qs) (Sum.inr z) = some (spD s) from e] at r
    walk_at "m"
    exact ⟨_, _, rfl, e, r⟩
  · have e2 : ((ps.map (·.1)).map fun z => ((Sum.inr z : Key), (valD (dicK qs) (Sum.inr z)).getD .non)) = dicK ps := by
      unfold dicK
      rw [List.map_map]
      refine List.map_congr_left fun r hr => ?_
      have e := dic_val h.nd (pp.mem_iff.1 hr)
      simp only [Function.comp]
      rw [show valD (qs.map fun r => ((Sum.inr r.1 : Key), spD r.2)) (Sum.inr r.1) = some (spD r.2) from e]
      rfl
    rw [e2]
    walk_at "m"
    refine ⟨by decide, hN _ _ ?_⟩
    clear hN
    unfold b_Catalog_init_5
    walk_at "m"
    refine ⟨by decide, leave_same ?_⟩
    exact q ps pp
end
end Z

/-! loops over a mapped list: what is done and what is left -/
namespace Z
open PySem PySem.Spec PyProof.Rows L2 Evl
theorem forL_xs {α : Type} {still : Mem → Prop} {g : MG} {tb : MS} {D : En} {n : Nat} (f : α → Da) (xs : List α) {ρ : Sl} {M : Mem} (P : List α → List α → Sl → Mem → Prop) (h0 : P [] xs ρ M)
    (hs : ∀ p x r ρ M, xs = p ++ x :: r → P p (x :: r) ρ M → ∀ C : Sl → Mem → Prop, (∀ ρ' M' ρ3 M3, Wk n ρ' M' ρ3 M3 → still M3 → P (p ++ [x]) r ρ3 M3 → C ρ' M') → g (f x) ρ M fun ρ1 M1 => tb { nx := C, rt := D.rt, bk := D.nx, ct := C } ρ1 M1)
    (he : ∀ ρ M, P xs [] ρ M → D.nx ρ M) : forL still g tb D n (xs.map f) ρ M := by
  have go : ∀ (r p : List α) (ρ : Sl) (M : Mem), xs = p ++ r → P p r ρ M → forL still g tb D n (r.map f) ρ M := by
    intro r
    induction r with
    | nil =>
      intro p ρ M e h
      rw [List.append_nil] at e
      subst e
      exact he ρ M h
    | cons x r ih =>
      intro p ρ M e h
      rw [List.map_cons]
      unfold forL
      exact hs p x r ρ M e h _ fun ρ' M' ρ3 M3 w s p' => ⟨ρ3, M3, w, s, ih (p ++ [x]) ρ3 M3 (by rw [List.append_assoc]; exact e) p'⟩
  exact go xs [] ρ M rfl h0
/-- a comprehension over a mapped list that changes nothing -/
theorem lcL_xs {α : Type} {still : Mem → Prop} {g : MG} {tt : MT} {te : ME} {vs : List Nat} {ρ : Sl} {M : Mem} {Q : TK} (f : α → Da) (xs : List α) (p : α → Bool) (h : α → Da) (sl : α → Sl)
    (hg : ∀ x ∈ xs, ∀ R : Sl → Mem → Prop, R (sl x) M → g (f x) (wipeD ρ vs) M R)
    (ht : ∀ x ∈ xs, ∀ R : Bool → Mem → Prop, R (p x) M → tt (sl x) M R) (hf : ∀ x ∈ xs, p x = true → ∀ R : TK, R (h x) M → te (sl x) M R) (hS : still M) (q : Q (.lst ((xs.filter p).map h)) M) :
    lcL still g tt te vs ρ (xs.map f) [] M Q := by
  have go : ∀ (r : List α) (acc : List Da), (∀ x ∈ r, x ∈ xs) → (Q (.lst (acc ++ (r.filter p).map h)) M) → lcL still g tt te vs ρ (r.map f) acc M Q := by
    intro r
    induction r with
    | nil => intro acc _ q; rw [List.filter_nil, List.map_nil, List.append_nil] at q; exact q
    | cons x r ih =>
      intro acc hm q
      have hx := hm x (List.mem_cons_self ..)
      have hr : ∀ y ∈ r, y ∈ xs := fun y hy => hm y (List.mem_cons_of_mem _ hy)
      rw [List.map_cons]
      unfold lcL
      refine hg x hx _ (ht x hx _ ?_)
      cases c : p x with
      | true =>
        refine iteT (hf x hx c _ ⟨hS, ih _ hr ?_⟩)
        rw [List.filter_cons, if_pos c, List.map_cons] at q
        rw [List.append_assoc]
        exact q
      | false =>
        refine iteF ⟨hS, ih _ hr ?_⟩
        rw [List.filter_cons, if_neg (by rw [c]; simp)] at q
        exact q
  exact go xs [] (fun _ h => h) q
end Z

/-! data with dicts: closed, plain, deep (LF) -/
namespace Z
open PySem PySem.Spec PyProof.Rows L2 Evl
mutual
theorem plE_clo (n : Nat) : ∀ {d : Da}, plE d = true → cloD n d = true
  | .non, _ => rfl
  | .bl _, _ => rfl
  | .int _, _ => rfl
  | .str _, _ => rfl
  | .tup ds, p => by unfold plE at p; unfold cloD; exact plEL_clo n p
  | .lst ds, p => by unfold plE at p; unfold cloD; exact plEL_clo n p
  | .dct ks, p => by
    unfold plE at p
    rw [Bool.and_eq_true] at p
    unfold cloD
    exact plEK_clo n p.1
  | .ty _, p => by cases p
  | .gl _, p => by cases p
  | .obj _ _, p => by cases p
  | .kl _, p => by cases p
  | .kt _, p => by cases p
  | .cell _, p => by cases p
  | .exv _ _ _ _, p => by cases p
theorem plEL_clo (n : Nat) : ∀ {ds : List Da}, plEL ds = true → cloL n ds = true
  | [], _ => rfl
  | d :: ds, p => by
    unfold plEL at p
    rw [Bool.and_eq_true] at p
    unfold cloL
    rw [plE_clo n p.1, plEL_clo n p.2]
    rfl
theorem plEK_clo (n : Nat) : ∀ {ds : List (Key × Da)}, plEK ds = true → cloK n ds = true
  | [], _ => rfl
  | (_, d) :: ds, p => by
    unfold plEK at p
    rw [Bool.and_eq_true] at p
    unfold cloK
    rw [plE_clo n p.1, plEK_clo n p.2]
    rfl
end
theorem plEL_of {ds : List Da} (h : ∀ d ∈ ds, plE d = true) : plEL ds = true := by
  induction ds with
  | nil => rfl
  | cons d r ih =>
    unfold plEL
    rw [h d (List.mem_cons_self ..), ih fun x hx => h x (List.mem_cons_of_mem _ hx)]
    rfl
theorem dpEL_le {ds : List Da} {n : Nat} (h : ∀ d ∈ ds, dpE d ≤ n) : dpEL ds ≤ n := by
  induction ds with
  | nil => exact Nat.zero_le _
  | cons d r ih =>
    unfold dpEL
    exact Nat.max_le.2 ⟨h d (List.mem_cons_self ..), ih fun x hx => h x (List.mem_cons_of_mem _ hx)⟩
theorem mapO_of {g : Da → Option Da} : ∀ {ds es : List Da}, ds.length = es.length → (∀ (i : Nat) (d e : Da), ds[i]? = some d → es[i]? = some e → g d = some e) → mapO g ds = some es
  | [], [], _, _ => rfl
  | [], _ :: _, h, _ => by cases h
  | _ :: _, [], h, _ => by cases h
  | d :: ds, e :: es, h, k => by
    have h1 := k 0 d e rfl rfl
    have h2 := mapO_of (g := g) (ds := ds) (es := es) (by simpa using h) fun i d e h1 h2 => k (i + 1) d e (by simpa using h1) (by simpa using h2)
    unfold mapO
    rw [h1, h2]
theorem get_mid {α : Type} (R : List α) (x : α) (S : List α) : (R ++ x :: S)[R.length]? = some x := by simp
theorem set_mid {α : Type} (R : List α) (x y : α) (S : List α) : (R ++ x :: S).set R.length y = R ++ y :: S := by simp
theorem get_far {α : Type} (R S : List α) (x : α) (j : Nat) : (R ++ x :: S)[R.length + 1 + j]? = S[j]? := by
  rw [List.getElem?_append_right (by omega), show R.length + 1 + j - R.length = j + 1 by omega, List.getElem?_cons_succ]
theorem set_far {α : Type} (R S : List α) (x y : α) (j : Nat) : (R ++ x :: S).set (R.length + 1 + j) y = R ++ x :: S.set j y := by
  rw [List.set_append_right _ _ (by omega), show R.length + 1 + j - R.length = j + 1 by omega, List.set_cons_succ]
end Z

namespace Z
open PySem PySem.Spec PyProof.Rows L2 Evl
open Ct
section
variable {M : Mem} {Q : TK} {E : XD} {qs : List Ct.Row} {rest : Option Str} {k : Int}
theorem cloSp (n : Nat) (s : Lim × Lim) : cloD n (spD s) = true := by
  obtain ⟨a, b⟩ := s
  cases a <;> cases b <;> rfl
theorem cloDic (n : Nat) : ∀ qs : List Ct.Row, cloK n (dicK qs) = true
  | [] => rfl
  | q :: l => by
    show cloK n ((Sum.inr q.1, spD q.2) :: dicK l) = true
    unfold cloK
    rw [cloSp, cloDic n l]
    rfl
theorem cloRest (n : Nat) (rest : Option Str) : cloD n (restD rest) = true := by cases rest <;> rfl
theorem cloCt (n : Nat) (qs : List Ct.Row) (rest : Option Str) : cloD n (ctO qs rest) = true := by
  unfold ctO cloD cloF cloF cloF
  rw [show cloD n (.dct (dicK qs)) = true by unfold cloD; exact cloDic n qs, cloRest]
  rfl
def itR (r : Ct.Row) : Da := .tup [.str r.1, spD r.2]
theorem items_dic (qs : List Ct.Row) : List.map (fun p : Key × Da => Da.tup [keyV p.1, p.2]) (dicK qs) = qs.map itR := by
  unfold dicK
  rw [List.map_map]
  rfl
theorem isint_ok (q : Q (.bl true) M) : f_is_integer [.int k] M Q E := by
  unfold f_is_integer m_is_integer
  walk_at "m0"
  walk_at "m"
  exact leave_same q
theorem part_of_ok (h : Cq qs) (q : Q (restD (partL rest qs k)) M) : f_Catalog_part_of [ctO qs rest, .int k] M Q E := by
  unfold f_Catalog_part_of m_Catalog_part_of ctO
  walk_at "m0"
  refine seq_hide fun N hN => ?_
  walk_at "m"
  refine isint_ok ?_
  walk_at "m"
  refine hN _ _ ?_
  clear hN
  refine seq_hide fun N hN => ?_
  walk_at "m"
  refine ⟨dic_ok h, ?_⟩
  rw [items_dic]
  refine forL_xs itR qs (fun p r ρ M' => M' = M ∧ partL rest qs k = partL rest r k ∧ ∃ s2 s3, ρ = [some (.obj "Catalog" [("own_spans", .dct (dicK qs)), ("own_rest", restD rest)]), some (.int k), s2, s3]) ⟨rfl, rfl, _, _, rfl⟩ ?_ ?_
  · rintro p ⟨z, s⟩ r ρ M1 e ⟨rfl, ep, s2, s3, rfl⟩ C hC
    unfold itR
    walk_at "m"
    refine has_key_ok ?_
    have ep : partL rest qs k = if hasB s k = true then some z else partL rest r k := ep
    by_cases c : hasB s k = true
    · rw [c]
      rw [if_pos c] at ep
      walk_at "m"
      rw [ep] at q
      exact leave_same q
    · rw [if_neg c] at ep
      rw [Bool.eq_false_iff.2 c]
      walk_at "m"
      exact hC _ _ _ _ .same trivial ⟨rfl, ep, _, _, rfl⟩
  · rintro ρ M1 ⟨rfl, ep, s2, s3, rfl⟩
    refine hN _ _ ?_
    clear hN
    walk_at "m"
    rw [ep] at q
    exact leave_same q
end
end Z

namespace Z
open PySem PySem.Spec PyProof.Rows L2 Evl
open Ct
section
variable {M : Mem} {Q : TK} {E : XD} {qs rs : List Ct.Row} {rest : Option Str} {k : Int}
def nmR (r : Ct.Row) : Da := .str r.1
theorem fold_mem : ∀ {l f : List Ct.Row} {x : Ct.Row}, x ∈ l.foldl insR f → x ∈ f ∨ x ∈ l
  | [], _, _, h => .inl h
  | y :: l, f, x, h => by
    rcases fold_mem (l := l) h with h | h
    · unfold insR at h
      simp only [List.append_assoc, List.mem_append, List.mem_cons, List.not_mem_nil, or_false] at h
      rcases h with h | h | h
      · exact .inl (List.mem_of_mem_take h)
      · exact .inr (by rw [h]; exact List.mem_cons_self ..)
      · exact .inl (List.mem_of_mem_drop h)
    · exact .inr (List.mem_cons_of_mem _ h)
theorem ins_len (f : List Ct.Row) (x : Ct.Row) : (insR f x).length = f.length + 1 := by
  have := List.length_filter_le (fun y => befR y x) f
  unfold insR
  rw [List.length_append, List.length_append, List.length_take, List.length_drop]
  simp only [List.length_cons, List.length_nil]
  omega
theorem fold_len : ∀ (l f : List Ct.Row), (l.foldl insR f).length = f.length + l.length
  | [], _ => rfl
  | x :: l, f => by
    rw [List.foldl_cons, fold_len l, ins_len, List.length_cons]
    omega
theorem in_order_ok (h : Cq qs) (q : Q (.cell M.length) (M ++ [.lst ((qs.foldl insR []).map nmR)])) : f_Catalog_in_order [ctO qs rest] M Q E := by
  unfold f_Catalog_in_order m_Catalog_in_order ctO
  walk_at "m0"
  refine seq_hide fun N hN => ?_
  walk_at "m"
  refine hN _ _ ?_
  clear hN
  refine seq_hide fun N hN => ?_
  walk_at "m"
  refine ⟨dic_ok h, ?_⟩
  rw [items_dic]
  have h20 := h.n8
  refine forL_xs itR qs (fun p r ρ M' => M' = M ++ [.lst ((p.foldl insR []).map nmR)] ∧ ∃ s2 s3 s4, ρ = [some (.obj "Catalog" [("own_spans", .dct (dicK qs)), ("own_rest", restD rest)]), some (.cell M.length), s2, s3, s4, none]) ⟨rfl, _, _, _, rfl⟩ ?_ ?_
  · rintro p ⟨z, s⟩ r ρ _ e ⟨rfl, s2, s3, s4, rfl⟩ C hC
    have hp : ∀ x ∈ p.foldl insR [], x ∈ qs := fun x hx => by
      rw [e]
      rcases fold_mem hx with hx | hx
      · cases hx
      · exact List.mem_append_left _ hx
    have lp : (p.foldl insR []).length ≤ 20 := by
      rw [fold_len]
      have := congrArg List.length e
      rw [List.length_append, List.length_cons] at this
      simp only [List.length_nil]
      omega
    have eS : (p ++ [(z, s)]).foldl insR [] = insR (p.foldl insR []) (z, s) := by rw [List.foldl_append]; rfl
    rw [eS] at hC
    generalize p.foldl insR [] = f at hp lp hC ⊢
    unfold itR
    walk_at "g"
    refine seq_hide fun N hN => ?_
    walk_at "m"
    refine ⟨by rw [List.length_map]; omega, ?_⟩
    refine lcL_xs nmR f (fun y => befR y (z, s)) nmR (fun y => [some (.obj "Catalog" [("own_spans", .dct (dicK qs)), ("own_rest", restD rest)]), some (.cell M.length), some (.str z), some (spD s), s4, some (.str y.1)]) (fun x hx R r => ?_) (fun x hx R r => ?_) (fun x hx _ R r => ?_) (by rw [get_last]; rfl) ?_
    · exact r
    · walk_at "m"
      exact ⟨_, _, rfl, dic_val h.nd (hp x hx), before_ok r⟩
    · walk_at "m"
      exact r
    · walk_at "m"
      refine hN _ _ ?_
      clear hN
      have lf := List.length_filter_le (fun y => befR y (z, s)) f
      walk_at "m"
      refine ⟨⟨_, rfl⟩, by rw [List.length_map, sizeLine_eq]; omega, by omega, by rw [List.length_map]; omega, hC _ _ _ _ .same trivial ⟨?_, _, _, _, rfl⟩⟩
      unfold insR
      rw [List.map_append, List.map_append, List.map_take, List.map_drop, List.length_map]
      rfl
  · rintro ρ _ ⟨rfl, s2, s3, s4, rfl⟩
    refine hN _ _ ?_
    clear hN
    walk_at "m"
    exact leave_same q
end
end Z

namespace Z
open PySem PySem.Spec PyProof.Rows L2 Evl
open Ct
section
variable {M : Mem} {Q : TK} {E : XD} {qs rs : List Ct.Row} {rest : Option Str} {k : Int}
theorem nodup_map {α β : Type} {f : α → β} : ∀ {l : List α}, (l.map f).Nodup → l.Nodup
  | [], _ => .nil
  | a :: l, h => by
    rw [List.map_cons, List.nodup_cons] at h
    exact List.nodup_cons.2 ⟨fun m => h.1 (List.mem_map.2 ⟨a, m, rfl⟩), nodup_map h.2⟩
theorem limD_none : limD none = .non := rfl
theorem limD_some (i : Int) : limD (some i) = .int i := rfl
def stD (s : Stg) : Da := .tup [limD s.1, limD s.2.1, restD s.2.2]
theorem stc_cons {b : Bool} {low f l : Lim} {z : Str} {r : List Ct.Row} : stc rest b low ((z, f, l) :: r) = (if f ≠ none ∧ (b = false ∨ f ≠ low) then [(low, f, rest)] else []) ++ (f, l, some z) :: stc rest true l r := rfl
theorem str_body {D : En} {acc : List Stg} {b : Bool} {low f l : Lim} {z : Str} {G : Da} {s5 s6 : Option Da} (la : acc.length ≤ 1000) (hv : valD (dicK qs) (Sum.inr z) = some (spD (f, l)))
    (k : D.nx [some (ctO qs rest), some (.cell M.length), some (limD l), some (.bl true), some (.str z), some (limD f), some (limD l)] (M ++ [.lst ((acc ++ (if f ≠ none ∧ (b = false ∨ f ≠ low) then [(low, f, rest)] else []) ++ [(f, l, some z)]).map stD), G])) :
    l_Catalog_stretches_1 D [some (ctO qs rest), some (.cell M.length), some (limD low), some (.bl b), some (.str z), s5, s6] (M ++ [.lst (acc.map stD), G]) := by
  unfold l_Catalog_stretches_1 ctO
  refine seq_hide fun N hN => ?_
  walk_at "m"
  refine ⟨_, _, rfl, hv, ?_⟩
  unfold spD
  walk_at "m"
  refine hN _ _ ?_
  clear hN
  unfold b_Catalog_stretches_L1_1
  refine cut_hide fun N hN => ?_
  have la2 : acc.length < sizeLine := by rw [sizeLine_eq]; omega
  have key : N [some (ctO qs rest), some (.cell M.length), some (limD low), some (.bl b), some (.str z), some (limD f), some (limD l)] (M ++ [.lst ((acc ++ (if f ≠ none ∧ (b = false ∨ f ≠ low) then [(low, f, rest)] else [])).map stD), G]) := by
    refine hN _ _ ?_
    clear hN
    generalize eA : acc ++ (if f ≠ none ∧ (b = false ∨ f ≠ low) then [(low, f, rest)] else []) = A at k ⊢
    have lA : A.length ≤ 1001 := by
      rw [← eA, List.length_append]
      split <;> simp <;> omega
    unfold b_Catalog_stretches_L1_2 ctO
    refine seq_hide fun N hN => ?_
    walk_at "m"
    refine ⟨⟨_, rfl⟩, by rw [List.length_map, sizeLine_eq]; omega, hN _ _ ?_⟩
    clear hN
    rw [List.map_append] at k
    unfold b_Catalog_stretches_L1_3 b_Catalog_stretches_L1_4
    walk_at "m"
    exact k
  clear hN
  unfold ctO at key
  cases f with
  | none =>
    simp only [limD_none] at key ⊢
    walk_at "m"
    have e : (if (none : Lim) ≠ none ∧ (b = false ∨ (none : Lim) ≠ low) then [(low, (none : Lim), rest)] else []) = [] := if_neg (by simp)
    rw [e, List.append_nil] at key
    exact key
  | some i =>
    have hit : (b = false ∨ (some i : Lim) ≠ low) → acc.length < sizeLine ∧ N [some (.obj "Catalog" [("own_spans", .dct (dicK qs)), ("own_rest", restD rest)]), some (.cell M.length), some (limD low), some (.bl b), some (.str z), some (.int i), some (limD l)] (M ++ [.lst ((acc.map stD) ++ [.tup [limD low, .int i, restD rest]]), G]) := fun c => by
      rw [if_pos ⟨by simp, c⟩, List.map_append] at key
      exact ⟨la2, key⟩
    have miss : ¬ (b = false ∨ (some i : Lim) ≠ low) → N [some (.obj "Catalog" [("own_spans", .dct (dicK qs)), ("own_rest", restD rest)]), some (.cell M.length), some (limD low), some (.bl b), some (.str z), some (.int i), some (limD l)] (M ++ [.lst (acc.map stD), G]) := fun c => by
      rw [if_neg (fun q => c q.2), List.append_nil] at key
      exact key
    cases b with
    | false =>
      simp only [limD_some]
      walk_at "m"
      rw [List.length_map]
      exact ⟨⟨_, rfl⟩, hit (.inl rfl)⟩
    | true =>
      cases low with
      | none =>
        simp only [limD_some, limD_none] at hit ⊢
        walk_at "m"
        rw [List.length_map]
        exact ⟨⟨_, rfl⟩, hit (.inr (by simp))⟩
      | some j =>
        simp only [limD_some, limD_none] at hit miss ⊢
        walk_at "m"
        rw [List.length_map]
        refine ite2 (fun c => ⟨⟨_, rfl⟩, hit (.inr fun e => c (Option.some.inj e))⟩) (fun c => miss ?_)
        rintro (e | e)
        · cases e
        · exact c fun q => e (by rw [q])
theorem stretches_ok (A : AscF rs) (h : Cq qs) (pm : qs.Perm rs) (q : Q (.cell M.length) (M ++ [.lst ((stc rest false none rs).map stD), .lst (rs.map nmR)])) : f_Catalog_stretches [ctO qs rest] M Q E := by
  have ndr : rs.Nodup := by
    have := (pm.map (·.1)).nodup_iff.1 h.nd
    exact nodup_map this
  have eo : qs.foldl insR [] = rs := ins_all (srt_F A) ndr pm
  have l20 : rs.length ≤ 20 := by rw [← pm.length_eq]; exact h.n8
  unfold f_Catalog_stretches m_Catalog_stretches
  walk_at "m0"
  refine seq_hide fun N hN => ?_
  walk_at "m"
  refine hN _ _ ?_
  clear hN
  unfold b_Catalog_stretches_1
  refine seq_hide fun N hN => ?_
  walk_at "m"
  refine hN _ _ ?_
  clear hN
  unfold b_Catalog_stretches_2
  refine seq_hide fun N hN => ?_
  walk_at "m"
  refine hN _ _ ?_
  clear hN
  unfold b_Catalog_stretches_3
  refine seq_hide fun N hN => ?_
  unfold ctO
  walk_at "m"
  refine in_order_ok (qs := qs) (rest := rest) h ?_
  rw [eo]
  walk_at "m"
  refine forL_xs nmR rs (fun p r ρ M' => ∃ acc b low s4 s5 s6, stc rest false none rs = acc ++ stc rest b low r ∧ acc.length ≤ 2 * p.length ∧ M' = M ++ [.lst (acc.map stD), .lst (rs.map nmR)] ∧ ρ = [some (ctO qs rest), some (.cell M.length), some (limD low), some (.bl b), s4, s5, s6])
    ⟨[], false, none, _, _, _, rfl, Nat.zero_le _, by simp, rfl⟩ ?_ ?_
  · rintro p ⟨z, f, l⟩ r ρ _ e ⟨acc, b, low, s4, s5, s6, ea, la, rfl, rfl⟩ C hC
    have lp : p.length ≤ 20 := by
      have := congrArg List.length e
      rw [List.length_append, List.length_cons] at this
      omega
    unfold nmR
    walk_at "g"
    refine str_body (by omega) (dic_val (r := (z, f, l)) h.nd (pm.mem_iff.2 (by rw [e]; simp))) ?_
    refine hC _ _ _ _ .same (by simp; intros; rfl) ⟨_, true, l, _, _, _, ?_, ?_, rfl, rfl⟩
    · rw [ea, stc_cons, List.append_assoc, List.append_assoc]
      rfl
    · rw [List.length_append, List.length_append, List.length_append]
      simp only [List.length_cons, List.length_nil]
      split <;> simp <;> omega
  · rintro ρ _ ⟨acc, b, low, s4, s5, s6, ea, la, rfl, rfl⟩
    refine hN _ _ ?_
    clear hN
    unfold b_Catalog_stretches_4
    refine cut_hide fun N hN => ?_
    have e0 : stc rest b low [] = if b = false ∨ low ≠ none then [(low, none, rest)] else [] := rfl
    rw [e0] at ea
    rw [ea] at q
    have key : N [some (ctO qs rest), some (.cell M.length), some (limD low), some (.bl b), s4, s5, s6] (M ++ [.lst ((acc ++ if b = false ∨ low ≠ none then [(low, none, rest)] else []).map stD), .lst (rs.map nmR)]) := by
      refine hN _ _ ?_
      clear hN
      unfold b_Catalog_stretches_5
      walk_at "m"
      exact leave_same q
    clear hN
    unfold ctO at key ⊢
    have la2 : (acc.map stD).length < sizeLine := by rw [List.length_map, sizeLine_eq]; omega
    cases b with
    | false =>
      rw [if_pos (.inl rfl), List.map_append] at key
      walk_at "m"
      exact ⟨⟨_, rfl⟩, la2, key⟩
    | true =>
      cases low with
      | none =>
        rw [if_neg (by simp), List.append_nil] at key
        simp only [limD_none] at key ⊢
        walk_at "m"
        exact key
      | some j =>
        rw [if_pos (.inr (by simp)), List.map_append] at key
        simp only [limD_some] at key ⊢
        walk_at "m"
        exact ⟨⟨_, rfl⟩, la2, key⟩
end
end Z

namespace Z
open PySem PySem.Spec PyProof.Rows L2 Evl
open Ct
section
variable {M : Mem} {Q : TK} {E : XD} {qs rs : List Ct.Row} {rest : Option Str} {k : Int} {s : Lim × Lim} {left : List Str}
def rowD (r : Ct.Row) : Da := .lst [.str r.1, spD r.2]
def modD (rs : List Ct.Row) (rest : Option Str) (left : List Str) : Da := .lst [.lst (rs.map rowD), restD rest, .lst (left.map Da.str)]
theorem law_has_ok (q : Q (.bl (hasB s k)) M) : f_law_has [spD s, .int k] M Q E := by
  unfold f_law_has m_law_has
  walk_at "m0"
  unfold spD
  walk_at "m"
  obtain ⟨a, b⟩ := s
  cases a with
  | none =>
    cases b with
    | none => simp only [limD_none]; walk_at "m"; exact leave_same q
    | some j => simp only [limD_none, limD_some]; walk_at "m"; exact leave_same q
  | some i =>
    have e : hasB (some i, b) k = (decide (i ≤ k) && hasB (none, b) k) := rfl
    rw [e] at q
    simp only [limD_some]
    walk_at "m"
    refine ite2 (fun c => ?_) (fun c => ?_)
    · rw [decide_eq_true c, Bool.true_and] at q
      cases b with
      | none => simp only [limD_none]; walk_at "m"; exact leave_same q
      | some j => simp only [limD_some]; walk_at "m"; exact leave_same q
    · rw [decide_eq_false c, Bool.false_and] at q
      exact leave_same q
theorem law_part_ok (q : Q (restD (partL rest rs k)) M) : f_law_part [modD rs rest left, .int k] M Q E := by
  unfold f_law_part m_law_part modD
  walk_at "m0"
  refine seq_hide fun N hN => ?_
  walk_at "m"
  refine forL_xs rowD rs (fun p r ρ M' => M' = M ∧ partL rest rs k = partL rest r k ∧ ∃ s2 s3, ρ = [some (modD rs rest left), some (.int k), s2, s3]) ⟨rfl, rfl, _, _, rfl⟩ ?_ ?_
  · rintro p ⟨z, s⟩ r ρ M1 e ⟨rfl, ep, s2, s3, rfl⟩ C hC
    unfold rowD
    walk_at "m"
    refine law_has_ok ?_
    have ep : partL rest rs k = if hasB s k = true then some z else partL rest r k := ep
    by_cases c : hasB s k = true
    · rw [c]
      rw [if_pos c] at ep
      walk_at "m"
      rw [ep] at q
      exact leave_same q
    · rw [if_neg c] at ep
      rw [Bool.eq_false_iff.2 c]
      walk_at "m"
      exact hC _ _ _ _ .same trivial ⟨rfl, ep, _, _, rfl⟩
  · rintro ρ M1 ⟨rfl, ep, s2, s3, rfl⟩
    refine hN _ _ ?_
    clear hN
    unfold modD
    walk_at "m"
    rw [ep] at q
    exact leave_same q
/-- keys within a stretch -/
theorem law_inner_ok {a b : Lim} (lt : ltL a b) (q : ∀ ks : List Int, (∀ k ∈ ks, hasB (a, b) k = true) → ks.length ≤ 10 → Q (.lst (ks.map Da.int)) M) : f_law_inner [limD a, limD b] M Q E := by
  unfold f_law_inner m_law_inner
  walk_at "m0"
  have P : CPow 10 29 := ⟨by decide, by decide, by decide⟩
  cases a with
  | none =>
    cases b with
    | none =>
      simp only [limD_none]
      walk_at "m"
      exact ⟨P, P, leave_same (q [_, _, _] (fun k _ => rfl) (by simp))⟩
    | some h =>
      simp only [limD_none, limD_some]
      walk_at "m"
      refine ⟨P, leave_same (q [_, _] (fun k hk => ?_) (by simp))⟩
      simp only [List.mem_cons, List.not_mem_nil, or_false] at hk
      show (true && decide (k < h)) = true
      rw [Bool.true_and, decide_eq_true_eq]
      rcases hk with rfl | rfl
      · omega
      · have : (10 : Int) ^ (29 : Int).toNat = 100000000000000000000000000000 := by decide
        omega
  | some l =>
    cases b with
    | none =>
      simp only [limD_none, limD_some]
      walk_at "m"
      refine ⟨P, leave_same (q [_, _] (fun k hk => ?_) (by simp))⟩
      simp only [List.mem_cons, List.not_mem_nil, or_false] at hk
      show (decide (l ≤ k) && true) = true
      rw [Bool.and_true, decide_eq_true_eq]
      rcases hk with rfl | rfl
      · omega
      · have : (10 : Int) ^ (29 : Int).toNat = 100000000000000000000000000000 := by decide
        omega
    | some h =>
      have lh := lt l h rfl rfl
      simp only [limD_some]
      walk_at "m"
      refine ⟨⟨by decide, by decide⟩, leave_same (q [_, _, _] (fun k hk => ?_) (by simp))⟩
      simp only [List.mem_cons, List.not_mem_nil, or_false] at hk
      show (decide (l ≤ k) && decide (k < h)) = true
      rw [Bool.and_eq_true, decide_eq_true_eq, decide_eq_true_eq]
      rcases hk with rfl | rfl | rfl <;> omega
theorem eq_rest {x y : Option Str} : eqD (lookE M (restD x)) (lookE M (restD y)) = decide (x = y) := by
  cases x with
  | none => cases y <;> rfl
  | some a =>
    cases y with
    | none => rfl
    | some b =>
      show decide (a = b) = _
      rw [decide_eq_decide.2 ⟨fun h => by rw [h], fun h => Option.some.inj h⟩]
theorem pd_rest (x : Option Str) : pd (lookE M (restD x)) := by cases x <;> exact ⟨rfl, Nat.zero_le _⟩
theorem anyEq_ints (z : Int) (l : List Int) : anyEq (.int z) (l.map Da.int) = decide (z ∈ l) := by
  induction l with
  | nil => rfl
  | cons a l ih =>
    have e : anyEq (.int z) ((a :: l).map Da.int) = (eqD (.int a) (.int z) || anyEq (.int z) (l.map Da.int)) := rfl
    rw [e, ih]
    show (decide (a = z) || _) = _
    rw [Bool.eq_iff_iff, Bool.or_eq_true, decide_eq_true_eq, decide_eq_true_eq, decide_eq_true_eq, List.mem_cons]
    exact ⟨fun h => h.imp Eq.symm id, fun h => h.imp Eq.symm id⟩
theorem pd_ints (l : List Int) : pdL (l.map Da.int) := ⟨plL_map (fun _ => rfl) l, by rw [dpL_map (fun _ => rfl)]; omega⟩
/-- the limits that the law gathers -/
theorem law_count_ok (hl : rs.length ≤ 20) (q : Q (.int (1 + ((((lims [] rs).filter fun L => !decide (partL rest rs (L - 1) = partL rest rs L)).length : Nat) : Int))) M) : f_law_count [modD rs rest left] M Q E := by
  unfold f_law_count m_law_count
  walk_at "m0"
  refine seq_hide fun N hN => ?_
  walk_at "m"
  refine hN _ _ ?_
  clear hN
  unfold b_law_count_1 modD
  refine seq_hide fun N hN => ?_
  walk_at "m"
  refine forL_xs rowD rs (fun p r ρ M' => M' = M ∧ ∃ acc s2 s3, lims [] rs = lims acc r ∧ acc.length ≤ 2 * p.length ∧ ρ = [some (modD rs rest left), some (.lst (acc.map Da.int)), s2, s3, none]) ⟨rfl, [], _, _, rfl, Nat.zero_le _, rfl⟩ ?_ ?_
  · rintro p ⟨z, lo, hi⟩ r ρ M1 e ⟨rfl, acc, s2, s3, ea, la, rfl⟩ C hC
    have lp : p.length ≤ 20 := by
      have := congrArg List.length e
      rw [List.length_append, List.length_cons] at this
      omega
    have ll : (limS acc lo hi).length ≤ acc.length + 2 := by
      unfold limS
      rw [List.length_append]
      have := List.length_filter_le (fun x => !decide (x ∈ acc)) (([lo, hi] : List Lim).filterMap id)
      have := List.length_filterMap_le id ([lo, hi] : List Lim)
      simp only [List.length_cons, List.length_nil] at this
      omega
    unfold rowD l_law_count_1
    walk_at "g"
    unfold spD
    walk_at "m"
    refine lcL_xs limD [lo, hi] (fun x => match x with | none => false | some i => !decide (i ∈ acc)) limD (fun x => [some (modD rs rest left), some (.lst (acc.map Da.int)), some (.str z), some (spD (lo, hi)), some (limD x)]) (fun x hx R r => ?_) (fun x hx R r => ?_) (fun x hx _ R r => ?_) trivial ?_
    · exact r
    · cases x with
      | none => simp only [limD_none]; walk_at "m"; exact r
      | some i =>
        simp only [limD_some]
        walk_at "m"
        refine ⟨pd_ints acc, ?_⟩
        rw [anyEq_ints]
        exact r
    · walk_at "m"
      exact r
    · obtain ⟨nw, e1, e2, l1⟩ : ∃ nw : List Int, (([lo, hi] : List Lim).filter fun x => match x with | none => false | some i => !decide (i ∈ acc)).map limD = nw.map Da.int ∧ limS acc lo hi = acc ++ nw ∧ nw.length ≤ 2 := by
        refine ⟨(([lo, hi] : List Lim).filterMap id).filter fun x => !decide (x ∈ acc), ?_, rfl, ?_⟩
        · cases lo with
          | none =>
            cases hi with
            | none => rfl
            | some h => by_cases c : h ∈ acc <;> simp [c, limD]
          | some l =>
            cases hi with
            | none => by_cases c : l ∈ acc <;> simp [c, limD]
            | some h => by_cases c : l ∈ acc <;> by_cases c2 : h ∈ acc <;> simp [c, c2, limD]
        · have := List.length_filter_le (fun x => !decide (x ∈ acc)) (([lo, hi] : List Lim).filterMap id)
          have := List.length_filterMap_le id ([lo, hi] : List Lim)
          simp only [List.length_cons, List.length_nil] at this
          omega
      rw [e1]
      walk_at "m"
      rw [← List.map_append, ← e2]
      refine ⟨by rw [List.length_map, List.length_map, sizeLine_eq]; omega, hC _ _ _ _ .same trivial ⟨rfl, limS acc lo hi, _, _, ea, by rw [List.length_append]; simp only [List.length_cons, List.length_nil]; omega, rfl⟩⟩
  · rintro ρ M1 ⟨rfl, acc, s2, s3, ea, la, rfl⟩
    refine hN _ _ ?_
    clear hN
    have ea : lims [] rs = acc := ea
    rw [ea] at q
    unfold b_law_count_2 modD
    walk_at "m"
    refine ⟨by rw [List.length_map]; omega, ?_⟩
    refine lcL_xs Da.int acc (fun L => !decide (partL rest rs (L - 1) = partL rest rs L)) Da.int (fun x => [some (modD rs rest left), some (.lst (acc.map Da.int)), s2, s3, some (.int x)]) (fun x hx R r => ?_) (fun x hx R r => ?_) (fun x hx _ R r => ?_) trivial ?_
    · exact r
    · walk_at "m"
      refine law_part_ok (left := left) ?_
      refine law_part_ok (left := left) ?_
      exact ⟨pd_rest _, pd_rest _, by rw [eq_rest]; exact r⟩
    · walk_at "m"
      exact r
    · walk_at "m"
      rw [List.length_map]
      exact leave_same q
end
end Z

/-! k07: rows that grow -/
namespace Z
open PySem PySem.Spec PyProof.Rows L2 Evl
namespace Ct
theorem asc_snocA {z : Str} {l h : Int} (lh : l < h) : ∀ {r : List Row} {a : Lim}, AscA a r → (r = [] → ∃ x, a = some x ∧ x ≤ l) → (∀ x, r.getLast? = some x → ∃ g, x.2.2 = some g ∧ g ≤ l) → AscA a (r ++ [(z, some l, some h)])
  | [], a, _, h1, _ => by
    obtain ⟨x, rfl, hx⟩ := h1 rfl
    exact ⟨⟨x, l, rfl, rfl, hx⟩, (fun _ _ e1 e2 => by cases e1; cases e2; exact lh), trivial⟩
  | (y, lo, hi) :: r, a, A, _, h2 => by
    obtain ⟨c, lt, A2⟩ := A
    refine ⟨c, lt, asc_snocA lh A2 (fun e => ?_) fun x hx => ?_⟩
    · subst e
      exact h2 _ rfl
    · refine h2 x ?_
      cases r with
      | nil => cases hx
      | cons u v => rw [List.getLast?_cons_cons]; exact hx
theorem asc_snoc {z : Str} {l h : Int} (lh : l < h) {rs : List Row} (A : AscF rs) (h2 : ∀ x, rs.getLast? = some x → ∃ g, x.2.2 = some g ∧ g ≤ l) : AscF (rs ++ [(z, some l, some h)]) := by
  cases rs with
  | nil => exact ⟨(fun _ _ e1 e2 => by cases e1; cases e2; exact lh), trivial⟩
  | cons y r =>
    obtain ⟨y, lo, hi⟩ := y
    obtain ⟨lt, A2⟩ := A
    refine ⟨lt, asc_snocA lh A2 (fun e => ?_) fun x hx => ?_⟩
    · subst e
      exact h2 _ rfl
    · refine h2 x ?_
      cases r with
      | nil => cases hx
      | cons u v => rw [List.getLast?_cons_cons]; exact hx
theorem asc_head {z : Str} {lo hi : Lim} {r : List Row} (A : AscF ((z, lo, hi) :: r)) : AscF ((z, none, hi) :: r) := ⟨(fun _ _ e => by cases e), A.2⟩
theorem asc_lastA {z : Str} {lo hi : Lim} : ∀ {r : List Row} {a : Lim}, AscA a (r ++ [(z, lo, hi)]) → AscA a (r ++ [(z, lo, none)])
  | [], _, A => ⟨A.1, (fun _ _ _ e => by cases e), trivial⟩
  | (_, _, _) :: r, _, A => ⟨A.1, A.2.1, asc_lastA A.2.2⟩
theorem asc_last {z : Str} {lo hi : Lim} {r : List Row} (A : AscF (r ++ [(z, lo, hi)])) : AscF (r ++ [(z, lo, none)]) := by
  cases r with
  | nil => exact ⟨(fun _ _ _ e => by cases e), trivial⟩
  | cons y r => exact ⟨A.1, asc_lastA A.2⟩
/-- rows behind one another -/
theorem asc_pairA : ∀ {r : List Row} {g : Int}, AscA (some g) r → r.Pairwise fun a b => ∃ h x, a.2.2 = some h ∧ b.2.1 = some x ∧ h ≤ x
  | [], _, _ => .nil
  | (z, lo, hi) :: r, g, A => by
    obtain ⟨_, lt, A2⟩ := A
    cases hi with
    | none =>
      cases r with
      | nil => exact .cons (fun y hy => by cases hy) .nil
      | cons y r =>
        obtain ⟨z2, lo2, hi2⟩ := y
        obtain ⟨⟨_, _, e, _⟩, _⟩ := A2
        cases e
    | some h =>
      refine .cons (fun y hy => ?_) (asc_pairA A2)
      obtain ⟨x, e, hx⟩ := (srt_A A2).2 y hy
      exact ⟨h, x, rfl, e, hx⟩
theorem asc_pair {rs : List Row} (A : AscF rs) : rs.Pairwise fun a b => ∃ h x, a.2.2 = some h ∧ b.2.1 = some x ∧ h ≤ x := by
  cases rs with
  | nil => exact .nil
  | cons y r =>
    obtain ⟨z, lo, hi⟩ := y
    obtain ⟨lt, A2⟩ := A
    cases hi with
    | none =>
      cases r with
      | nil => exact .cons (fun y hy => by cases hy) .nil
      | cons y r =>
        obtain ⟨z2, lo2, hi2⟩ := y
        obtain ⟨⟨_, _, e, _⟩, _⟩ := A2
        cases e
    | some h =>
      refine .cons (fun y hy => ?_) (asc_pairA A2)
      obtain ⟨x, e, hx⟩ := (srt_A A2).2 y hy
      exact ⟨h, x, rfl, e, hx⟩
theorem asc_ltA : ∀ {r : List Row} {a : Lim}, AscA a r → ∀ x ∈ r, ltL x.2.1 x.2.2
  | [], _, _, _, h => by cases h
  | (z, lo, hi) :: r, _, A, x, h => by
    rcases List.mem_cons.1 h with rfl | h
    · exact A.2.1
    · exact asc_ltA A.2.2 x h
theorem asc_lt {rs : List Row} (A : AscF rs) : ∀ x ∈ rs, ltL x.2.1 x.2.2 := by
  cases rs with
  | nil => intro x h; cases h
  | cons y r =>
    intro x h
    rcases List.mem_cons.1 h with rfl | h
    · exact A.1
    · exact asc_ltA A.2 x h
end Ct
open Ct
theorem cq_of {rs : List Ct.Row} (A : AscF rs) (nd : (rs.map (·.1)).Nodup) (n8 : rs.length ≤ 20) (nm : ∀ r ∈ rs, nmS r.1 = true) : Cq rs := ⟨nd, n8, nm, fun r hr => spB_lt (asc_lt A r hr), by
  have := asc_pair A
  clear A nm n8 nd
  induction rs with
  | nil => intro r hr; cases hr
  | cons y l ih =>
    cases this with
    | cons h1 h2 =>
      intro r hr t ht ne
      rcases List.mem_cons.1 hr with rfl | hr'
      · rcases List.mem_cons.1 ht with rfl | ht'
        · exact absurd rfl ne
        · obtain ⟨h, x, e1, e2, le⟩ := h1 t ht'
          exact (com_no e1 e2 le).1
      · rcases List.mem_cons.1 ht with rfl | ht'
        · obtain ⟨h, x, e1, e2, le⟩ := h1 r hr'
          exact (com_no e1 e2 le).2
        · exact ih h2 r hr' t ht' ne⟩
end Z

namespace Z
open PySem PySem.Spec PyProof.Rows L2 Evl
open Ct
section
variable {Q : TK} {E : XD} {rs : List Ct.Row} {n : Nat} {b : Da} {R : Mem}
/-- the cells of rows -/
def rcL (n m : Nat) : List Da := (List.range m).map fun j => Da.cell (n + j)
theorem rcL_succ (n m : Nat) : rcL n (m + 1) = rcL n m ++ [.cell (n + m)] := by unfold rcL; rw [List.range_succ, List.map_append]; rfl
theorem rcL_len (n m : Nat) : (rcL n m).length = m := by unfold rcL; rw [List.length_map, List.length_range]
def memR (b : Da) (R : Mem) (rs : List Ct.Row) : Mem := b :: (R ++ .lst (rcL (R.length + 2) rs.length) :: rs.map rowD)
theorem model_turn {D : En} {names : List Str} {g a : Int} {s6 s7 s8 : Option Da} {k : Nat} {z : Str} (B : BoxD n b) (hn : n ≤ 100000) (hg : 0 < g) (hg2 : g.natAbs < 2 ^ 100) (hk : names[rs.length]? = some z) (lk : rs.length ≤ 8)
    (q : ∀ l h b' s7, BoxD (n + 10) b' → a ≤ l → l < h → D.nx [some (.cell 0), some (.int 7), some (.lst (names.map Da.str)), some (.int g), some (.int h), some (.cell (R.length + 1)), some (.int rs.length), s7, s8] (memR b' R (rs ++ [(z, some l, some h)]))) :
    l_law_model_1 D [some (.cell 0), some (.int 7), some (.lst (names.map Da.str)), some (.int g), some (.int a), some (.cell (R.length + 1)), some (.int rs.length), s7, s8] (memR b R rs) := by
  unfold l_law_model_1 memR
  refine seq_hide fun N hN => ?_
  walk_at "m"
  refine take_ok B (by omega) (by decide) (by decide +kernel) fun d0 b1 B1 e0 e1 => ?_
  walk_at "m"
  refine take_ok B1 (by omega) (by decide) (by decide +kernel) fun d1 b2 B2 f0 f1 => ?_
  have ec : ∃ c : Int, 0 ≤ c ∧ c.natAbs < 2 ^ 10 ∧ atI [Da.int 0, Da.int 0, Da.int (1 + d0)] d1 = some (.int c) := by
    have : d1 = 0 ∨ d1 = 1 ∨ d1 = 2 := by omega
    rcases this with rfl | rfl | rfl
    · exact ⟨0, by decide, by decide, rfl⟩
    · exact ⟨0, by decide, by decide, rfl⟩
    · exact ⟨_, by omega, by omega, rfl⟩
  obtain ⟨c, c0, c1, ec⟩ := ec
  try walk_at "m"
  rw [ec]
  refine ⟨wide_mul (a := 10) (b := 100) c1 hg2 (by decide) (by decide) (by decide), hN _ _ ?_⟩
  clear hN
  unfold b_law_model_L1_1
  refine seq_hide fun N hN => ?_
  walk_at "m"
  refine take_ok B2 (by omega) (by decide) (by decide +kernel) fun d2 b3 B3 g0 g1 => ?_
  walk_at "m"
  refine ⟨wide_mul (a := 10) (b := 100) (by omega) hg2 (by decide) (by decide) (by decide), hN _ _ ?_⟩
  clear hN
  have p1 : 0 ≤ c * g := Int.mul_nonneg c0 (by omega)
  have p2 : 0 < (1 + d2) * g := Int.mul_pos (by omega) hg
  have q2 := q (a + c * g) (a + c * g + (1 + d2) * g) b3 (some (.int (a + c * g))) (B3.mono (by omega)) (by omega) (by omega)
  unfold b_law_model_L1_2
  walk_at "m"
  have ek : atI (names.map Da.str) (rs.length : Int) = some (.str z) := by rw [atI_nat', List.getElem?_map, hk]; rfl
  rw [get_mid, ek]
  simp only [List.append_assoc, List.cons_append, get_mid]
  refine ⟨⟨_, rfl⟩, by rw [rcL_len, sizeLine_eq]; omega, ?_⟩
  rw [List.set_cons_succ, set_mid]
  unfold memR at q2
  rw [List.length_append, List.map_append] at q2
  have e3 : rcL (R.length + 2) (rs.length + 1) = rcL (R.length + 2) rs.length ++ [.cell ((R ++ Da.lst (rcL (R.length + 2) rs.length) :: List.map rowD rs).length + 1)] := by
    rw [rcL_succ, List.length_append, List.length_cons, List.length_map]
    congr 3
    omega
  rw [← e3]
  exact q2
end
end Z

namespace Z
open PySem PySem.Spec PyProof.Rows L2 Evl
open Ct
section
variable {Q : TK} {E : XD} {rs : List Ct.Row} {n : Nat} {b : Da} {R : Mem} {D : En}
theorem rcL_cons (n m : Nat) : rcL n (m + 1) = .cell n :: rcL (n + 1) m := by
  unfold rcL
  rw [List.range_succ_eq_map, List.map_cons, List.map_map]
  congr 1
  refine List.map_congr_left fun j _ => ?_
  show Da.cell (n + (j + 1)) = _
  rw [show n + (j + 1) = n + 1 + j by omega]
theorem cloRow (n : Nat) (r : Ct.Row) : cloD n (rowD r) = true := by
  unfold rowD cloD cloL cloL cloL
  rw [cloSp]
  rfl
theorem memR_row {j : Nat} : (memR b R rs)[R.length + 2 + j]? = (rs.map rowD)[j]? := by
  unfold memR
  rw [show R.length + 2 + j = (R.length + 1 + j) + 1 by omega, List.getElem?_cons_succ, get_far]
theorem frz_rows {n f : Nat} (hn : n ≤ R.length + 1) : frz n (f + 2) (memR b R rs) (.cell (R.length + 1)) = some (.lst (rs.map rowD)) := by
  have e1 : (memR b R rs)[R.length + 1]? = some (.lst (rcL (R.length + 2) rs.length)) := by
    unfold memR
    rw [List.getElem?_cons_succ, get_mid]
  have c1 : ¬ cloD n (.cell (R.length + 1)) = true := by unfold cloD; simp; omega
  rw [frz, if_neg c1]
  simp only [e1]
  rw [mapO_of (es := rs.map rowD) (by rw [rcL_len, List.length_map]) ?_]
  · rfl
  · intro i d e hd he
    have hi : i < rs.length := by
      have := (List.getElem?_eq_some_iff.1 he).1
      rwa [List.length_map] at this
    have ed : d = .cell (R.length + 2 + i) := by
      unfold rcL at hd
      rw [List.getElem?_map, List.getElem?_range hi] at hd
      exact (Option.some.inj hd).symm
    subst ed
    have c2 : ¬ cloD n (.cell (R.length + 2 + i)) = true := by unfold cloD; simp; omega
    rw [frz, if_neg c2]
    have e2 : (memR b R rs)[R.length + 2 + i]? = some e := by rw [memR_row, he]
    obtain ⟨r, _, rfl⟩ := List.mem_map.1 (List.mem_of_getElem? he)
    rw [show rowD r = .lst [.str r.1, spD r.2] from rfl] at e2 ⊢
    simp only [e2]
    have c3 := cloRow n r
    unfold rowD cloD at c3
    rw [mapO_id c3]
    rfl
theorem plRow (r : Ct.Row) : plE (rowD r) = true ∧ dpE (rowD r) ≤ 3 := by
  obtain ⟨z, a, b⟩ := r
  cases a <;> cases b <;> exact ⟨rfl, by simp [dpE, dpEL, rowD, spD, limD]⟩
theorem ne_rows (q : Q (.bl (!rs.isEmpty)) (memR b R rs)) : nNeE (.cell (R.length + 1)) (.lst []) (memR b R rs) Q := by
  have pl : plE (.lst (rs.map rowD)) = true := by
    unfold plE
    exact plEL_of fun d hd => by
      obtain ⟨r, _, rfl⟩ := List.mem_map.1 hd
      exact (plRow r).1
  have dp : dpE (.lst (rs.map rowD)) ≤ 59 := by
    have : dpEL (rs.map rowD) ≤ 3 := dpEL_le fun d hd => by
      obtain ⟨r, _, rfl⟩ := List.mem_map.1 hd
      exact (plRow r).2
    unfold dpE
    omega
  refine ⟨.lst (rs.map rowD), .lst [], rs.isEmpty, frz_rows (Nat.zero_le _), rfl, pl, rfl, dp, by decide, ?_, q⟩
  cases rs <;> rfl
end
end Z

namespace Z
open PySem PySem.Spec PyProof.Rows L2 Evl
open Ct
section
variable {Q : TK} {E : XD} {rs : List Ct.Row} {n : Nat} {b : Da} {R : Mem} {D : En} {names : List Str} {g a : Int} {s3 s4 s6 s7 s8 : Option Da}
/-- the end: a spared name, the whole -/
theorem model_end {zs : List Str} (B : BoxD n b) (hn : n ≤ 100000) (cM : cloL (R.length + 1) (b :: R) = true) (hz : zs.length = 11) (ez : rs.map (·.1) = zs.take rs.length) (l7 : rs.length ≤ 7) (nd : zs.Nodup)
    (q : ∀ (spared : Option Str) (left : List Str) (b' : Da), BoxD (n + 1) b' → (∀ z, spared = some z → z ∈ zs ∧ ∀ r ∈ rs, r.1 ≠ z) → Q (modD rs spared left) (b' :: R)) :
    b_law_model_7 { nx := D.nx, rt := leave (R.length + 1) Q, bk := D.bk, ct := D.ct } [some (.cell 0), some (.int 7), some (.lst (zs.map Da.str)), s3, s4, some (.cell (R.length + 1)), s6, s7, s8] (memR b R rs) := by
  unfold b_law_model_7 memR
  refine seq_hide fun N hN => ?_
  walk_at "m"
  rw [get_mid]
  have lt : rs.length < zs.length := by omega
  have e1 : atI (zs.map Da.str) ((rcL (R.length + 2) rs.length).length : Nat) = some (.str zs[rs.length]) := by
    rw [atI_nat', List.getElem?_map, rcL_len, List.getElem?_eq_getElem lt]
    rfl
  try walk_at "m"
  rw [e1]
  try walk_at "m"
  refine take_ok B (by omega) (by decide) (by decide +kernel) fun d0 b1 B1 e0 e1 => ?_
  have es : ∃ sp : Option Str, atI [Da.non, Da.str zs[rs.length]] d0 = some (restD sp) ∧ (∀ z, sp = some z → z ∈ zs ∧ ∀ r ∈ rs, r.1 ≠ z) := by
    have : d0 = 0 ∨ d0 = 1 := by omega
    rcases this with rfl | rfl
    · exact ⟨none, rfl, fun z e => by cases e⟩
    · refine ⟨some zs[rs.length], rfl, fun z e => ?_⟩
      cases e
      refine ⟨List.getElem_mem lt, fun r hr e => ?_⟩
      have h1 : r.1 ∈ zs.take rs.length := by rw [← ez]; exact List.mem_map_of_mem hr
      have h2 : zs.take rs.length ++ zs[rs.length] :: zs.drop (rs.length + 1) = zs := by rw [← List.drop_eq_getElem_cons lt, List.take_append_drop]
      rw [← h2] at nd
      exact (List.nodup_append.1 nd).2.2 _ h1 _ (List.mem_cons_self ..) e
  obtain ⟨sp, es, hsp⟩ := es
  simp only [es]
  try walk_at "m"
  refine hN _ _ ?_
  clear hN
  unfold b_law_model_8
  walk_at "m"
  rw [get_mid]
  try walk_at "m"
  rw [rcL_len, show ((rs.length : Int) + 1) = ((rs.length + 1 : Nat) : Int) by omega, cutL_dropD, ← List.map_drop]
  have fr := frz_rows (b := b1) (R := R) (rs := rs) (n := R.length + 1) (f := 1) (Nat.le_refl _)
  refine leave_box (S := .lst (rcL (R.length + 2) rs.length) :: rs.map rowD) (d' := modD rs sp (zs.drop (rs.length + 1))) B1 cM ?_ (q sp _ b1 B1 hsp)
  have c1 : cloD (R.length + 1) (restD sp) = true := cloRest _ sp
  have c2 : cloD (R.length + 1) (.lst ((zs.drop (rs.length + 1)).map Da.str)) = true := by unfold cloD; exact clo_strs _ _
  have c3 : ¬ cloD (R.length + 1) (.lst [.cell (R.length + 1), restD sp, .lst ((zs.drop (rs.length + 1)).map Da.str)]) = true := by
    unfold cloD cloL
    rw [show cloD (R.length + 1) (.cell (R.length + 1)) = false by unfold cloD; simp]
    simp
  rw [frz, if_neg c3]
  unfold memR at fr
  simp only [mapO, fr, frz_clo c1, frz_clo c2]
  rfl
end
end Z

namespace Z
open PySem PySem.Spec PyProof.Rows L2 Evl
open Ct
section
variable {Q : TK} {E : XD} {rs : List Ct.Row} {n : Nat} {b : Da} {R : Mem} {D : En} {names : List Str} {g a : Int} {s2 s3 s4 s6 s7 s8 : Option Da}
theorem take_memR {m : Int} (B : BoxD n b) (hn : n < 4294967296) (hm : 0 < m) (hl : m.natAbs.log2 < 9000)
    (k : ∀ (d : Int) (b' : Da), BoxD (n + 1) b' → 0 ≤ d → d < m → Q (.int d) (memR b' R rs)) : f_law_take [.cell 0, .int m] (memR b R rs) Q E := take_ok B hn hm hl k
theorem memR_c : (memR b R rs)[R.length + 1]? = some (.lst (rcL (R.length + 2) rs.length)) := by
  unfold memR
  rw [List.getElem?_cons_succ, get_mid]
/-- a row's span changes -/
theorem set_row {D : En} {j : Nat} {i : Int} {y : Ct.Row} {sp : ME} {ρ : Sl} (hi : atI (rcL (R.length + 2) rs.length) i = some (.cell (R.length + 2 + j))) (hj : rs[j]? = some y) (h5 : ρ[5]? = some (some (.cell (R.length + 1)))) {s : Lim × Lim}
    (hs : ∀ Q : TK, (∀ v, v = spD s → Q v (memR b R rs)) → sp ρ (memR b R rs) Q) (k : D.nx ρ (memR b R (rs.set j (y.1, s)))) :
    mAsg sp (hSub (mOp nIx (mVar 5) (mC (.int i))) (mC (.int 1)) nSet) D ρ (memR b R rs) := by
  simp only [mAsg]
  refine hs _ ?_
  rintro _ rfl
  simp only [hSub, mOp, mVar, h5, mC, nIx, look_cell, memR_c, Option.getD_some, hi]
  have e2 : (memR b R rs)[R.length + 2 + j]? = some (.lst [.str y.1, spD y.2]) := by rw [memR_row, List.getElem?_map, hj]; rfl
  simp only [nSet, e2]
  have e3 : ixN [Da.str y.1, spD y.2].length 1 = some 1 := rfl
  simp only [e3]
  have e4 : (memR b R rs).set (R.length + 2 + j) (.lst ([Da.str y.1, spD y.2].set 1 (spD s))) = memR b R (rs.set j (y.1, s)) := by
    unfold memR
    rw [show R.length + 2 + j = (R.length + 1 + j) + 1 by omega, List.set_cons_succ, set_far, List.length_set, List.map_set]
    rfl
  rw [e4]
  exact k
theorem row_span {j : Nat} {i w : Int} {v : Da} {y : Ct.Row} {ρ : Sl} (hi : atI (rcL (R.length + 2) rs.length) i = some (.cell (R.length + 2 + j))) (hj : rs[j]? = some y) (h5 : ρ[5]? = some (some (.cell (R.length + 1)))) (hv : atI [limD y.2.1, limD y.2.2] w = some v) (q : Q v (memR b R rs)) :
    mOp nIx (mOp nIx (mOp nIx (mVar 5) (mC (.int i))) (mC (.int 1))) (mC (.int w)) ρ (memR b R rs) Q := by
  have e2 : (memR b R rs)[R.length + 2 + j]? = some (.lst [.str y.1, spD y.2]) := by rw [memR_row, List.getElem?_map, hj]; rfl
  have e3 : atI [Da.str y.1, spD y.2] 1 = some (spD y.2) := rfl
  simp only [mOp, mVar, h5, mC, nIx, look_cell, memR_c, Option.getD_some, hi, e2, e3]
  unfold spD
  simp only [look_tup, hv]
  exact q
theorem model_5 (B : BoxD n b) (hn : n ≤ 100000) (A : AscF rs)
    (q : ∀ (rs' : List Ct.Row) (b' : Da), BoxD (n + 1) b' → AscF rs' → rs'.map (·.1) = rs.map (·.1) → b_law_model_6 D [some (.cell 0), some (.int 7), s2, s3, s4, some (.cell (R.length + 1)), s6, s7, s8] (memR b' R rs')) :
    b_law_model_5 D [some (.cell 0), some (.int 7), s2, s3, s4, some (.cell (R.length + 1)), s6, s7, s8] (memR b R rs) := by
  unfold b_law_model_5
  refine cut_hide fun N hN => ?_
  refine if_hide fun T U hT hU => ?_
  have no : ∀ b', BoxD (n + 1) b' → U (memR b' R rs) := fun b' B' => hU _ (next_run (hN _ _ (q rs b' B' A rfl)))
  simp only [mAnd, mB, mOp, mVar, mLst, mNil, List.getElem?_cons_succ, List.getElem?_cons_zero]
  refine ⟨Nat.zero_le _, ne_rows ?_⟩
  cases rs with
  | nil =>
    walk_at "m"
    exact no b (B.mono (by omega))
  | cons y r =>
    obtain ⟨z, lo, hi⟩ := y
    show (if true = true then _ else _)
    walk_at "m"
    refine take_memR B (by omega) (by decide) (by decide +kernel) fun d0 b1 B1 e0 e1 => ?_
    walk_at "m"
    refine ite2 (fun c => ?_) (fun c => no b1 B1)
    refine hT _ ?_
    have q2 := hN _ _ (q ((z, none, hi) :: r) b1 B1 (asc_head A) rfl)
    have h0 : atI (rcL (R.length + 2) ((z, lo, hi) :: r : List Ct.Row).length) 0 = some (.cell (R.length + 2 + 0)) := by
      rw [List.length_cons, rcL_cons, atI_0]
      rfl
    refine set_row (j := 0) (y := (z, lo, hi)) (s := (none, hi)) h0 rfl rfl (fun Q k => ?_) q2
    simp only [mTup, mCons, mNil, mC]
    exact row_span (j := 0) (y := (z, lo, hi)) (v := limD hi) h0 rfl rfl rfl ⟨by simp, k _ rfl⟩
theorem model_6 (B : BoxD n b) (hn : n ≤ 100000) (A : AscF rs)
    (q : ∀ (rs' : List Ct.Row) (b' : Da), BoxD (n + 1) b' → AscF rs' → rs'.map (·.1) = rs.map (·.1) → b_law_model_7 D [some (.cell 0), some (.int 7), s2, s3, s4, some (.cell (R.length + 1)), s6, s7, s8] (memR b' R rs')) :
    b_law_model_6 D [some (.cell 0), some (.int 7), s2, s3, s4, some (.cell (R.length + 1)), s6, s7, s8] (memR b R rs) := by
  unfold b_law_model_6
  refine cut_hide fun N hN => ?_
  refine if_hide fun T U hT hU => ?_
  have no : ∀ b', BoxD (n + 1) b' → U (memR b' R rs) := fun b' B' => hU _ (next_run (hN _ _ (q rs b' B' A rfl)))
  simp only [mAnd, mB, mOp, mVar, mLst, mNil, List.getElem?_cons_succ, List.getElem?_cons_zero]
  refine ⟨Nat.zero_le _, ne_rows ?_⟩
  rcases List.eq_nil_or_concat rs with rfl | ⟨r, y, rfl⟩
  · walk_at "m"
    exact no b (B.mono (by omega))
  · obtain ⟨z, lo, hi⟩ := y
    rw [List.concat_eq_append] at *
    rw [show (r ++ [(z, lo, hi)]).isEmpty = false by cases r <;> rfl]
    walk_at "m"
    refine take_memR B (by omega) (by decide) (by decide +kernel) fun d0 b1 B1 e0 e1 => ?_
    walk_at "m"
    refine ite2 (fun c => ?_) (fun c => no b1 B1)
    refine hT _ ?_
    have q2 := hN _ _ (q (r ++ [(z, lo, none)]) b1 B1 (asc_last A) (by simp))
    have h0 : atI (rcL (R.length + 2) (r ++ [(z, lo, hi)] : List Ct.Row).length) (-1) = some (.cell (R.length + 2 + r.length)) := by
      rw [List.length_append, List.length_cons, List.length_nil, rcL_succ, atI_m1]
      simp
    have hj : (r ++ [(z, lo, hi)])[r.length]? = some (z, lo, hi) := by simp
    have neg : ∀ (ρ : Sl) (M : Mem) (Q : TK), mC (.int (-1)) ρ M Q → mNeg (mC (.int 1)) ρ M Q := fun ρ M Q h => h
    have eN : mNeg (mC (.int 1)) = mC (.int (-1)) := rfl
    rw [eN]
    refine set_row (j := r.length) (y := (z, lo, hi)) (s := (lo, none)) h0 hj rfl (fun Q k => ?_) (by simpa using q2)
    simp only [mTup, mCons, mNil]
    exact row_span (j := r.length) (y := (z, lo, hi)) (v := limD lo) h0 hj rfl rfl ⟨by simp, k _ rfl⟩
end
theorem model_ok {n : Nat} {b : Da} {R : Mem} {Q : TK} {E : XD} (B : BoxD n b) (hn : n ≤ 10000)
    (k : ∀ (rs : List Ct.Row) (rest : Option Str) (left : List Str) (b' : Da), BoxD (n + 200) b' → AscF rs → Cq rs → rs.length ≤ 7 → (∀ z, rest = some z → nmS z = true ∧ ∀ r ∈ rs, r.1 ≠ z) → Q (modD rs rest left) (b' :: R)) :
    f_law_model [.cell 0, .int 7] (b :: R) Q E := by
  unfold f_law_model m_law_model
  walk_at "m1"
  intro cM cD
  refine seq_hide fun N hN => ?_
  walk_at "m"
  refine names_ok B (by omega) (by omega) (by omega) fun zs b1 B1 lz nd nm => ?_
  have hz : zs.length = 11 := by omega
  walk_at "m"
  refine hN _ _ ?_
  clear hN
  unfold b_law_model_1
  refine seq_hide fun N hN => ?_
  walk_at "m"
  refine ⟨⟨by decide, by decide, by decide⟩, ⟨by decide, by decide, by decide⟩, ?_⟩
  refine take_ok B1 (by omega) (by decide) (by decide +kernel) fun d0 b2 B2 e0 e1 => ?_
  have eg : ∃ g : Int, 0 < g ∧ g.natAbs < 2 ^ 100 ∧ atI [Da.int 1, Da.int 1, Da.int (10 ^ (9 : Int).toNat), Da.int (10 ^ (27 : Int).toNat)] d0 = some (.int g) := by
    have : d0 = 0 ∨ d0 = 1 ∨ d0 = 2 ∨ d0 = 3 := by omega
    rcases this with rfl | rfl | rfl | rfl
    · exact ⟨1, by decide, by decide, rfl⟩
    · exact ⟨1, by decide, by decide, rfl⟩
    · exact ⟨10 ^ (9 : Int).toNat, by decide, by decide, rfl⟩
    · exact ⟨10 ^ (27 : Int).toNat, by decide, by decide, rfl⟩
  obtain ⟨g, g0, g1, eg⟩ := eg
  simp only [eg]
  refine hN _ _ ?_
  clear hN
  unfold b_law_model_2
  refine seq_hide fun N hN => ?_
  walk_at "m"
  refine take_ok B2 (by omega) (by decide) (by decide +kernel) fun d1 b3 B3 f0 f1 => ?_
  walk_at "m"
  refine ⟨wide_mul (a := 10) (b := 100) (by omega) g1 (by decide) (by decide) (by decide), hN _ _ ?_⟩
  clear hN
  unfold b_law_model_3
  refine seq_hide fun N hN => ?_
  walk_at "m"
  refine hN _ _ ?_
  clear hN
  unfold b_law_model_4
  refine seq_hide fun N hN => ?_
  walk_at "m"
  refine take_ok B3 (by omega) (by decide) (by decide +kernel) fun m b4 B4 m0 m1 => ?_
  walk_at "m"
  refine ⟨by omega, by omega, ?_⟩
  refine forL_ind (fun j ρ M => ∃ b a rs s7, BoxD (n + 30 + 10 * j) b ∧ AscF rs ∧ rs.length = j ∧ rs.map (·.1) = zs.take j ∧ (∀ x, rs.getLast? = some x → ∃ g, x.2.2 = some g ∧ g ≤ a) ∧ M = memR b R rs ∧ ∃ s6, ρ = [some (.cell 0), some (.int 7), some (.lst (zs.map Da.str)), some (.int g), some (.int a), some (.cell (R.length + 1)), s6, s7, none])
    ⟨b4, _, [], _, B4.mono (by omega), trivial, rfl, rfl, (fun x hx => by cases hx), rfl, _, rfl⟩ ?_ ?_
  · rintro j d _ _ ej ⟨b, a, rs, s7, B, A, lj, em, hl, rfl, s6, rfl⟩ C hC
    obtain ⟨hj, rfl⟩ := rngD_at ej
    have hj : j < m.toNat := hj
    walk_at "m"
    rw [Int.zero_add]
    have lt : j < zs.length := by omega
    subst lj
    refine model_turn (s6 := none) (k := 0) (z := zs[rs.length]) B (by omega) g0 g1 (List.getElem?_eq_getElem lt) (by omega) fun l h b' s7 B' al lh => ?_
    refine hC _ _ _ _ .same trivial ⟨b', h, _, s7, B'.mono (by omega), asc_snoc lh A fun x hx => ?_, by rw [List.length_append]; rfl, ?_, fun x hx => ?_, rfl, _, rfl⟩
    · obtain ⟨u, e, hu⟩ := hl x hx
      exact ⟨u, e, by omega⟩
    · rw [List.map_append, em, List.take_add_one, List.getElem?_eq_getElem lt]
      rfl
    · rw [List.getLast?_append] at hx
      cases hx
      exact ⟨h, rfl, Int.le_refl _⟩
  · rintro _ _ ⟨b5, a, rs, s7, B5, A, lj, em, hl, rfl, s6, rfl⟩
    rw [rngD_len] at B5 lj em
    refine hN _ _ ?_
    clear hN
    refine model_5 B5 (by omega) A fun rs1 b6 B6 A1 e1 => ?_
    refine model_6 B6 (by omega) A1 fun rs2 b7 B7 A2 e2 => ?_
    have l2 : rs2.length = rs.length := by
      have := congrArg List.length (e2.trans e1)
      rwa [List.length_map, List.length_map] at this
    have l7 : rs2.length ≤ 7 := by omega
    have ez : rs2.map (·.1) = zs.take rs2.length := by rw [e2, e1, em, l2, lj]
    have ndr : (rs2.map (·.1)).Nodup := by rw [ez]; exact nd.sublist (List.take_sublist _ _)
    have nmr : ∀ r ∈ rs2, nmS r.1 = true := fun r hr => nm r.1 (by
      have : r.1 ∈ rs2.map (·.1) := List.mem_map_of_mem hr
      rw [ez] at this
      exact List.mem_of_mem_take this)
    have cM7 : cloL (R.length + 1) (b7 :: R) = true := by
      unfold cloL at cM ⊢
      rw [Bool.and_eq_true] at cM
      rw [B7.clo, cM.2]
      rfl
    refine model_end (D := { nx := fun x M' => leave (R.length + 1) Q Da.non M', rt := leave (R.length + 1) Q }) B7 (by omega) cM7 hz ez l7 nd fun sp left b8 B8 hsp => ?_
    exact k rs2 sp left b8 (B8.mono (by omega)) A2 (cq_of A2 ndr (by omega) nmr) l7 fun z e => ⟨nm z (hsp z e).1, (hsp z e).2⟩
end Z

/-! LG: orders of a mapped list; instances that leave; dicts of pairs -/
namespace Z
open PySem PySem.Spec PyProof.Rows L2 Evl
theorem map_of_perm {α β : Type} (f : α → β) {l : List α} {ys : List β} (p : ys.Perm (l.map f)) : ∃ qs : List α, qs.Perm l ∧ qs.map f = ys := by
  have go : ∀ (ys zs : List β), ys.Perm zs → ∀ l : List α, l.map f = zs → ∃ qs : List α, qs.Perm l ∧ qs.map f = ys := by
    intro ys zs p
    induction p with
    | nil => intro l e; exact ⟨[], by rw [List.map_eq_nil_iff.1 e], rfl⟩
    | @cons x a b p ih =>
      intro l e
      cases l with
      | nil => cases e
      | cons q l =>
        rw [List.map_cons, List.cons.injEq] at e
        obtain ⟨ps, h1, h2⟩ := ih l e.2
        exact ⟨q :: ps, h1.cons q, by rw [List.map_cons, h2, e.1]⟩
    | swap x y r =>
      intro l e
      match l, e with
      | a :: b :: l, e =>
        rw [List.map_cons, List.map_cons, List.cons.injEq, List.cons.injEq] at e
        exact ⟨b :: a :: l, List.Perm.swap a b l, by rw [List.map_cons, List.map_cons, e.1, e.2.1, e.2.2]⟩
    | trans p1 p2 ih1 ih2 =>
      intro l e
      obtain ⟨ps, h1, h2⟩ := ih2 l e
      obtain ⟨rs, h3, h4⟩ := ih1 ps h2
      exact ⟨rs, h3.trans h1, h4⟩
  exact go ys _ p l rfl
theorem mapOF_id {n f : Nat} {M : Mem} : ∀ {ds : List (Str × Da)}, cloF n ds = true → mapOF (frz n f M) ds = some ds
  | [], _ => rfl
  | (k, d) :: ds, h => by
    unfold cloF at h
    rw [Bool.and_eq_true] at h
    unfold mapOF
    rw [frz_clo h.1, mapOF_id h.2]
theorem frz_cellO {n m f : Nat} {M : Mem} {c : Str} {ds : List (Str × Da)} (h : M[m]? = some (.obj c ds)) (le : n ≤ m) (cl : cloF n ds = true) : frz n (f + 1) M (.cell m) = some (.obj c ds) := by
  have c1 : ¬ cloD n (.cell m) = true := by unfold cloD; simp; omega
  rw [frz, if_neg c1]
  simp only [h]
  rw [mapOF_id cl]
  rfl
theorem leave_obj {Q : TK} {M : Mem} {c : Str} {ds : List (Str × Da)} (cM : cloL M.length M = true) (cl : cloF M.length ds = true) (q : Q (.obj c ds) M) : leave M.length Q (.cell M.length) (M ++ [.obj c ds]) :=
  ⟨_, M, .inr ⟨by simp, by simp, cM, frz_cellO (by simp) (Nat.le_refl _) cl⟩, q⟩
theorem mergeD_new : ∀ {ks acc : List (Key × Da)}, ((acc ++ ks).map (·.1)).Nodup → mergeD acc ks = acc ++ ks
  | [], acc, _ => by rw [List.append_nil]; rfl
  | (k, d) :: ks, acc, h => by
    have e : putD acc k d = acc ++ [(k, d)] := putD_new fun p hp q => by
      rw [List.map_append, List.map_cons] at h
      exact (List.nodup_append.1 h).2.2 _ (List.mem_map_of_mem hp) _ (List.mem_cons_self ..) q
    rw [mergeD_cons, e, mergeD_new (by rw [List.append_assoc]; exact h), List.append_assoc]
    rfl
end Z

namespace Z
open PySem PySem.Spec PyProof.Rows L2 Evl
open Ct
section
variable {Q : TK} {E : XD} {rs qs : List Ct.Row} {n : Nat} {b : Da} {R M : Mem} {rest : Option Str} {left : List Str}
theorem mkC_ok (cM : cloL M.length M = true) (h : Cq qs) (hr : ∀ z, rest = some z → nmS z = true ∧ ∀ r ∈ qs, r.1 ≠ z) (l7 : qs.length ≤ 7) (q : ∀ ps : List Ct.Row, ps.Perm qs → Q (ctO ps rest) M) :
    mMakeE "Catalog" [0, 1, 2] f_Catalog_init [] [.dct (dicK qs)] [restD rest] M Q E := by
  unfold mMakeE
  exact init_ok h hr l7 fun ps p => ⟨rfl, leave_obj cM (by have := cloCt M.length ps rest; unfold ctO cloD at this; exact this) (q ps p)⟩
theorem pairs_itR : ∀ qs : List Ct.Row, pairsD M (qs.map itR) = some (dicK qs)
  | [] => rfl
  | (z, s) :: l => by
    rw [List.map_cons]
    unfold pairsD
    rw [pairs_itR l]
    rfl
theorem dicK_keys (qs : List Ct.Row) (h : (qs.map (·.1)).Nodup) : ((dicK qs).map (·.1)).Nodup := by
  induction qs with
  | nil => exact .nil
  | cons q l ih =>
    rw [List.map_cons, List.nodup_cons] at h
    show ((Sum.inr q.1 : Key) :: (dicK l).map (·.1)).Nodup
    rw [List.nodup_cons]
    refine ⟨fun m => h.1 ?_, ih h.2⟩
    obtain ⟨p, hp, e⟩ := List.mem_map.1 m
    obtain ⟨r, hr, rfl⟩ := List.mem_map.1 hp
    exact List.mem_map.2 ⟨r, hr, Sum.inr.inj e⟩
theorem law_catalog_ok (B : BoxD n b) (hn : n ≤ 100000) (cM : cloL (R.length + 1) (b :: R) = true) (h : Cq rs) (hr : ∀ z, rest = some z → nmS z = true ∧ ∀ r ∈ rs, r.1 ≠ z) (l7 : rs.length ≤ 7)
    (q : ∀ (qs : List Ct.Row) (b' : Da), BoxD (n + 10) b' → qs.Perm rs → Q (ctO qs rest) (b' :: R)) : f_law_catalog [.cell 0, modD rs rest left] (b :: R) Q E := by
  unfold f_law_catalog m_law_catalog modD
  walk_at "m0"
  walk_at "m"
  refine ⟨by rw [List.length_map]; omega, ?_⟩
  refine lcL_xs rowD rs (fun _ => true) itR (fun x => [some (.cell 0), some (modD rs rest left), some (rowD x)]) (fun x hx R r => ?_) (fun x hx R r => ?_) (fun x hx _ R r => ?_) trivial ?_
  · exact r
  · walk_at "m"
    exact r
  · unfold rowD
    walk_at "m"
    exact r
  rw [filter_true]
  walk_at "m"
  refine mixed_ok (R := R) B (by omega) (by rw [List.length_map]; omega) (cloL_all.2 fun d hd => ?_) fun zs b1 B1 pm => ?_
  · obtain ⟨r, _, rfl⟩ := List.mem_map.1 hd
    unfold itR cloD cloL cloL cloL
    rw [cloSp]
    rfl
  obtain ⟨qs, pq, rfl⟩ := map_of_perm itR pm
  have hq := h.perm pq
  walk_at "m"
  rw [pairs_itR]
  try walk_at "m"
  rw [mergeD_new (acc := []) (ks := dicK qs) (dicK_keys qs hq.nd), List.nil_append]
  rw [List.length_map] at B1
  have cM1 : cloL (b1 :: R).length (b1 :: R) = true := by
    rw [List.length_cons]
    unfold cloL at cM ⊢
    rw [Bool.and_eq_true] at cM
    rw [B1.clo, cM.2]
    rfl
  refine mkC_ok cM1 hq (fun z e => ⟨(hr z e).1, fun r hr' => (hr z e).2 r (pq.mem_iff.1 hr')⟩) (by rw [pq.length_eq]; exact l7) fun ps pp => ?_
  exact leave_same (q ps b1 (B1.mono (by omega)) (pp.trans pq))
end
end Z

/-! k07: what Good tells of each stretch -/
namespace Z
open PySem PySem.Spec PyProof.Rows L2 Evl
namespace Ct
theorem good_at {part : Int → Option Str} : ∀ {S : List Stg} {low : Lim}, Good part low S → ∀ (i : Nat) (a b : Lim) (p : Option Str), S[i]? = some (a, b, p) → ltL a b ∧ (∀ k, hasB (a, b) k = true → part k = p) ∧ (i = 0 → a = low) ∧ (∀ j, i = j + 1 → ∃ a' b' p', S[j]? = some (a', b', p') ∧ a = b' ∧ b' ≠ none ∧ p ≠ p')
  | [], _, h, _, _, _, _, _ => h.elim
  | [(a, b, p)], low, h, i, a0, b0, p0, e => by
    cases i with
    | succ i => cases e
    | zero =>
      cases e
      obtain ⟨h1, h2, h3, h4⟩ := h
      exact ⟨h3, h2, fun _ => h1, fun j e => by cases e⟩
  | (a, b, p) :: (a2, b2, p2) :: r, low, h, i, a0, b0, p0, e => by
    obtain ⟨h1, h2, h3, h4, h5, h6⟩ := h
    cases i with
    | zero =>
      cases e
      exact ⟨h3, h2, fun _ => h1, fun j e => by cases e⟩
    | succ i =>
      have e : ((a2, b2, p2) :: r)[i]? = some (a0, b0, p0) := e
      obtain ⟨g1, g2, g3, g4⟩ := good_at h6 i a0 b0 p0 e
      refine ⟨g1, g2, (fun e => by cases e), fun j ej => ?_⟩
      have ej : i = j := Nat.succ.inj ej
      subst ej
      cases i with
      | zero =>
        cases e
        exact ⟨a, b, p, rfl, g3 rfl, h4, fun q => h5 q.symm⟩
      | succ i =>
        obtain ⟨a', b', p', q1, q2⟩ := g4 i rfl
        exact ⟨a', b', p', q1, q2⟩
theorem good_last {part : Int → Option Str} : ∀ {S : List Stg} {low : Lim}, Good part low S → ∃ S' a p, S = S' ++ [(a, none, p)]
  | [], _, h => h.elim
  | [(a, b, p)], _, h => by
    obtain ⟨_, _, _, rfl⟩ := h
    exact ⟨[], a, p, rfl⟩
  | (a, b, p) :: (a2, b2, p2) :: r, low, h => by
    obtain ⟨_, _, _, _, _, h6⟩ := h
    obtain ⟨S', a', p', e⟩ := good_last h6
    exact ⟨(a, b, p) :: S', a', p', by rw [e]; rfl⟩
theorem good_head {part : Int → Option Str} {S : List Stg} (h : Good part none S) : ∃ b p S', S = (none, b, p) :: S' := by
  cases S with
  | nil => exact h.elim
  | cons y S =>
    obtain ⟨a, b, p⟩ := y
    have := (h.hd).1
    subst this
    exact ⟨b, p, S, rfl⟩
/-- the law's count is the number of stretches -/
theorem count_eq {rest : Option Str} {rs : List Row} (A : AscF rs) (nd : (rs.map (·.1)).Nodup) (hr : ∀ x ∈ rs, rest ≠ some x.1) : 1 + ((lims [] rs).filter fun L => !decide (partL rest rs (L - 1) = partL rest rs L)).length = (stc rest false none rs).length := by
  have G := good_F A nd hr
  obtain ⟨e1, e2⟩ := good_bnd G
  rw [e1, ← lims_F (rest := rest) A] 
  rw [← lims_F (rest := rest) A] at e2
  rw [List.filter_eq_self.2 fun L hL => by simp [e2 L hL]]
end Ct
end Z

namespace Z
open PySem PySem.Spec PyProof.Rows L2 Evl
open Ct
section
variable {Q : TK} {E : XD} {rs qs : List Ct.Row} {M : Mem} {rest : Option Str} {left : List Str} {D : En} {S : List Stg} {G : Da}
theorem pd_st (S : List Stg) : pd (.lst (S.map stD)) := by
  have h : ∀ x : Stg, plD (stD x) = true ∧ dpD (stD x) ≤ 1 := fun x => by
    obtain ⟨a, b, p⟩ := x
    cases a <;> cases b <;> cases p <;> exact ⟨rfl, by simp [dpD, dpL, stD, limD, restD]⟩
  refine ⟨by unfold plD; exact plL_map (fun x => (h x).1) S, ?_⟩
  have : dpL (S.map stD) ≤ 1 := dpL_le.2 fun d hd => by
    obtain ⟨x, _, rfl⟩ := List.mem_map.1 hd
    exact (h x).2
  unfold dpD
  omega
theorem right_1 {s3 s4 s5 s6 s7 : Option Da} {part : Int → Option Str} (g : Good part none S) (k : b_law_right_2 D [some (ctO qs rest), some (modD rs rest left), some (.cell M.length), s3, s4, s5, s6, s7] (M ++ [.lst (S.map stD), G])) :
    b_law_right_1 D [some (ctO qs rest), some (modD rs rest left), some (.cell M.length), s3, s4, s5, s6, s7] (M ++ [.lst (S.map stD), G]) := by
  have p1 := pd_st S
  have p2 : pd (.lst []) := ⟨rfl, by decide⟩
  obtain ⟨b, p, S', e0⟩ := good_head g
  obtain ⟨S2, a, p', e1⟩ := good_last g
  have a0 : atI (S.map stD) 0 = some (.tup [.non, limD b, restD p]) := by rw [atI_0, e0]; rfl
  have a1 : atI (S.map stD) (-1) = some (.tup [limD a, .non, restD p']) := by rw [atI_m1, e1, List.map_append]; simp [stD, limD]
  have ne : eqD (.lst (S.map stD)) (.lst []) = false := by rw [e0]; rfl
  unfold b_law_right_1
  refine seq_hide fun N hN => ?_
  refine if_hide fun T U hT hU => ?_
  have fin : U (M ++ [.lst (S.map stD), G]) := hU _ (next_run (hN _ _ k))
  clear hN hT hU
  simp only [mOr, mB, mOp, mVar, mLst, mNil, mC, mNeg, nEq, lookE_cell, get2a, Option.getD_some, List.getElem?_cons_succ, List.getElem?_cons_zero, lookE_lst, ne, nIx, look_cell, a0, a1, look_tup]
  refine ⟨Nat.zero_le _, p1, p2, ?_⟩
  walk_at "m"
  rw [atI_m1] at a1
  simp only [a1]
  walk_at "m"
  exact fin
/-- a stretch is looked at -/
theorem right_key {p : Option Str} {s2 s3 s4 s5 : Option Da} (cq : Cq qs) (A : AscF rs) (pm : qs.Perm rs) {k : Int} (hk : partL rest rs k = p) (fin : D.nx [some (ctO qs rest), some (modD rs rest left), s2, s3, s4, s5, some (restD p), some (.int k)] M) :
    l_law_right_2 D [some (ctO qs rest), some (modD rs rest left), s2, s3, s4, s5, some (restD p), some (.int k)] M := by
  have part_q : ∀ k, partL rest qs k = partL rest rs k := fun k => partL_perm A pm k
  unfold l_law_right_2
  refine if_hide fun T U hT hU => ?_
  have fin := hU _ (next_run fin)
  clear hT hU
  have eL : ∀ M : Mem, look M (ctO qs rest) = .obj "Catalog" [("own_spans", .dct (dicK qs)), ("own_rest", restD rest)] := fun _ => rfl
  unfold ctO modD
  walk_at "m"
  refine law_part_ok (left := left) ?_
  rw [hk]
  refine ⟨pd_rest _, pd_rest _, ?_⟩
  rw [eq_rest, decide_eq_true rfl]
  walk_at "m"
  refine part_of_ok (qs := qs) (rest := rest) cq ?_
  rw [part_q, hk]
  refine ⟨pd_rest _, pd_rest _, ?_⟩
  rw [eq_rest, decide_eq_true rfl]
  exact fin
theorem right_turn {s7 s4 s5 s6 : Option Da} (cq : Cq qs) (A : AscF rs) (pm : qs.Perm rs) (g : Good (partL rest rs) none S) {i : Nat} {a b : Lim} {p : Option Str} (hi : S[i]? = some (a, b, p))
    (k : ∀ s4 s5 s6 s7, D.nx [some (ctO qs rest), some (modD rs rest left), some (.cell M.length), some (.int i), s4, s5, s6, s7] (M ++ [.lst (S.map stD), G])) :
    l_law_right_1 D [some (ctO qs rest), some (modD rs rest left), some (.cell M.length), some (.int i), s4, s5, s6, s7] (M ++ [.lst (S.map stD), G]) := by
  obtain ⟨lt, hp, h0, hs⟩ := good_at g i a b p hi
  have ai : atI (S.map stD) (i : Int) = some (.tup [limD a, limD b, restD p]) := by rw [atI_nat', List.getElem?_map, hi]; rfl
  unfold l_law_right_1
  refine seq_hide fun N hN => ?_
  simp only [mAsg, mOp, mVar, nIx, look_cell, get2a, Option.getD_some, List.getElem?_cons_succ, List.getElem?_cons_zero, ai]
  walk_at "g"
  refine hN _ _ ?_
  clear hN
  unfold b_law_right_L1_1
  refine seq_hide fun N hN => ?_
  have key : N [some (ctO qs rest), some (modD rs rest left), some (.cell M.length), some (.int i), some (limD a), some (limD b), some (restD p), s7] (M ++ [.lst (S.map stD), G]) := by
    refine hN _ _ ?_
    clear hN
    unfold b_law_right_L1_2
    refine seq_hide fun N hN => ?_
    have key : N [some (ctO qs rest), some (modD rs rest left), some (.cell M.length), some (.int i), some (limD a), some (limD b), some (restD p), s7] (M ++ [.lst (S.map stD), G]) := by
      refine hN _ _ ?_
      clear hN
      unfold b_law_right_L1_3
      refine seq_hide fun N hN => ?_
      have key : N [some (ctO qs rest), some (modD rs rest left), some (.cell M.length), some (.int i), some (limD a), some (limD b), some (restD p), s7] (M ++ [.lst (S.map stD), G]) := by
        refine hN _ _ ?_
        clear hN
        unfold b_law_right_L1_4
        simp only [mFor, mAny, mCall, mVar, mCons, mNil, List.getElem?_cons_succ, List.getElem?_cons_zero]
        refine law_inner_ok lt fun ks hk _ => ?_
        simp only [itD, look_lst]
        refine forL_xs Da.int ks (fun p' r ρ M' => M' = M ++ [.lst (S.map stD), G] ∧ ∃ s7, ρ = [some (ctO qs rest), some (modD rs rest left), some (.cell M.length), some (.int i), some (limD a), some (limD b), some (restD p), s7]) ⟨rfl, _, rfl⟩ ?_ ?_
        · rintro p' x r ρ _ e ⟨rfl, s7, rfl⟩ C hC
          walk_at "g"
          exact right_key (D := { nx := C, rt := D.rt, bk := D.nx, ct := C }) cq A pm (hp x (hk x (by rw [e]; simp))) (hC _ _ _ _ .same trivial ⟨rfl, _, rfl⟩)
        · rintro ρ _ ⟨rfl, s7, rfl⟩
          exact k _ _ _ _
      clear hN
      cases i with
      | zero =>
        walk_at "m"
        exact key
      | succ j =>
        obtain ⟨a', b', p', ej, _, _, np⟩ := hs j rfl
        have aj : atI (S.map stD) (((j + 1 : Nat) : Int) - 1) = some (.tup [limD a', limD b', restD p']) := by
          rw [show ((j + 1 : Nat) : Int) - 1 = (j : Int) by omega, atI_nat', List.getElem?_map, ej]
          rfl
        generalize hc : ((j + 1 : Nat) : Int) = c at aj key ⊢
        have c0 : 0 < c := by omega
        walk_at "m"
        refine ite2 (fun _ => ?_) (fun q => absurd c0 q)
        rw [aj]
        walk_at "m"
        refine ⟨pd_rest _, pd_rest _, ?_⟩
        rw [eq_rest, decide_eq_false np]
        exact key
    clear hN
    cases i with
    | zero =>
      walk_at "m"
      exact key
    | succ j =>
      obtain ⟨a', b', p', ej, ea, nb, np⟩ := hs j rfl
      have aj : atI (S.map stD) (((j + 1 : Nat) : Int) - 1) = some (.tup [limD a', limD b', restD p']) := by
        rw [show ((j + 1 : Nat) : Int) - 1 = (j : Int) by omega, atI_nat', List.getElem?_map, ej]
        rfl
      generalize hc : ((j + 1 : Nat) : Int) = c at aj key ⊢
      have c0 : 0 < c := by omega
      subst ea
      cases a with
      | none => exact absurd rfl nb
      | some l =>
        simp only [limD_some] at key aj ⊢
        walk_at "m"
        refine ite2 (fun _ => ?_) (fun q => absurd c0 q)
        rw [aj]
        walk_at "m"
        exact key
  clear hN
  cases a with
  | none =>
    simp only [limD_none] at key ⊢
    walk_at "m"
    exact key
  | some l =>
    cases b with
    | none =>
      simp only [limD_none, limD_some] at key ⊢
      walk_at "m"
      exact key
    | some h =>
      have lh := lt l h rfl rfl
      simp only [limD_some] at key ⊢
      walk_at "m"
      exact ite2 (fun c => absurd c (by omega)) (fun _ => key)
theorem stc_len (rest : Option Str) : ∀ (r : List Ct.Row) (b : Bool) (low : Lim), (stc rest b low r).length ≤ 2 * r.length + 1
  | [], b, low => by
    unfold stc
    split <;> simp
  | (z, f, l) :: r, b, low => by
    rw [stc_cons, List.length_append, List.length_cons, List.length_cons]
    have := stc_len rest r true l
    split <;> simp <;> omega
theorem law_right_ok (cM : cloL M.length M = true) (cq : Cq qs) (A : AscF rs) (pm : qs.Perm rs) (hr : ∀ z, rest = some z → ∀ r ∈ rs, r.1 ≠ z) (q : Q (.bl true) M) : f_law_right [ctO qs rest, modD rs rest left] M Q E := by
  have nd : (rs.map (·.1)).Nodup := (pm.map (·.1)).nodup_iff.1 cq.nd
  have hr2 : ∀ x ∈ rs, rest ≠ some x.1 := fun x hx e => hr x.1 e x hx rfl
  have g := good_F A nd hr2
  have ec := count_eq A nd hr2
  have l20 : rs.length ≤ 20 := by rw [← pm.length_eq]; exact cq.n8
  unfold f_law_right m_law_right
  walk_at "m0"
  refine seq_hide fun N hN => ?_
  unfold ctO
  walk_at "m"
  refine stretches_ok (qs := qs) (rest := rest) A cq pm ?_
  refine hN _ _ ?_
  clear hN
  have lS0 := stc_len rest rs false none
  generalize stc rest false none rs = S at g ec lS0 ⊢
  refine right_1 (qs := qs) (rest := rest) g ?_
  unfold b_law_right_2
  refine seq_hide fun N hN => ?_
  walk_at "m"
  have lS : S.length ≤ 1000000 := by omega
  refine ⟨by rw [List.length_map]; omega, by rw [List.length_map]; omega, ?_⟩
  refine forL_ind (fun i ρ M' => M' = M ++ [.lst (S.map stD), .lst (rs.map nmR)] ∧ ∃ s3 s4 s5 s6 s7, ρ = [some (ctO qs rest), some (modD rs rest left), some (.cell M.length), s3, s4, s5, s6, s7]) ⟨rfl, _, _, _, _, _, rfl⟩ ?_ ?_
  · rintro i d _ _ ei ⟨rfl, s3, s4, s5, s6, s7, rfl⟩ C hC
    obtain ⟨hi, rfl⟩ := rngD_at ei
    walk_at "m"
    rw [Int.zero_add]
    rw [List.length_map] at hi
    have hi : i < S.length := by omega
    have e := List.getElem?_eq_getElem hi
    generalize S[i] = x at e
    obtain ⟨a, b, p⟩ := x
    exact right_turn cq A pm g e fun s4 s5 s6 s7 => hC _ _ _ _ .same trivial ⟨rfl, _, _, _, _, _, rfl⟩
  · rintro _ _ ⟨rfl, s3, s4, s5, s6, s7, rfl⟩
    refine hN _ _ ?_
    clear hN
    unfold b_law_right_3
    walk_at "m"
    refine law_count_ok l20 ?_
    walk_at "m"
    rw [List.length_map]
    rw [show (1 : Int) + (((lims [] rs).filter fun L => !decide (partL rest rs (L - 1) = partL rest rs L)).length : Nat) = (S.length : Nat) by omega]
    rw [decide_eq_true rfl]
    exact leave_bl cM q
end
end Z

namespace Z
open PySem PySem.Spec PyProof.Rows L2 Evl
open Ct
theorem clo1 {n m : Nat} {b : Da} (B : BoxD n b) : cloL m [b] = true := by
  unfold cloL cloL
  rw [B.clo]
  rfl
theorem cloSt (n : Nat) (S : List Stg) : cloL n (S.map stD) = true := cloL_all.2 fun d hd => by
  obtain ⟨x, _, rfl⟩ := List.mem_map.1 hd
  obtain ⟨a, b, p⟩ := x
  cases a <;> cases b <;> cases p <;> rfl
theorem cloNm (n : Nat) (rs : List Ct.Row) : cloL n (rs.map nmR) = true := cloL_all.2 fun d hd => by
  obtain ⟨x, _, rfl⟩ := List.mem_map.1 hd
  rfl
theorem l1_ok {s2 s3 s4 s5 s6 : Option Da} {ns : List Int} {i : Int} {D : En} (h0 : 0 ≤ i) (h1 : i < 1000)
    (h : ∀ s2 s3 s4 s5 s6 M, D.nx [some (.kl (ns.map Da.int)), some (.int i), s2, s3, s4, s5, s6] M) :
    l_law_1 D [some (.kl (ns.map Da.int)), some (.int i), s2, s3, s4, s5, s6] [] := by
  unfold l_law_1
  refine seq_hide fun N hN => ?_
  walk_at "m"
  refine cell_ok h0 h1 fun n => ?_
  walk_at "m"
  refine box_ok fun b B => ?_
  refine hN _ _ ?_
  clear hN
  unfold b_law_L1_1
  refine seq_hide fun N hN => ?_
  walk_at "m"
  refine model_ok (R := []) B (by decide) fun rs rest left b1 B1 A cq l7 hr => ?_
  refine hN _ _ ?_
  clear hN
  unfold b_law_L1_2
  refine seq_hide fun N hN => ?_
  walk_at "m"
  refine law_catalog_ok (R := []) B1 (by omega) (clo1 B1) cq hr l7 fun qs b2 B2 pm => ?_
  have cqs := cq.perm pm
  have hr2 : ∀ z, rest = some z → ∀ r ∈ rs, r.1 ≠ z := fun z e => (hr z e).2
  refine hN _ _ ?_
  clear hN
  unfold b_law_L1_3
  refine seq_hide fun N hN => ?_
  refine if_hide fun T U hT hU => ?_
  walk_at "m"
  refine law_right_ok (M := [b2]) (clo1 B2) cqs A pm hr2 ?_
  walk_at "m"
  refine hU _ (next_run (hN _ _ ?_))
  clear hN hT hU
  unfold b_law_L1_4
  refine seq_hide fun N hN => ?_
  unfold ctO
  walk_at "m"
  refine stretches_ok (M := [b2]) (qs := qs) (rest := rest) A cqs pm ?_
  refine hN _ _ ?_
  clear hN
  have lS0 := stc_len rest rs false none
  generalize stc rest false none rs = S at lS0 ⊢
  unfold b_law_L1_5
  refine seq_hide fun N hN => ?_
  walk_at "m"
  refine ⟨⟨_, rfl⟩, by rw [List.length_map, sizeLine_eq]; omega, hN _ _ ?_⟩
  clear hN
  unfold b_law_L1_6
  refine if_hide fun T U hT hU => ?_
  have cM : cloL ([b2, Da.lst (S.map stD ++ [.tup [.int 1, .int 2, .str "late"]]), Da.lst (rs.map nmR)]).length [b2, Da.lst (S.map stD ++ [.tup [.int 1, .int 2, .str "late"]]), Da.lst (rs.map nmR)] = true := by
    have c1 : ∀ n, cloD n (Da.lst (S.map stD ++ [.tup [.int 1, .int 2, .str "late"]])) = true := fun n => by
      unfold cloD
      rw [cloL_all]
      intro d hd
      rcases List.mem_append.1 hd with hd | hd
      · exact cloL_all.1 (cloSt n S) d hd
      · rw [List.mem_singleton.1 hd]
        rfl
    have c2 : ∀ n, cloD n (Da.lst (rs.map nmR)) = true := fun n => by unfold cloD; exact cloNm n rs
    unfold cloL cloL cloL cloL
    rw [B2.clo, c1, c2]
    rfl
  walk_at "m"
  refine law_right_ok (qs := qs) (rest := rest) cM cqs A pm hr2 ?_
  walk_at "m"
  refine stretches_ok (qs := qs) (rest := rest) A cqs pm ?_
  have lS1 := stc_len rest rs false none
  generalize stc rest false none rs = S1 at lS1 ⊢
  walk_at "m"
  refine ⟨by rw [List.length_map]; omega, ?_⟩
  refine lcL_xs stD S1 (fun _ => false) stD (fun x => [some (.kl (ns.map Da.int)), some (.int i), some (.cell 0), some (modD rs rest left), some (ctO qs rest), some (.cell 1), some (stD x)]) (fun x hx R r => ?_) (fun x hx R r => ?_) (fun x hx c R r => ?_) rfl ?_
  · exact r
  · obtain ⟨a, b, p⟩ := x
    unfold stD
    walk_at "m"
    exact r
  · cases c
  rw [show S1.filter (fun _ => false) = [] from List.filter_eq_nil_iff.2 (fun _ _ => by simp), List.map_nil]
  walk_at "m"
  exact hU _ (next_run (h _ _ _ _ _ _))
theorem law_true : ∀ ns : List Int, ns.length ≤ 63 → f_law [.kl (ns.map Da.int)] [] (fun d _ => d = .bl true) XD0 := by
  intro ns hns
  unfold f_law m_law
  walk_at "m1"
  intro _ cD
  have cloKl : cloD 0 (.kl (ns.map Da.int)) = true := by
    unfold cloL at cD
    rw [Bool.and_eq_true] at cD
    exact cD.1
  walk_at "m"
  rw [List.length_map]
  refine ⟨?_, ?_, ?_⟩
  · split <;> (try split) <;> omega
  · split <;> (try split) <;> omega
  refine forL_ind (fun k ρ M => M = [] ∧ ∃ s1 s2 s3 s4 s5 s6, ρ = [some (.kl (ns.map Da.int)), s1, s2, s3, s4, s5, s6]) ⟨rfl, _, _, _, _, _, _, rfl⟩ ?_ ?_
  · rintro k d _ _ he ⟨rfl, s1, s2, s3, s4, s5, s6, rfl⟩ C hC
    obtain ⟨hk, rfl⟩ := rngD_at he
    walk_at "m"
    refine l1_ok (by omega) ?_ fun s2 s3 s4 s5 s6 M => ?_
    · have hk2 := hk
      split at hk2
      · split at hk2 <;> omega
      · omega
    · refine hC _ _ [some (.kl (ns.map Da.int)), none, none, none, none, none, none] [] (.inr ⟨Nat.zero_le _, rfl, rfl, ?_⟩) trivial ⟨rfl, _, _, _, _, _, _, rfl⟩
      refine ⟨rfl, ?_⟩
      rintro (_ | j) d e
      · cases e
        exact ⟨rfl, cloKl⟩
      · rw [List.getElem?_cons_succ] at e
        have e := List.mem_of_getElem? e
        simp at e
  · rintro _ _ ⟨rfl, s1, s2, s3, s4, s5, s6, rfl⟩
    unfold b_law_1
    walk_at "m"
    exact leave_same rfl
end Z

namespace Z
open PySem PySem.Spec PyProof.Rows L2 Evl
/-! ### the text by places, derivations (gen.py) -/
def top (i : Nat) : Stmt := PySem.Challenge.pw_shiftparts_k07_stretches_of_all_keys.main.body.getD i (.Pass ⟨0, 0, 0, 0⟩)
def mtop (i j : Nat) : Stmt := match top i with
  | .ClassDef _ _ _ b _ _ _ _ _ _ _ => b.getD j (.Pass ⟨0, 0, 0, 0⟩)
  | _ => .Pass ⟨0, 0, 0, 0⟩
structure Txt (P : Program) (w : World) (K : PySem.W.Frag) (mg : Str → Option Value) : Prop where
  b_all : mg "all" = none
  b_any : mg "any" = none
  b_bool : mg "bool" = none
  b_dict : mg "dict" = none
  b_int : mg "int" = none
  b_isinstance : mg "isinstance" = none
  b_len : mg "len" = none
  b_list : mg "list" = none
  b_max : mg "max" = none
  b_min : mg "min" = none
  b_range : mg "range" = none
  b_sorted : mg "sorted" = none
  b_str : mg "str" = none
  b_super : mg "super" = none
  b_tuple : mg "tuple" = none
  g_Catalog : mg "Catalog" = some (.ref (He.ga K "Catalog"))
  g_InvalidKey : mg "InvalidKey" = some (.ref (He.ga K "InvalidKey"))
  g_InvalidName : mg "InvalidName" = some (.ref (He.ga K "InvalidName"))
  g_InvalidSpan : mg "InvalidSpan" = some (.ref (He.ga K "InvalidSpan"))
  g_InvalidSpans : mg "InvalidSpans" = some (.ref (He.ga K "InvalidSpans"))
  c_LETTERS : ∃ t, mg "LETTERS" = some (.str "abcdefghijklmnopqrstuvwxyz" t)
  c_MOST_LETTERS : ∃ t, mg "MOST_LETTERS" = some (.int 8 t)
  c_MOST_PARTS : ∃ t, mg "MOST_PARTS" = some (.int 8 t)
  g_NameTaken : mg "NameTaken" = some (.ref (He.ga K "NameTaken"))
  g_Overlap : mg "Overlap" = some (.ref (He.ga K "Overlap"))
  c_TABLE : ∃ t, mg "TABLE" = some (.str "table" t)
  g_TooMany : mg "TooMany" = some (.ref (He.ga K "TooMany"))
  cl_Catalog : Cls K (He.ga K "Catalog")
  mk_Catalog : Mk K (He.ga K "Catalog") (He.ma K (He.ga K "Catalog") "__init__")
  me_Catalog_in_order : Meth K (He.ga K "Catalog") "in_order" (He.ma K (He.ga K "Catalog") "in_order")
  me_Catalog_part_of : Meth K (He.ga K "Catalog") "part_of" (He.ma K (He.ga K "Catalog") "part_of")
  me_Catalog_stretches : Meth K (He.ga K "Catalog") "stretches" (He.ma K (He.ga K "Catalog") "stretches")
  cld : ClD K
  x_InvalidKey : PySem.Sxvalue.Txt P K mg "InvalidKey" (He.ga K "InvalidKey") (He.ma K (He.ga K "InvalidKey") "__init__")
  x_InvalidName : PySem.Sxvalue.Txt P K mg "InvalidName" (He.ga K "InvalidName") (He.ma K (He.ga K "InvalidName") "__init__")
  x_InvalidSpan : PySem.Sxvalue.Txt P K mg "InvalidSpan" (He.ga K "InvalidSpan") (He.ma K (He.ga K "InvalidSpan") "__init__")
  x_InvalidSpans : PySem.Sxvalue.Txt P K mg "InvalidSpans" (He.ga K "InvalidSpans") (He.ma K (He.ga K "InvalidSpans") "__init__")
  x_NameTaken : PySem.Sxname.Txt P K mg "NameTaken" (He.ga K "NameTaken") (He.ma K (He.ga K "NameTaken") "__init__")
  x_Overlap : PySem.Sxname.Txt P K mg "Overlap" (He.ga K "Overlap") (He.ma K (He.ga K "Overlap") "__init__")
  x_TooMany : PySem.Sxbound.Txt P K mg "TooMany" (He.ga K "TooMany") (He.ma K (He.ga K "TooMany") "__init__")
section
variable {P : Program} {w : World} {K : PySem.W.Frag} {mg : Str → Option Value} {base : Heap}
abbrev s_is_integer : Stmt := top 15
theorem sc_is_integer : FnScope ["value"] ["value"] (defScope s_is_integer) := ⟨rfl, rfl, rfl, by decide +kernel, rfl, by decide +kernel, by decide +kernel⟩
theorem okf_is_integer {fd : FuncData} (T : Txt P w K mg) (F : FunD K "is_integer" "is_integer" (defArgs s_is_integer) (defBody s_is_integer) (defScope s_is_integer) [] [] (He.ga K "is_integer") fd)   : FnOk P w K mg base CX0 1 (He.ga K "is_integer") fd ["value"] (sp_is_integer K) := by
  have nd := sc_is_integer.nd
  refine F.ok (k := 0) sc_is_integer (len_is_integer K) (fun cdv A outer s H vs Q E hr h => ⟨t_is_integer K, PSs.nox ?_, pure_is_integer K vs H Q E h⟩)
  have hu : (A.deeper (envOfC "is_integer" (defScope s_is_integer) s.heap.objs.size (He.ga K "is_integer") cdv)).units + 64 < cLine := by
    have h1 := hr.un
    omega
  skip
  exact (pss_one (ps_ret ((pe_and (pe_callB call_isi (by rfl) T.b_isinstance (by decide +kernel) (pa_cons (pv 0) (pa_cons (pe_bltn (by rfl) T.b_int (by decide +kernel) rfl) pa_nil))) (pe_one (pe_not (pe_callB call_isi (by rfl) T.b_isinstance (by decide +kernel) (pa_cons (pv 0) (pa_cons (pe_bltn (by rfl) T.b_bool (by decide +kernel) rfl) pa_nil)))))))))
theorem ok_is_integer (T : Txt P w K mg) (FD : ∃ fd, FunD K "is_integer" "is_integer" (defArgs s_is_integer) (defBody s_is_integer) (defScope s_is_integer) [] [] (He.ga K "is_integer") fd) (hm : mg "is_integer" = some (.ref (He.ga K "is_integer")))   : Fok P w K mg base CX0 1 "is_integer" ["value"] (sp_is_integer K) := by
  obtain ⟨fd, F⟩ := FD
  exact ⟨⟨fd, okf_is_integer T F  , F.bindsN fun _ _ _ _ _ _ us hl => match us, hl with | [_], _ => rfl⟩, hm, F.kp⟩
abbrev s_is_name : Stmt := top 16
theorem sc_is_name : FnScope ["value", "sign"] ["value"] (defScope s_is_name) := ⟨rfl, rfl, rfl, by decide +kernel, rfl, by decide +kernel, by decide +kernel⟩
theorem okf_is_name {fd : FuncData} (T : Txt P w K mg) (F : FunD K "is_name" "is_name" (defArgs s_is_name) (defBody s_is_name) (defScope s_is_name) [] [] (He.ga K "is_name") fd)   : FnOk P w K mg base CX0 1 (He.ga K "is_name") fd ["value"] (sp_is_name K) := by
  have nd := sc_is_name.nd
  refine F.ok (k := 0) sc_is_name (len_is_name K) (fun cdv A outer s H vs Q E hr h => ⟨t_is_name K, PSs.nox ?_, pure_is_name K vs H Q E h⟩)
  have hu : (A.deeper (envOfC "is_name" (defScope s_is_name) s.heap.objs.size (He.ga K "is_name") cdv)).units + 64 < cLine := by
    have h1 := hr.un
    omega
  skip
  exact (pss_cons (ps_if (PW.pt (pw_or (pt_not (pt_val (pe_callB call_isi (by rfl) T.b_isinstance (by decide +kernel) (pa_cons (pv 0) (pa_cons (pe_bltn (by rfl) T.b_str (by decide +kernel) rfl) pa_nil))))) (pw_or (pt_cmpR (op_eqA hu) (pv 0) (pe_gstr (by rfl) T.c_TABLE) (nomark _)) (pw_or1 (pt_not (pt_chain op_leA op_leA (pe_int) (pe_callB call_lenB (by rfl) T.b_len (by decide +kernel) (pa_cons (pv 0) pa_nil)) (pe_gint (by rfl) T.c_MOST_LETTERS))))))) (pss_one (ps_ret (pe_bl))) pss_nil)
    (pss_one (ps_ret (pe_callB (cr_all rfl) (by rfl) T.b_all (by decide +kernel) (pa_cons (pe_lc (own := [("sign", 1)]) rfl nd (pi_seq (pv 0)) (blkOk_by (own := [("sign", 1)]) (N := ["value", "sign"]) (sc := defScope s_is_name) (by decide +kernel)) (fun _ _ _ _ _ => (pg_name (i := 1) nd (by rfl) (by first | exact Or.inl rfl | exact Or.inr rfl))) (fun _ _ _ _ _ => pts_nil) (fun _ _ _ _ _ => (pe_cmpR (op_inB hu) (pv 1) (pe_gstr (by rfl) T.c_LETTERS) (by rfl)))) pa_nil)))))
theorem ok_is_name (T : Txt P w K mg) (FD : ∃ fd, FunD K "is_name" "is_name" (defArgs s_is_name) (defBody s_is_name) (defScope s_is_name) [] [] (He.ga K "is_name") fd) (hm : mg "is_name" = some (.ref (He.ga K "is_name")))   : Fok P w K mg base CX0 1 "is_name" ["value"] (sp_is_name K) := by
  obtain ⟨fd, F⟩ := FD
  exact ⟨⟨fd, okf_is_name T F  , F.bindsN fun _ _ _ _ _ _ us hl => match us, hl with | [_], _ => rfl⟩, hm, F.kp⟩
abbrev s_is_limit : Stmt := top 17
theorem sc_is_limit : FnScope ["value"] ["value"] (defScope s_is_limit) := ⟨rfl, rfl, rfl, by decide +kernel, rfl, by decide +kernel, by decide +kernel⟩
theorem okf_is_limit {fd : FuncData} (T : Txt P w K mg) (F : FunD K "is_limit" "is_limit" (defArgs s_is_limit) (defBody s_is_limit) (defScope s_is_limit) [] [] (He.ga K "is_limit") fd) (F_is_integer : Fok P w K mg base CX0 1 "is_integer" ["value"] (sp_is_integer K))  : FnOk P w K mg base CX0 2 (He.ga K "is_limit") fd ["value"] (sp_is_limit K) := by
  have nd := sc_is_limit.nd
  refine F.ok (k := 1) sc_is_limit (len_is_limit K) (fun cdv A outer s H vs Q E hr h => ⟨t_is_limit K, PSs.nox ?_, pure_is_limit K vs H Q E h⟩)
  have hu : (A.deeper (envOfC "is_limit" (defScope s_is_limit) s.heap.objs.size (He.ga K "is_limit") cdv)).units + 64 < cLine := by
    have h1 := hr.un
    omega
  skip
  exact (pss_one (ps_ret ((pe_or (pe_cmpR op_isA (pv 0) (pe_non) (nomark _)) (pe_one (pe_callF F_is_integer (hr.mono (by decide)) (by rfl) pass0 (pa_cons (pv 0) pa_nil)))))))
theorem ok_is_limit (T : Txt P w K mg) (FD : ∃ fd, FunD K "is_limit" "is_limit" (defArgs s_is_limit) (defBody s_is_limit) (defScope s_is_limit) [] [] (He.ga K "is_limit") fd) (hm : mg "is_limit" = some (.ref (He.ga K "is_limit"))) (F_is_integer : Fok P w K mg base CX0 1 "is_integer" ["value"] (sp_is_integer K))  : Fok P w K mg base CX0 2 "is_limit" ["value"] (sp_is_limit K) := by
  obtain ⟨fd, F⟩ := FD
  exact ⟨⟨fd, okf_is_limit T F F_is_integer , F.bindsN fun _ _ _ _ _ _ us hl => match us, hl with | [_], _ => rfl⟩, hm, F.kp⟩
abbrev s_is_span : Stmt := top 18
theorem sc_is_span : FnScope ["value", "low", "high"] ["value"] (defScope s_is_span) := ⟨rfl, rfl, rfl, by decide +kernel, rfl, by decide +kernel, by decide +kernel⟩
theorem okf_is_span {fd : FuncData} (T : Txt P w K mg) (F : FunD K "is_span" "is_span" (defArgs s_is_span) (defBody s_is_span) (defScope s_is_span) [] [] (He.ga K "is_span") fd) (F_is_limit : Fok P w K mg base CX0 2 "is_limit" ["value"] (sp_is_limit K))  : FnOk P w K mg base CX0 3 (He.ga K "is_span") fd ["value"] (sp_is_span K) := by
  have nd := sc_is_span.nd
  refine F.ok (k := 2) sc_is_span (len_is_span K) (fun cdv A outer s H vs Q E hr h => ⟨t_is_span K, PSs.nox ?_, pure_is_span K vs H Q E h⟩)
  have hu : (A.deeper (envOfC "is_span" (defScope s_is_span) s.heap.objs.size (He.ga K "is_span") cdv)).units + 64 < cLine := by
    have h1 := hr.un
    omega
  skip
  exact (pss_cons (ps_if (PW.pt (pw_or (pt_not (pt_val (pe_callB call_isi (by rfl) T.b_isinstance (by decide +kernel) (pa_cons (pv 0) (pa_cons (pe_bltn (by rfl) T.b_tuple (by decide +kernel) rfl) pa_nil))))) (pw_or1 (pt_cmpR (op_neA hu) (pe_callB call_lenB (by rfl) T.b_len (by decide +kernel) (pa_cons (pv 0) pa_nil)) (pe_int) (nomark _))))) (pss_one (ps_ret (pe_bl))) pss_nil)
    (pss_cons (ps_asg (pv 0) (pg_tup (by rfl) (pgs_cons (pg_name (i := 1) nd (by rfl) (by first | exact Or.inl rfl | exact Or.inr rfl)) (pgs_cons (pg_name (i := 2) nd (by rfl) (by first | exact Or.inl rfl | exact Or.inr rfl)) pgs_nil))))
    (pss_cons (ps_if (PW.pt (pw_or (pt_not (pt_val (pe_callF F_is_limit (hr.mono (by decide)) (by rfl) pass0 (pa_cons (pv 1) pa_nil)))) (pw_or1 (pt_not (pt_val (pe_callF F_is_limit (hr.mono (by decide)) (by rfl) pass0 (pa_cons (pv 2) pa_nil))))))) (pss_one (ps_ret (pe_bl))) pss_nil)
    (pss_one (ps_ret ((pe_or (pe_cmpR op_isA (pv 1) (pe_non) (nomark _)) (pe_or (pe_cmpR op_isA (pv 2) (pe_non) (nomark _)) (pe_one (pe_cmpR op_ltA (pv 1) (pv 2) (nomark _)))))))))))
theorem ok_is_span (T : Txt P w K mg) (FD : ∃ fd, FunD K "is_span" "is_span" (defArgs s_is_span) (defBody s_is_span) (defScope s_is_span) [] [] (He.ga K "is_span") fd) (hm : mg "is_span" = some (.ref (He.ga K "is_span"))) (F_is_limit : Fok P w K mg base CX0 2 "is_limit" ["value"] (sp_is_limit K))  : Fok P w K mg base CX0 3 "is_span" ["value"] (sp_is_span K) := by
  obtain ⟨fd, F⟩ := FD
  exact ⟨⟨fd, okf_is_span T F F_is_limit , F.bindsN fun _ _ _ _ _ _ us hl => match us, hl with | [_], _ => rfl⟩, hm, F.kp⟩
abbrev s_need_span : Stmt := top 19
theorem sc_need_span : FnScope ["value"] ["value"] (defScope s_need_span) := ⟨rfl, rfl, rfl, by decide +kernel, rfl, by decide +kernel, by decide +kernel⟩
theorem okf_need_span {fd : FuncData} (T : Txt P w K mg) (F : FunD K "need_span" "need_span" (defArgs s_need_span) (defBody s_need_span) (defScope s_need_span) [] [] (He.ga K "need_span") fd) (F_is_span : Fok P w K mg base CX0 3 "is_span" ["value"] (sp_is_span K))  : FnOk P w K mg base (L2.CX P w) 4 (He.ga K "need_span") fd ["value"] (sp_need_span K) := by
  have nd := sc_need_span.nd
  refine F.ok (k := 3) sc_need_span (len_need_span K) (fun cdv A outer s H vs Q E hr h => ⟨t_need_span K E, ?_, pure_need_span K vs H Q E h⟩)
  have hu : (A.deeper (envOfC "need_span" (defScope s_need_span) s.heap.objs.size (He.ga K "need_span") cdv)).units + 64 < cLine := by
    have h1 := hr.un
    omega
  unfold t_need_span tw_need_span
  exact (pss_one (ps_if (pt_not (pt_val (pe_callF F_is_span (hr.mono (by decide)) (by rfl) pass0 (pa_cons (pv 0) pa_nil)))) (pss_one (ps_raisevalue (k := 1) rfl T.x_InvalidSpan (hr.mono (by decide)) (takes_of rfl rfl rfl rfl) (pa_cons (pv 0) pa_nil) (by rfl))) pss_nil))
theorem ok_need_span (T : Txt P w K mg) (FD : ∃ fd, FunD K "need_span" "need_span" (defArgs s_need_span) (defBody s_need_span) (defScope s_need_span) [] [] (He.ga K "need_span") fd) (hm : mg "need_span" = some (.ref (He.ga K "need_span"))) (F_is_span : Fok P w K mg base CX0 3 "is_span" ["value"] (sp_is_span K))  : Fok P w K mg base (L2.CX P w) 4 "need_span" ["value"] (sp_need_span K) := by
  obtain ⟨fd, F⟩ := FD
  exact ⟨⟨fd, okf_need_span T F F_is_span , F.bindsN fun _ _ _ _ _ _ us hl => match us, hl with | [_], _ => rfl⟩, hm, F.kp⟩
abbrev s_has_key : Stmt := top 20
theorem sc_has_key : FnScope ["span", "key", "low", "high"] ["span", "key"] (defScope s_has_key) := ⟨rfl, rfl, rfl, by decide +kernel, rfl, by decide +kernel, by decide +kernel⟩
theorem okf_has_key {fd : FuncData} (T : Txt P w K mg) (F : FunD K "has_key" "has_key" (defArgs s_has_key) (defBody s_has_key) (defScope s_has_key) [] [] (He.ga K "has_key") fd)   : FnOk P w K mg base CX0 1 (He.ga K "has_key") fd ["span", "key"] (sp_has_key K) := by
  have nd := sc_has_key.nd
  refine F.ok (k := 0) sc_has_key (len_has_key K) (fun cdv A outer s H vs Q E hr h => ⟨t_has_key K, PSs.nox ?_, pure_has_key K vs H Q E h⟩)
  have hu : (A.deeper (envOfC "has_key" (defScope s_has_key) s.heap.objs.size (He.ga K "has_key") cdv)).units + 64 < cLine := by
    have h1 := hr.un
    omega
  skip
  exact (pss_cons (ps_asg (pv 0) (pg_tup (by rfl) (pgs_cons (pg_name (i := 2) nd (by rfl) (by first | exact Or.inl rfl | exact Or.inr rfl)) (pgs_cons (pg_name (i := 3) nd (by rfl) (by first | exact Or.inl rfl | exact Or.inr rfl)) pgs_nil))))
    (pss_one (ps_ret ((pe_and ((pe_or (pe_cmpR op_isA (pv 2) (pe_non) (nomark _)) (pe_one (pe_cmpR op_leA (pv 2) (pv 1) (nomark _))))) (pe_one ((pe_or (pe_cmpR op_isA (pv 3) (pe_non) (nomark _)) (pe_one (pe_cmpR op_ltA (pv 1) (pv 3) (nomark _)))))))))))
theorem ok_has_key (T : Txt P w K mg) (FD : ∃ fd, FunD K "has_key" "has_key" (defArgs s_has_key) (defBody s_has_key) (defScope s_has_key) [] [] (He.ga K "has_key") fd) (hm : mg "has_key" = some (.ref (He.ga K "has_key")))   : Fok P w K mg base CX0 1 "has_key" ["span", "key"] (sp_has_key K) := by
  obtain ⟨fd, F⟩ := FD
  exact ⟨⟨fd, okf_has_key T F  , F.bindsN fun _ _ _ _ _ _ us hl => match us, hl with | [_, _], _ => rfl⟩, hm, F.kp⟩
abbrev s_greater_limit : Stmt := top 21
theorem sc_greater_limit : FnScope ["one", "other"] ["one", "other"] (defScope s_greater_limit) := ⟨rfl, rfl, rfl, by decide +kernel, rfl, by decide +kernel, by decide +kernel⟩
theorem okf_greater_limit {fd : FuncData} (T : Txt P w K mg) (F : FunD K "greater_limit" "greater_limit" (defArgs s_greater_limit) (defBody s_greater_limit) (defScope s_greater_limit) [] [] (He.ga K "greater_limit") fd)   : FnOk P w K mg base CX0 1 (He.ga K "greater_limit") fd ["one", "other"] (sp_greater_limit K) := by
  have nd := sc_greater_limit.nd
  refine F.ok (k := 0) sc_greater_limit (len_greater_limit K) (fun cdv A outer s H vs Q E hr h => ⟨t_greater_limit K, PSs.nox ?_, pure_greater_limit K vs H Q E h⟩)
  have hu : (A.deeper (envOfC "greater_limit" (defScope s_greater_limit) s.heap.objs.size (He.ga K "greater_limit") cdv)).units + 64 < cLine := by
    have h1 := hr.un
    omega
  skip
  exact (pss_cons (ps_if (PW.pt (pw_or (pt_cmpR op_isA (pv 0) (pe_non) (nomark _)) (pw_or1 (pt_cmpR op_isA (pv 1) (pe_non) (nomark _))))) (pss_one (ps_ret (pe_ifExp (pt_cmpR op_isA (pv 0) (pe_non) (nomark _)) (pv 1) (pv 0)))) pss_nil)
    (pss_one (ps_ret (pe_callB (call_maxA rfl) (by rfl) T.b_max (by decide +kernel) (pa_cons (pe_lst (pa_cons (pv 0) (pa_cons (pv 1) pa_nil))) pa_nil)))))
theorem ok_greater_limit (T : Txt P w K mg) (FD : ∃ fd, FunD K "greater_limit" "greater_limit" (defArgs s_greater_limit) (defBody s_greater_limit) (defScope s_greater_limit) [] [] (He.ga K "greater_limit") fd) (hm : mg "greater_limit" = some (.ref (He.ga K "greater_limit")))   : Fok P w K mg base CX0 1 "greater_limit" ["one", "other"] (sp_greater_limit K) := by
  obtain ⟨fd, F⟩ := FD
  exact ⟨⟨fd, okf_greater_limit T F  , F.bindsN fun _ _ _ _ _ _ us hl => match us, hl with | [_, _], _ => rfl⟩, hm, F.kp⟩
abbrev s_lesser_limit : Stmt := top 22
theorem sc_lesser_limit : FnScope ["one", "other"] ["one", "other"] (defScope s_lesser_limit) := ⟨rfl, rfl, rfl, by decide +kernel, rfl, by decide +kernel, by decide +kernel⟩
theorem okf_lesser_limit {fd : FuncData} (T : Txt P w K mg) (F : FunD K "lesser_limit" "lesser_limit" (defArgs s_lesser_limit) (defBody s_lesser_limit) (defScope s_lesser_limit) [] [] (He.ga K "lesser_limit") fd)   : FnOk P w K mg base CX0 1 (He.ga K "lesser_limit") fd ["one", "other"] (sp_lesser_limit K) := by
  have nd := sc_lesser_limit.nd
  refine F.ok (k := 0) sc_lesser_limit (len_lesser_limit K) (fun cdv A outer s H vs Q E hr h => ⟨t_lesser_limit K, PSs.nox ?_, pure_lesser_limit K vs H Q E h⟩)
  have hu : (A.deeper (envOfC "lesser_limit" (defScope s_lesser_limit) s.heap.objs.size (He.ga K "lesser_limit") cdv)).units + 64 < cLine := by
    have h1 := hr.un
    omega
  skip
  exact (pss_cons (ps_if (PW.pt (pw_or (pt_cmpR op_isA (pv 0) (pe_non) (nomark _)) (pw_or1 (pt_cmpR op_isA (pv 1) (pe_non) (nomark _))))) (pss_one (ps_ret (pe_ifExp (pt_cmpR op_isA (pv 0) (pe_non) (nomark _)) (pv 1) (pv 0)))) pss_nil)
    (pss_one (ps_ret (pe_callB (call_minA rfl) (by rfl) T.b_min (by decide +kernel) (pa_cons (pe_lst (pa_cons (pv 0) (pa_cons (pv 1) pa_nil))) pa_nil)))))
theorem ok_lesser_limit (T : Txt P w K mg) (FD : ∃ fd, FunD K "lesser_limit" "lesser_limit" (defArgs s_lesser_limit) (defBody s_lesser_limit) (defScope s_lesser_limit) [] [] (He.ga K "lesser_limit") fd) (hm : mg "lesser_limit" = some (.ref (He.ga K "lesser_limit")))   : Fok P w K mg base CX0 1 "lesser_limit" ["one", "other"] (sp_lesser_limit K) := by
  obtain ⟨fd, F⟩ := FD
  exact ⟨⟨fd, okf_lesser_limit T F  , F.bindsN fun _ _ _ _ _ _ us hl => match us, hl with | [_, _], _ => rfl⟩, hm, F.kp⟩
abbrev s_common : Stmt := top 23
theorem sc_common : FnScope ["one", "other", "found"] ["one", "other"] (defScope s_common) := ⟨rfl, rfl, rfl, by decide +kernel, rfl, by decide +kernel, by decide +kernel⟩
theorem okf_common {fd : FuncData} (T : Txt P w K mg) (F : FunD K "common" "common" (defArgs s_common) (defBody s_common) (defScope s_common) [] [] (He.ga K "common") fd) (F_need_span : Fok P w K mg base (L2.CX P w) 4 "need_span" ["value"] (sp_need_span K)) (F_lesser_limit : Fok P w K mg base CX0 1 "lesser_limit" ["one", "other"] (sp_lesser_limit K)) (F_greater_limit : Fok P w K mg base CX0 1 "greater_limit" ["one", "other"] (sp_greater_limit K)) (F_is_span : Fok P w K mg base CX0 3 "is_span" ["value"] (sp_is_span K))  : FnOk P w K mg base (L2.CX P w) 5 (He.ga K "common") fd ["one", "other"] (sp_common K) := by
  have nd := sc_common.nd
  refine F.ok (k := 4) sc_common (len_common K) (fun cdv A outer s H vs Q E hr h => ⟨t_common K E, ?_, pure_common K vs H Q E h⟩)
  have hu : (A.deeper (envOfC "common" (defScope s_common) s.heap.objs.size (He.ga K "common") cdv)).units + 64 < cLine := by
    have h1 := hr.un
    omega
  unfold t_common tw_common
  exact (pss_cons (ps_expr (pe_callG F_need_span (hr.mono (by decide)) (by rfl) (takes_of rfl rfl rfl rfl) (pa_cons (pv 0) pa_nil)))
    (pss_cons (ps_expr (pe_callG F_need_span (hr.mono (by decide)) (by rfl) (takes_of rfl rfl rfl rfl) (pa_cons (pv 1) pa_nil)))
    (pss_cons (ps_set (i := 2) nd (by rfl) (Or.inl rfl) (pe_tup (pa_cons (pe_callF F_greater_limit (hr.mono (by decide)) (by rfl) pass0 (pa_cons (pe_ix (ix_B hu) (pv 0) (pe_int) (fun _ _ => rfl)) (pa_cons (pe_ix (ix_B hu) (pv 1) (pe_int) (fun _ _ => rfl)) pa_nil))) (pa_cons (pe_callF F_lesser_limit (hr.mono (by decide)) (by rfl) pass0 (pa_cons (pe_ix (ix_B hu) (pv 0) (pe_int) (fun _ _ => rfl)) (pa_cons (pe_ix (ix_B hu) (pv 1) (pe_int) (fun _ _ => rfl)) pa_nil))) pa_nil))))
    (pss_one (ps_ret (pe_ifExp (pt_val (pe_callF F_is_span (hr.mono (by decide)) (by rfl) pass0 (pa_cons (pv 2) pa_nil))) (pv 2) (pe_non)))))))
theorem ok_common (T : Txt P w K mg) (FD : ∃ fd, FunD K "common" "common" (defArgs s_common) (defBody s_common) (defScope s_common) [] [] (He.ga K "common") fd) (hm : mg "common" = some (.ref (He.ga K "common"))) (F_need_span : Fok P w K mg base (L2.CX P w) 4 "need_span" ["value"] (sp_need_span K)) (F_lesser_limit : Fok P w K mg base CX0 1 "lesser_limit" ["one", "other"] (sp_lesser_limit K)) (F_greater_limit : Fok P w K mg base CX0 1 "greater_limit" ["one", "other"] (sp_greater_limit K)) (F_is_span : Fok P w K mg base CX0 3 "is_span" ["value"] (sp_is_span K))  : Fok P w K mg base (L2.CX P w) 5 "common" ["one", "other"] (sp_common K) := by
  obtain ⟨fd, F⟩ := FD
  exact ⟨⟨fd, okf_common T F F_need_span F_lesser_limit F_greater_limit F_is_span , F.bindsN fun _ _ _ _ _ _ us hl => match us, hl with | [_, _], _ => rfl⟩, hm, F.kp⟩
abbrev s_meet : Stmt := top 24
theorem sc_meet : FnScope ["one", "other"] ["one", "other"] (defScope s_meet) := ⟨rfl, rfl, rfl, by decide +kernel, rfl, by decide +kernel, by decide +kernel⟩
theorem okf_meet {fd : FuncData} (T : Txt P w K mg) (F : FunD K "meet" "meet" (defArgs s_meet) (defBody s_meet) (defScope s_meet) [] [] (He.ga K "meet") fd) (F_common : Fok P w K mg base (L2.CX P w) 5 "common" ["one", "other"] (sp_common K))  : FnOk P w K mg base (L2.CX P w) 6 (He.ga K "meet") fd ["one", "other"] (sp_meet K) := by
  have nd := sc_meet.nd
  refine F.ok (k := 5) sc_meet (len_meet K) (fun cdv A outer s H vs Q E hr h => ⟨t_meet K E, ?_, pure_meet K vs H Q E h⟩)
  have hu : (A.deeper (envOfC "meet" (defScope s_meet) s.heap.objs.size (He.ga K "meet") cdv)).units + 64 < cLine := by
    have h1 := hr.un
    omega
  unfold t_meet tw_meet
  exact (pss_one (ps_ret (pe_cmpR op_notA (pe_callG F_common (hr.mono (by decide)) (by rfl) (takes_of rfl rfl rfl rfl) (pa_cons (pv 0) (pa_cons (pv 1) pa_nil))) (pe_non) (nomark _))))
theorem ok_meet (T : Txt P w K mg) (FD : ∃ fd, FunD K "meet" "meet" (defArgs s_meet) (defBody s_meet) (defScope s_meet) [] [] (He.ga K "meet") fd) (hm : mg "meet" = some (.ref (He.ga K "meet"))) (F_common : Fok P w K mg base (L2.CX P w) 5 "common" ["one", "other"] (sp_common K))  : Fok P w K mg base (L2.CX P w) 6 "meet" ["one", "other"] (sp_meet K) := by
  obtain ⟨fd, F⟩ := FD
  exact ⟨⟨fd, okf_meet T F F_common , F.bindsN fun _ _ _ _ _ _ us hl => match us, hl with | [_, _], _ => rfl⟩, hm, F.kp⟩
abbrev s_need_spans : Stmt := top 30
theorem sc_need_spans : FnScope ["spans", "name", "other"] ["spans"] (defScope s_need_spans) := ⟨rfl, rfl, rfl, by decide +kernel, rfl, by decide +kernel, by decide +kernel⟩
theorem okf_need_spans {fd : FuncData} (T : Txt P w K mg) (F : FunD K "need_spans" "need_spans" (defArgs s_need_spans) (defBody s_need_spans) (defScope s_need_spans) [] [] (He.ga K "need_spans") fd) (F_is_name : Fok P w K mg base CX0 1 "is_name" ["value"] (sp_is_name K)) (F_is_span : Fok P w K mg base CX0 3 "is_span" ["value"] (sp_is_span K)) (F_meet : Fok P w K mg base (L2.CX P w) 6 "meet" ["one", "other"] (sp_meet K))  : FnOk P w K mg base (L2.CX P w) 7 (He.ga K "need_spans") fd ["spans"] (sp_need_spans K) := by
  have nd := sc_need_spans.nd
  refine F.ok (k := 6) sc_need_spans (len_need_spans K) (fun cdv A outer s H vs Q E hr h => ⟨t_need_spans K E, ?_, pure_need_spans K vs H Q E h⟩)
  have hu : (A.deeper (envOfC "need_spans" (defScope s_need_spans) s.heap.objs.size (He.ga K "need_spans") cdv)).units + 64 < cLine := by
    have h1 := hr.un
    omega
  unfold t_need_spans tw_need_spans
  exact (pss_cons (ps_if (pt_not (pt_val (pe_callB call_isi (by rfl) T.b_isinstance (by decide +kernel) (pa_cons (pv 0) (pa_cons (pe_bltn (by rfl) T.b_dict (by decide +kernel) rfl) pa_nil))))) (pss_one (ps_raisevalue (k := 1) rfl T.x_InvalidSpans (hr.mono (by decide)) (takes_of rfl rfl rfl rfl) (pa_cons (pv 0) pa_nil) (by rfl))) pss_nil)
    (pss_cons (ps_lockW (takes_of rfl rfl rfl rfl) (fun W2 tk2 => ps_for (passes_of rfl) rfl (pi_keys (pv 0)) (pg_name (i := 1) nd (by rfl) (by first | exact Or.inl rfl | exact Or.inr rfl)) (pss_one (ps_if (pt_not (pt_val (pe_callF F_is_name (hr.mono (by decide)) (by rfl) pass0 (pa_cons (pv 1) pa_nil)))) (pss_one (ps_raisevalue (k := 1) rfl T.x_InvalidName (hr.mono (by decide)) tk2 (pa_cons (pv 1) pa_nil) (by rfl))) pss_nil))))
    (pss_cons (ps_for (passes_of rfl) rfl (pi_seq (pe_callB (call_sortA rfl) (by rfl) T.b_sorted (by decide +kernel) (pa_cons (pv 0) pa_nil))) (pg_name (i := 1) nd (by rfl) (by first | exact Or.inl rfl | exact Or.inr rfl)) (pss_one (ps_if (pt_not (pt_val (pe_callF F_is_span (hr.mono (by decide)) (by rfl) pass0 (pa_cons (pe_ix (ix_B hu) (pv 0) (pv 1) (fun _ _ => rfl)) pa_nil)))) (pss_one (ps_raisevalue (k := 1) rfl T.x_InvalidSpan (hr.mono (by decide)) (takes_of rfl rfl rfl rfl) (pa_cons (pe_ix (ix_B hu) (pv 0) (pv 1) (fun _ _ => rfl)) pa_nil) (by rfl))) pss_nil)))
    (pss_one (ps_for (passes_of rfl) rfl (pi_seq (pe_callB (call_sortA rfl) (by rfl) T.b_sorted (by decide +kernel) (pa_cons (pv 0) pa_nil))) (pg_name (i := 1) nd (by rfl) (by first | exact Or.inl rfl | exact Or.inr rfl)) (pss_one (ps_if (pt_val (pe_callB (cr_any rfl) (by rfl) T.b_any (by decide +kernel) (pa_cons (pe_lockO (pe_lc (own := [("other", 2)]) rfl nd (pi_keys (pv 0)) (blkOk_by (own := [("other", 2)]) (N := ["spans", "name", "other"]) (sc := defScope s_need_spans) (by decide +kernel)) (fun _ _ _ _ _ => (pg_name (i := 2) nd (by rfl) (by first | exact Or.inl rfl | exact Or.inr rfl))) (fun _ _ _ _ _ => (pts_one (pt_cmpR op_ltA (pv 2) (pv 1) (nomark _)))) (fun _ _ _ _ _ => (pe_callF F_meet (hr.mono (by decide)) (by rfl) passL (pa_cons (pe_ix (ix_B hu) (pv 0) (pv 1) (fun _ _ => rfl)) (pa_cons (pe_ix (ix_B hu) (pv 0) (pv 2) (fun _ _ => rfl)) pa_nil)))))) pa_nil))) (pss_one (ps_raisename (k := 1) rfl T.x_Overlap (hr.mono (by decide)) (takes_of rfl rfl rfl rfl) (pa_cons (pv 1) pa_nil) (by rfl))) pss_nil)))))))
theorem ok_need_spans (T : Txt P w K mg) (FD : ∃ fd, FunD K "need_spans" "need_spans" (defArgs s_need_spans) (defBody s_need_spans) (defScope s_need_spans) [] [] (He.ga K "need_spans") fd) (hm : mg "need_spans" = some (.ref (He.ga K "need_spans"))) (F_is_name : Fok P w K mg base CX0 1 "is_name" ["value"] (sp_is_name K)) (F_is_span : Fok P w K mg base CX0 3 "is_span" ["value"] (sp_is_span K)) (F_meet : Fok P w K mg base (L2.CX P w) 6 "meet" ["one", "other"] (sp_meet K))  : Fok P w K mg base (L2.CX P w) 7 "need_spans" ["spans"] (sp_need_spans K) := by
  obtain ⟨fd, F⟩ := FD
  exact ⟨⟨fd, okf_need_spans T F F_is_name F_is_span F_meet , F.bindsN fun _ _ _ _ _ _ us hl => match us, hl with | [_], _ => rfl⟩, hm, F.kp⟩
abbrev s_need_rest : Stmt := top 31
theorem sc_need_rest : FnScope ["spans", "rest"] ["spans", "rest"] (defScope s_need_rest) := ⟨rfl, rfl, rfl, by decide +kernel, rfl, by decide +kernel, by decide +kernel⟩
theorem okf_need_rest {fd : FuncData} (T : Txt P w K mg) (F : FunD K "need_rest" "need_rest" (defArgs s_need_rest) (defBody s_need_rest) (defScope s_need_rest) [] [] (He.ga K "need_rest") fd) (F_is_name : Fok P w K mg base CX0 1 "is_name" ["value"] (sp_is_name K))  : FnOk P w K mg base (L2.CX P w) 2 (He.ga K "need_rest") fd ["spans", "rest"] (sp_need_rest K) := by
  have nd := sc_need_rest.nd
  refine F.ok (k := 1) sc_need_rest (len_need_rest K) (fun cdv A outer s H vs Q E hr h => ⟨t_need_rest K E, ?_, pure_need_rest K vs H Q E h⟩)
  have hu : (A.deeper (envOfC "need_rest" (defScope s_need_rest) s.heap.objs.size (He.ga K "need_rest") cdv)).units + 64 < cLine := by
    have h1 := hr.un
    omega
  unfold t_need_rest tw_need_rest
  exact (pss_cons (ps_if (PW.pt (pw_and (pt_cmpR op_notA (pv 1) (pe_non) (nomark _)) (pw_and1 (pt_not (pt_val (pe_callF F_is_name (hr.mono (by decide)) (by rfl) pass0 (pa_cons (pv 1) pa_nil))))))) (pss_one (ps_raisevalue (k := 1) rfl T.x_InvalidName (hr.mono (by decide)) (takes_of rfl rfl rfl rfl) (pa_cons (pv 1) pa_nil) (by rfl))) pss_nil)
    (pss_one (ps_if (PW.pt (pw_and (pt_cmpR op_notA (pv 1) (pe_non) (nomark _)) (pw_and1 (pt_cmpR (op_inB hu) (pv 1) (pv 0) (by rfl))))) (pss_one (ps_raisename (k := 1) rfl T.x_NameTaken (hr.mono (by decide)) (takes_of rfl rfl rfl rfl) (pa_cons (pv 1) pa_nil) (by rfl))) pss_nil)))
theorem ok_need_rest (T : Txt P w K mg) (FD : ∃ fd, FunD K "need_rest" "need_rest" (defArgs s_need_rest) (defBody s_need_rest) (defScope s_need_rest) [] [] (He.ga K "need_rest") fd) (hm : mg "need_rest" = some (.ref (He.ga K "need_rest"))) (F_is_name : Fok P w K mg base CX0 1 "is_name" ["value"] (sp_is_name K))  : Fok P w K mg base (L2.CX P w) 2 "need_rest" ["spans", "rest"] (sp_need_rest K) := by
  obtain ⟨fd, F⟩ := FD
  exact ⟨⟨fd, okf_need_rest T F F_is_name , F.bindsN fun _ _ _ _ _ _ us hl => match us, hl with | [_, _], _ => rfl⟩, hm, F.kp⟩
abbrev s_order_of : Stmt := top 32
theorem sc_order_of : FnScope ["span", "low", "high"] ["span"] (defScope s_order_of) := ⟨rfl, rfl, rfl, by decide +kernel, rfl, by decide +kernel, by decide +kernel⟩
theorem okf_order_of {fd : FuncData} (T : Txt P w K mg) (F : FunD K "order_of" "order_of" (defArgs s_order_of) (defBody s_order_of) (defScope s_order_of) [] [] (He.ga K "order_of") fd)   : FnOk P w K mg base CX0 1 (He.ga K "order_of") fd ["span"] (sp_order_of K) := by
  have nd := sc_order_of.nd
  refine F.ok (k := 0) sc_order_of (len_order_of K) (fun cdv A outer s H vs Q E hr h => ⟨t_order_of K, PSs.nox ?_, pure_order_of K vs H Q E h⟩)
  have hu : (A.deeper (envOfC "order_of" (defScope s_order_of) s.heap.objs.size (He.ga K "order_of") cdv)).units + 64 < cLine := by
    have h1 := hr.un
    omega
  skip
  exact (pss_cons (ps_asg (pv 0) (pg_tup (by rfl) (pgs_cons (pg_name (i := 1) nd (by rfl) (by first | exact Or.inl rfl | exact Or.inr rfl)) (pgs_cons (pg_name (i := 2) nd (by rfl) (by first | exact Or.inl rfl | exact Or.inr rfl)) pgs_nil))))
    (pss_cons (ps_if (pt_cmpR op_notA (pv 1) (pe_non) (nomark _)) (pss_one (ps_ret (pe_tup (pa_cons (pe_int) (pa_cons (pv 1) pa_nil))))) pss_nil)
    (pss_one (ps_ret (pe_tup (pa_cons (pe_int) (pa_cons (pe_int) pa_nil)))))))
theorem ok_order_of (T : Txt P w K mg) (FD : ∃ fd, FunD K "order_of" "order_of" (defArgs s_order_of) (defBody s_order_of) (defScope s_order_of) [] [] (He.ga K "order_of") fd) (hm : mg "order_of" = some (.ref (He.ga K "order_of")))   : Fok P w K mg base CX0 1 "order_of" ["span"] (sp_order_of K) := by
  obtain ⟨fd, F⟩ := FD
  exact ⟨⟨fd, okf_order_of T F  , F.bindsN fun _ _ _ _ _ _ us hl => match us, hl with | [_], _ => rfl⟩, hm, F.kp⟩
abbrev s_is_before : Stmt := top 33
theorem sc_is_before : FnScope ["one", "other"] ["one", "other"] (defScope s_is_before) := ⟨rfl, rfl, rfl, by decide +kernel, rfl, by decide +kernel, by decide +kernel⟩
theorem okf_is_before {fd : FuncData} (T : Txt P w K mg) (F : FunD K "is_before" "is_before" (defArgs s_is_before) (defBody s_is_before) (defScope s_is_before) [] [] (He.ga K "is_before") fd) (F_order_of : Fok P w K mg base CX0 1 "order_of" ["span"] (sp_order_of K))  : FnOk P w K mg base CX0 2 (He.ga K "is_before") fd ["one", "other"] (sp_is_before K) := by
  have nd := sc_is_before.nd
  refine F.ok (k := 1) sc_is_before (len_is_before K) (fun cdv A outer s H vs Q E hr h => ⟨t_is_before K, PSs.nox ?_, pure_is_before K vs H Q E h⟩)
  have hu : (A.deeper (envOfC "is_before" (defScope s_is_before) s.heap.objs.size (He.ga K "is_before") cdv)).units + 64 < cLine := by
    have h1 := hr.un
    omega
  skip
  exact (pss_one (ps_ret (pe_cmpR (op_ltT (Nat.lt_of_le_of_lt (Nat.le_add_right _ 64) hu)) (pe_callF F_order_of (hr.mono (by decide)) (by rfl) pass0 (pa_cons (pv 0) pa_nil)) (pe_callF F_order_of (hr.mono (by decide)) (by rfl) pass0 (pa_cons (pv 1) pa_nil)) (nomark _))))
theorem ok_is_before (T : Txt P w K mg) (FD : ∃ fd, FunD K "is_before" "is_before" (defArgs s_is_before) (defBody s_is_before) (defScope s_is_before) [] [] (He.ga K "is_before") fd) (hm : mg "is_before" = some (.ref (He.ga K "is_before"))) (F_order_of : Fok P w K mg base CX0 1 "order_of" ["span"] (sp_order_of K))  : Fok P w K mg base CX0 2 "is_before" ["one", "other"] (sp_is_before K) := by
  obtain ⟨fd, F⟩ := FD
  exact ⟨⟨fd, okf_is_before T F F_order_of , F.bindsN fun _ _ _ _ _ _ us hl => match us, hl with | [_, _], _ => rfl⟩, hm, F.kp⟩
abbrev s_Catalog_init : Stmt := mtop 34 0
theorem sc_Catalog_init : FnScope ["self", "spans", "rest", "given", "name"] ["self", "spans", "rest"] (defScope s_Catalog_init) := ⟨rfl, rfl, rfl, by decide +kernel, rfl, by decide +kernel, by decide +kernel⟩
theorem okf_Catalog_init {fd : FuncData} (T : Txt P w K mg) (F : FunD K "__init__" "Catalog.__init__" (defArgs s_Catalog_init) (defBody s_Catalog_init) (defScope s_Catalog_init) [.non] [("rest", .non)] (He.ma K (He.ga K "Catalog") "__init__") fd) (F_need_spans : Fok P w K mg base (L2.CX P w) 7 "need_spans" ["spans"] (sp_need_spans K)) (F_need_rest : Fok P w K mg base (L2.CX P w) 2 "need_rest" ["spans", "rest"] (sp_need_rest K))  : FnOk P w K mg base (L2.CX P w) 8 (He.ma K (He.ga K "Catalog") "__init__") fd ["self", "spans", "rest"] (sp_Catalog_init K) := by
  have nd := sc_Catalog_init.nd
  refine F.ok (k := 7) sc_Catalog_init (len_Catalog_init K) (fun cdv A outer s H vs Q E hr h => ⟨t_Catalog_init K E, ?_, pure_Catalog_init K vs H Q E T.cld h⟩)
  have hu : (A.deeper (envOfC "Catalog.__init__" (defScope s_Catalog_init) s.heap.objs.size (He.ma K (He.ga K "Catalog") "__init__") cdv)).units + 64 < cLine := by
    have h1 := hr.un
    omega
  unfold t_Catalog_init tw_Catalog_init
  exact (pss_cons (ps_set (i := 3) nd (by rfl) (Or.inr rfl) (pe_ifExp (pt_cmpR op_isA (pv 1) (pe_non) (nomark _)) (pe_dnewK) (pv 1)))
    (pss_cons (ps_expr (pe_callG F_need_spans (hr.mono (by decide)) (by rfl) (takes_of rfl rfl rfl rfl) (pa_cons (pv 3) pa_nil)))
    (pss_cons (ps_expr (pe_callG F_need_rest (hr.mono (by decide)) (by rfl) (takes_of rfl rfl rfl rfl) (pa_cons (pv 3) (pa_cons (pv 2) pa_nil))))
    (pss_cons (ps_if (pt_cmpR op_gtA (pe_op op_addA (pe_callB call_lenB (by rfl) T.b_len (by decide +kernel) (pa_cons (pv 3) pa_nil)) (pe_callTy call_intA (by rfl) T.b_int (by decide +kernel) (pa_cons (pe_cmpR op_notA (pv 2) (pe_non) (nomark _)) pa_nil))) (pe_gint (by rfl) T.c_MOST_PARTS) (nomark _)) (pss_one (ps_raisebound (k := 1) rfl T.x_TooMany (hr.mono (by decide)) (takes_of rfl rfl rfl rfl) (pa_cons (pe_gint (by rfl) T.c_MOST_PARTS) pa_nil) (by rfl))) pss_nil)
    (pss_cons (ps_fld (pv 0) (pe_dc (own := [("name", 4)]) rfl nd (pi_seq (pe_callB (call_sortA rfl) (by rfl) T.b_sorted (by decide +kernel) (pa_cons (pv 3) pa_nil))) (blkOk_by (own := [("name", 4)]) (N := ["self", "spans", "rest", "given", "name"]) (sc := defScope s_Catalog_init) (by decide +kernel)) (fun _ _ _ _ _ => (pg_name (i := 4) nd (by rfl) (by first | exact Or.inl rfl | exact Or.inr rfl))) (fun _ _ _ _ _ => pts_nil) (fun _ _ _ _ _ => (pv 4)) (fun _ _ _ _ _ => (pe_ix (ix_B hu) (pv 3) (pv 4) (fun _ _ => rfl)))) (by rfl))
    (pss_one (ps_fld (pv 0) (pv 2) (by rfl))))))))
theorem okmG_Catalog_init_1_rest (T : Txt P w K mg) (FD : ∃ fd, FunD K "__init__" "Catalog.__init__" (defArgs s_Catalog_init) (defBody s_Catalog_init) (defScope s_Catalog_init) [.non] [("rest", .non)] (He.ma K (He.ga K "Catalog") "__init__") fd) (F_need_spans : Fok P w K mg base (L2.CX P w) 7 "need_spans" ["spans"] (sp_need_spans K)) (F_need_rest : Fok P w K mg base (L2.CX P w) 2 "need_rest" ["spans", "rest"] (sp_need_rest K))  : FokM P w K mg base (L2.CX P w) 8 "Catalog" "__init__" ["self", "spans", "rest"] (sp_Catalog_init K) 1 ["rest"] [] [0, 1, 2] := by
  obtain ⟨fd, F⟩ := FD
  obtain ⟨ds, rd, b⟩ := mbindsD (n := 1) (ks := ["rest"]) (ps := ["self", "spans", "rest"]) (p := [0, 1, 2]) (j := 1) (ms := []) F (by simp) (by simp) (fun _ h => by cases h) fun T D doc pm an cdv ct us its mv ws h1 h2 h3 h4 => match us, its, mv, ws, h1, h2, h3, h4 with
    | [_, _], [_], [], [_], _, _, _, _ => ⟨_, rfl, rfl⟩
  exact ⟨⟨fd, ds, rd, okf_Catalog_init T F F_need_spans F_need_rest , b⟩⟩
abbrev s_Catalog_part_of : Stmt := mtop 34 4
theorem sc_Catalog_part_of : FnScope ["self", "key", "name", "span"] ["self", "key"] (defScope s_Catalog_part_of) := ⟨rfl, rfl, rfl, by decide +kernel, rfl, by decide +kernel, by decide +kernel⟩
theorem okf_Catalog_part_of {fd : FuncData} (T : Txt P w K mg) (F : FunD K "part_of" "Catalog.part_of" (defArgs s_Catalog_part_of) (defBody s_Catalog_part_of) (defScope s_Catalog_part_of) [] [] (He.ma K (He.ga K "Catalog") "part_of") fd) (F_is_integer : Fok P w K mg base CX0 1 "is_integer" ["value"] (sp_is_integer K)) (F_has_key : Fok P w K mg base CX0 1 "has_key" ["span", "key"] (sp_has_key K))  : FnOk P w K mg base (L2.CX P w) 2 (He.ma K (He.ga K "Catalog") "part_of") fd ["self", "key"] (sp_Catalog_part_of K) := by
  have nd := sc_Catalog_part_of.nd
  refine F.ok (k := 1) sc_Catalog_part_of (len_Catalog_part_of K) (fun cdv A outer s H vs Q E hr h => ⟨t_Catalog_part_of K E, ?_, pure_Catalog_part_of K vs H Q E T.cld h⟩)
  have hu : (A.deeper (envOfC "Catalog.part_of" (defScope s_Catalog_part_of) s.heap.objs.size (He.ma K (He.ga K "Catalog") "part_of") cdv)).units + 64 < cLine := by
    have h1 := hr.un
    omega
  unfold t_Catalog_part_of tw_Catalog_part_of
  exact (pss_cons (ps_if (pt_not (pt_val (pe_callF F_is_integer (hr.mono (by decide)) (by rfl) pass0 (pa_cons (pv 1) pa_nil)))) (pss_one (ps_raisevalue (k := 1) rfl T.x_InvalidKey (hr.mono (by decide)) (takes_of rfl rfl rfl rfl) (pa_cons (pv 1) pa_nil) (by rfl))) pss_nil)
    (pss_cons (ps_lockW (takes_of rfl rfl rfl rfl) (fun W2 tk2 => ps_for (passes_of rfl) rfl (pi_items (pe_fld (pv 0) (by rfl))) (pg_tup (by rfl) (pgs_cons (pg_name (i := 2) nd (by rfl) (by first | exact Or.inl rfl | exact Or.inr rfl)) (pgs_cons (pg_name (i := 3) nd (by rfl) (by first | exact Or.inl rfl | exact Or.inr rfl)) pgs_nil))) (pss_one (ps_if (pt_val (pe_callF F_has_key (hr.mono (by decide)) (by rfl) pass0 (pa_cons (pv 3) (pa_cons (pv 1) pa_nil)))) (pss_one (ps_ret (pv 2))) pss_nil))))
    (pss_one (ps_ret (pe_fld (pv 0) (by rfl))))))
theorem okmG_Catalog_part_of_1_ (T : Txt P w K mg) (FD : ∃ fd, FunD K "part_of" "Catalog.part_of" (defArgs s_Catalog_part_of) (defBody s_Catalog_part_of) (defScope s_Catalog_part_of) [] [] (He.ma K (He.ga K "Catalog") "part_of") fd) (F_is_integer : Fok P w K mg base CX0 1 "is_integer" ["value"] (sp_is_integer K)) (F_has_key : Fok P w K mg base CX0 1 "has_key" ["span", "key"] (sp_has_key K))  : FokM P w K mg base (L2.CX P w) 2 "Catalog" "part_of" ["self", "key"] (sp_Catalog_part_of K) 1 [] [] [0, 1] := by
  obtain ⟨fd, F⟩ := FD
  exact ⟨⟨fd, [], .nil, okf_Catalog_part_of T F F_is_integer F_has_key , mbinds F fun _ _ _ _ _ _ us ws h1 h2 => match us, ws, h1, h2 with | [_, _], [], _, _ => rfl⟩⟩
abbrev s_Catalog_in_order : Stmt := mtop 34 5
theorem sc_Catalog_in_order : FnScope ["self", "found", "name", "span", "at", "other"] ["self"] (defScope s_Catalog_in_order) := ⟨rfl, rfl, rfl, by decide +kernel, rfl, by decide +kernel, by decide +kernel⟩
theorem okf_Catalog_in_order {fd : FuncData} (T : Txt P w K mg) (F : FunD K "in_order" "Catalog.in_order" (defArgs s_Catalog_in_order) (defBody s_Catalog_in_order) (defScope s_Catalog_in_order) [] [] (He.ma K (He.ga K "Catalog") "in_order") fd) (F_is_before : Fok P w K mg base CX0 2 "is_before" ["one", "other"] (sp_is_before K))  : FnOk P w K mg base CX0 3 (He.ma K (He.ga K "Catalog") "in_order") fd ["self"] (sp_Catalog_in_order K) := by
  have nd := sc_Catalog_in_order.nd
  refine F.ok (k := 2) sc_Catalog_in_order (len_Catalog_in_order K) (fun cdv A outer s H vs Q E hr h => ⟨t_Catalog_in_order K, PSs.nox ?_, pure_Catalog_in_order K vs H Q E T.cld h⟩)
  have hu : (A.deeper (envOfC "Catalog.in_order" (defScope s_Catalog_in_order) s.heap.objs.size (He.ma K (He.ga K "Catalog") "in_order") cdv)).units + 64 < cLine := by
    have h1 := hr.un
    omega
  skip
  exact (pss_cons (ps_set (i := 1) nd (by rfl) (Or.inl rfl) (pe_lst pa_nil))
    (pss_cons (ps_lockW takes_no (fun W2 tk2 => ps_for PassesOwn.never rfl (pi_items (pe_fld (pv 0) (by rfl))) (pg_tup (by rfl) (pgs_cons (pg_name (i := 2) nd (by rfl) (by first | exact Or.inl rfl | exact Or.inr rfl)) (pgs_cons (pg_name (i := 3) nd (by rfl) (by first | exact Or.inl rfl | exact Or.inr rfl)) pgs_nil))) (pss_cons (ps_set (i := 4) nd (by rfl) (Or.inl rfl) (pe_callB call_lenB (by rfl) T.b_len (by decide +kernel) (pa_cons (pe_lc (own := [("other", 5)]) rfl nd (pi_seq (pv 1)) (blkOk_by (own := [("other", 5)]) (N := ["self", "found", "name", "span", "at", "other"]) (sc := defScope s_Catalog_in_order) (by decide +kernel)) (fun _ _ _ _ _ => (pg_name (i := 5) nd (by rfl) (by first | exact Or.inl rfl | exact Or.inr rfl))) (fun _ _ _ _ _ => (pts_one (pt_val (pe_callF F_is_before (hr.mono (by decide)) (by rfl) pass0 (pa_cons (pe_ix (ix_B hu) (pe_fld (pv 0) (by rfl)) (pv 5) (fun _ _ => rfl)) (pa_cons (pv 3) pa_nil)))))) (fun _ _ _ _ _ => (pv 5))) pa_nil)))
    (pss_one (ps_expr (pe_bmW PySem.F.plainAttrs_list PySem.F.slot_list_insert PySem.F.type_list_insert mt_insertA (pv 1) (pa_cons (pv 4) (pa_cons (pv 2) pa_nil))))))))
    (pss_one (ps_ret (pv 1)))))
theorem okmG_Catalog_in_order_0_ (T : Txt P w K mg) (FD : ∃ fd, FunD K "in_order" "Catalog.in_order" (defArgs s_Catalog_in_order) (defBody s_Catalog_in_order) (defScope s_Catalog_in_order) [] [] (He.ma K (He.ga K "Catalog") "in_order") fd) (F_is_before : Fok P w K mg base CX0 2 "is_before" ["one", "other"] (sp_is_before K))  : FokM P w K mg base CX0 3 "Catalog" "in_order" ["self"] (sp_Catalog_in_order K) 0 [] [] [0] := by
  obtain ⟨fd, F⟩ := FD
  exact ⟨⟨fd, [], .nil, okf_Catalog_in_order T F F_is_before , mbinds F fun _ _ _ _ _ _ us ws h1 h2 => match us, ws, h1, h2 with | [_], [], _, _ => rfl⟩⟩
abbrev s_Catalog_stretches : Stmt := mtop 34 6
theorem sc_Catalog_stretches : FnScope ["self", "found", "low", "begun", "name", "first", "last"] ["self"] (defScope s_Catalog_stretches) := ⟨rfl, rfl, rfl, by decide +kernel, rfl, by decide +kernel, by decide +kernel⟩
theorem okf_Catalog_stretches {fd : FuncData} (T : Txt P w K mg) (F : FunD K "stretches" "Catalog.stretches" (defArgs s_Catalog_stretches) (defBody s_Catalog_stretches) (defScope s_Catalog_stretches) [] [] (He.ma K (He.ga K "Catalog") "stretches") fd)  (G_Catalog_in_order_0_ : FokM P w K mg base CX0 3 "Catalog" "in_order" ["self"] (sp_Catalog_in_order K) 0 [] [] [0]) : FnOk P w K mg base CX0 4 (He.ma K (He.ga K "Catalog") "stretches") fd ["self"] (sp_Catalog_stretches K) := by
  have nd := sc_Catalog_stretches.nd
  refine F.ok (k := 3) sc_Catalog_stretches (len_Catalog_stretches K) (fun cdv A outer s H vs Q E hr h => ⟨t_Catalog_stretches K, PSs.nox ?_, pure_Catalog_stretches K vs H Q E T.cld h⟩)
  have hu : (A.deeper (envOfC "Catalog.stretches" (defScope s_Catalog_stretches) s.heap.objs.size (He.ma K (He.ga K "Catalog") "stretches") cdv)).units + 64 < cLine := by
    have h1 := hr.un
    omega
  skip
  exact (pss_cons (ps_set (i := 1) nd (by rfl) (Or.inl rfl) (pe_lst pa_nil))
    (pss_cons (ps_set (i := 2) nd (by rfl) (Or.inl rfl) (pe_non))
    (pss_cons (ps_set (i := 3) nd (by rfl) (Or.inl rfl) (pe_bl))
    (pss_cons (ps_for PassesOwn.never rfl (pi_seq (pe_methP0 (pv 0) T.cl_Catalog T.me_Catalog_in_order G_Catalog_in_order_0_ (hr.mono (by decide)) passAt0 pk_nil)) (pg_name (i := 4) nd (by rfl) (by first | exact Or.inl rfl | exact Or.inr rfl)) (pss_cons (ps_asg (pe_ix (ix_B hu) (pe_fld (pv 0) (by rfl)) (pv 4) (fun _ _ => rfl)) (pg_tup (by rfl) (pgs_cons (pg_name (i := 5) nd (by rfl) (by first | exact Or.inl rfl | exact Or.inr rfl)) (pgs_cons (pg_name (i := 6) nd (by rfl) (by first | exact Or.inl rfl | exact Or.inr rfl)) pgs_nil))))
    (pss_cut (ps_if (PW.pt (pw_and (pt_cmpR op_notA (pv 5) (pe_non) (nomark _)) (pw_and1 (PW.pt (pw_or (pt_not (pt_val (pv 3))) (pw_or1 (pt_cmpR (op_neA hu) (pv 5) (pv 2) (nomark _)))))))) (pss_one (ps_expr (pe_bmW PySem.F.plainAttrs_list PySem.F.slot_list_append PySem.F.type_list_append mt_append (pv 1) (pa_cons (pe_tup (pa_cons (pv 2) (pa_cons (pv 5) (pa_cons (pe_fld (pv 0) (by rfl)) pa_nil)))) pa_nil)))) pss_nil)
    (pss_cons (ps_expr (pe_bmW PySem.F.plainAttrs_list PySem.F.slot_list_append PySem.F.type_list_append mt_append (pv 1) (pa_cons (pe_tup (pa_cons (pv 5) (pa_cons (pv 6) (pa_cons (pv 4) pa_nil)))) pa_nil)))
    (pss_cons (ps_set (i := 2) nd (by rfl) (Or.inl rfl) (pv 6))
    (pss_one (ps_set (i := 3) nd (by rfl) (Or.inl rfl) (pe_bl))))))))
    (pss_cut (ps_if (PW.pt (pw_or (pt_not (pt_val (pv 3))) (pw_or1 (pt_cmpR op_notA (pv 2) (pe_non) (nomark _))))) (pss_one (ps_expr (pe_bmW PySem.F.plainAttrs_list PySem.F.slot_list_append PySem.F.type_list_append mt_append (pv 1) (pa_cons (pe_tup (pa_cons (pv 2) (pa_cons (pe_non) (pa_cons (pe_fld (pv 0) (by rfl)) pa_nil)))) pa_nil)))) pss_nil)
    (pss_one (ps_ret (pv 1))))))))
theorem okmG_Catalog_stretches_0_ (T : Txt P w K mg) (FD : ∃ fd, FunD K "stretches" "Catalog.stretches" (defArgs s_Catalog_stretches) (defBody s_Catalog_stretches) (defScope s_Catalog_stretches) [] [] (He.ma K (He.ga K "Catalog") "stretches") fd)  (G_Catalog_in_order_0_ : FokM P w K mg base CX0 3 "Catalog" "in_order" ["self"] (sp_Catalog_in_order K) 0 [] [] [0]) : FokM P w K mg base CX0 4 "Catalog" "stretches" ["self"] (sp_Catalog_stretches K) 0 [] [] [0] := by
  obtain ⟨fd, F⟩ := FD
  exact ⟨⟨fd, [], .nil, okf_Catalog_stretches T F  G_Catalog_in_order_0_, mbinds F fun _ _ _ _ _ _ us ws h1 h2 => match us, ws, h1, h2 with | [_], [], _, _ => rfl⟩⟩
abbrev s_law_cell : Stmt := top 36
theorem sc_law_cell : FnScope ["script", "k"] ["script", "k"] (defScope s_law_cell) := ⟨rfl, rfl, rfl, by decide +kernel, rfl, by decide +kernel, by decide +kernel⟩
theorem okf_law_cell {fd : FuncData} (T : Txt P w K mg) (F : FunD K "_law_cell" "_law_cell" (defArgs s_law_cell) (defBody s_law_cell) (defScope s_law_cell) [] [] (He.ga K "_law_cell") fd)   : FnOk P w K mg base CX0 1 (He.ga K "_law_cell") fd ["script", "k"] (sp_law_cell K) := by
  have nd := sc_law_cell.nd
  refine F.ok (k := 0) sc_law_cell (len_law_cell K) (fun cdv A outer s H vs Q E hr h => ⟨t_law_cell K, PSs.nox ?_, pure_law_cell K vs H Q E h⟩)
  have hu : (A.deeper (envOfC "_law_cell" (defScope s_law_cell) s.heap.objs.size (He.ga K "_law_cell") cdv)).units + 64 < cLine := by
    have h1 := hr.un
    omega
  skip
  exact (pss_cons (ps_if (pt_cmpR op_ltA (pv 1) (pe_callB call_lenB (by rfl) T.b_len (by decide +kernel) (pa_cons (pv 0) pa_nil)) (nomark _)) (pss_one (ps_ret (pe_ix (ix_B hu) (pv 0) (pv 1) (fun _ _ => rfl)))) pss_nil)
    (pss_one (ps_ret (pe_op op_addA (pe_op op_mulA (pe_int) (pv 1)) (pe_int)))))
theorem ok_law_cell (T : Txt P w K mg) (FD : ∃ fd, FunD K "_law_cell" "_law_cell" (defArgs s_law_cell) (defBody s_law_cell) (defScope s_law_cell) [] [] (He.ga K "_law_cell") fd) (hm : mg "_law_cell" = some (.ref (He.ga K "_law_cell")))   : Fok P w K mg base CX0 1 "_law_cell" ["script", "k"] (sp_law_cell K) := by
  obtain ⟨fd, F⟩ := FD
  exact ⟨⟨fd, okf_law_cell T F  , F.bindsN fun _ _ _ _ _ _ us hl => match us, hl with | [_, _], _ => rfl⟩, hm, F.kp⟩
abbrev s_law_box : Stmt := top 37
theorem sc_law_box : FnScope ["cell"] ["cell"] (defScope s_law_box) := ⟨rfl, rfl, rfl, by decide +kernel, rfl, by decide +kernel, by decide +kernel⟩
theorem okf_law_box {fd : FuncData} (T : Txt P w K mg) (F : FunD K "_law_box" "_law_box" (defArgs s_law_box) (defBody s_law_box) (defScope s_law_box) [] [] (He.ga K "_law_box") fd)   : FnOk P w K mg base CX0 1 (He.ga K "_law_box") fd ["cell"] (sp_law_box K) := by
  have nd := sc_law_box.nd
  refine F.ok (k := 0) sc_law_box (len_law_box K) (fun cdv A outer s H vs Q E hr h => ⟨t_law_box K, PSs.nox ?_, pure_law_box K vs H Q E h⟩)
  have hu : (A.deeper (envOfC "_law_box" (defScope s_law_box) s.heap.objs.size (He.ga K "_law_box") cdv)).units + 64 < cLine := by
    have h1 := hr.un
    omega
  skip
  exact (pss_one (ps_ret (pe_lst (pa_cons (pe_callB (call_maxA rfl) (by rfl) T.b_max (by decide +kernel) (pa_cons (pe_int) (pa_cons (pe_op op_subA (pv 0) (pe_op op_powA (pe_int) (pe_int))) pa_nil))) (pa_cons (pe_op op_modA (pv 0) (pe_int)) (pa_cons (pe_int) pa_nil))))))
theorem ok_law_box (T : Txt P w K mg) (FD : ∃ fd, FunD K "_law_box" "_law_box" (defArgs s_law_box) (defBody s_law_box) (defScope s_law_box) [] [] (He.ga K "_law_box") fd) (hm : mg "_law_box" = some (.ref (He.ga K "_law_box")))   : Fok P w K mg base CX0 1 "_law_box" ["cell"] (sp_law_box K) := by
  obtain ⟨fd, F⟩ := FD
  exact ⟨⟨fd, okf_law_box T F  , F.bindsN fun _ _ _ _ _ _ us hl => match us, hl with | [_], _ => rfl⟩, hm, F.kp⟩
abbrev s_law_take : Stmt := top 38
theorem sc_law_take : FnScope ["box", "many", "digit", "number"] ["box", "many"] (defScope s_law_take) := ⟨rfl, rfl, rfl, by decide +kernel, rfl, by decide +kernel, by decide +kernel⟩
theorem okf_law_take {fd : FuncData} (T : Txt P w K mg) (F : FunD K "_law_take" "_law_take" (defArgs s_law_take) (defBody s_law_take) (defScope s_law_take) [] [] (He.ga K "_law_take") fd)   : FnOk P w K mg base CX0 1 (He.ga K "_law_take") fd ["box", "many"] (sp_law_take K) := by
  have nd := sc_law_take.nd
  refine F.ok (k := 0) sc_law_take (len_law_take K) (fun cdv A outer s H vs Q E hr h => ⟨t_law_take K, PSs.nox ?_, pure_law_take K vs H Q E h⟩)
  have hu : (A.deeper (envOfC "_law_take" (defScope s_law_take) s.heap.objs.size (He.ga K "_law_take") cdv)).units + 64 < cLine := by
    have h1 := hr.un
    omega
  skip
  exact (pss_cons (ps_if (pt_cmpR op_gtA (pe_ix (ix_B hu) (pv 0) (pe_int) (fun _ _ => rfl)) (pe_int) (nomark _)) (pss_cons (ps_set (i := 2) nd (by rfl) (Or.inl rfl) (pe_op op_modA (pe_ix (ix_B hu) (pv 0) (pe_int) (fun _ _ => rfl)) (pv 1)))
    (pss_cons (ps_asg (pe_op op_divA (pe_ix (ix_B hu) (pv 0) (pe_int) (fun _ _ => rfl)) (pv 1)) (pg_sub (pv 0) (pe_int) (set_B hu)))
    (pss_one (ps_ret (pv 2))))) pss_nil)
    (pss_cons (ps_asg (pe_op op_addA (pe_ix (ix_B hu) (pv 0) (pe_int) (fun _ _ => rfl)) (pe_int)) (pg_sub (pv 0) (pe_int) (set_B hu)))
    (pss_cons (ps_set (i := 3) nd (by rfl) (Or.inl rfl) (pe_op op_modA (pe_op op_powA (pe_op op_addA (pe_op op_addA (pe_ix (ix_B hu) (pv 0) (pe_int) (fun _ _ => rfl)) (pe_op op_mulA (pe_int) (pe_ix (ix_B hu) (pv 0) (pe_int) (fun _ _ => rfl)))) (pe_int)) (pe_int)) (pe_int)))
    (pss_cons (ps_set (i := 3) nd (by rfl) (Or.inl rfl) (pe_op op_modA (pe_op op_powA (pe_op op_addA (pv 3) (pe_op op_mulA (pe_int) (pe_ix (ix_B hu) (pv 0) (pe_int) (fun _ _ => rfl)))) (pe_int)) (pe_int)))
    (pss_one (ps_ret (pe_op op_modA (pe_op op_divA (pv 3) (pe_int)) (pv 1))))))))
theorem ok_law_take (T : Txt P w K mg) (FD : ∃ fd, FunD K "_law_take" "_law_take" (defArgs s_law_take) (defBody s_law_take) (defScope s_law_take) [] [] (He.ga K "_law_take") fd) (hm : mg "_law_take" = some (.ref (He.ga K "_law_take")))   : Fok P w K mg base CX0 1 "_law_take" ["box", "many"] (sp_law_take K) := by
  obtain ⟨fd, F⟩ := FD
  exact ⟨⟨fd, okf_law_take T F  , F.bindsN fun _ _ _ _ _ _ us hl => match us, hl with | [_, _], _ => rfl⟩, hm, F.kp⟩
abbrev s_law_mixed : Stmt := top 39
theorem sc_law_mixed : FnScope ["box", "some", "left", "k"] ["box", "some"] (defScope s_law_mixed) := ⟨rfl, rfl, rfl, by decide +kernel, rfl, by decide +kernel, by decide +kernel⟩
theorem okf_law_mixed {fd : FuncData} (T : Txt P w K mg) (F : FunD K "_law_mixed" "_law_mixed" (defArgs s_law_mixed) (defBody s_law_mixed) (defScope s_law_mixed) [] [] (He.ga K "_law_mixed") fd) (F_law_take : Fok P w K mg base CX0 1 "_law_take" ["box", "many"] (sp_law_take K))  : FnOk P w K mg base CX0 2 (He.ga K "_law_mixed") fd ["box", "some"] (sp_law_mixed K) := by
  have nd := sc_law_mixed.nd
  refine F.ok (k := 1) sc_law_mixed (len_law_mixed K) (fun cdv A outer s H vs Q E hr h => ⟨t_law_mixed K, PSs.nox ?_, pure_law_mixed K vs H Q E h⟩)
  have hu : (A.deeper (envOfC "_law_mixed" (defScope s_law_mixed) s.heap.objs.size (He.ga K "_law_mixed") cdv)).units + 64 < cLine := by
    have h1 := hr.un
    omega
  skip
  exact (pss_cons (ps_set (i := 2) nd (by rfl) (Or.inr rfl) (pe_callTy call_listA (by rfl) T.b_list (by decide +kernel) (pa_cons (pv 1) pa_nil)))
    (pss_one (ps_ret (pe_lc (own := [("k", 3)]) rfl nd (pi_range1 (by rfl) T.b_range (pa_cons (pe_callB call_lenB (by rfl) T.b_len (by decide +kernel) (pa_cons (pv 1) pa_nil)) pa_nil)) (blkOk_by (own := [("k", 3)]) (N := ["box", "some", "left", "k"]) (sc := defScope s_law_mixed) (by decide +kernel)) (fun _ _ _ _ _ => (pg_name (i := 3) nd (by rfl) (by first | exact Or.inl rfl | exact Or.inr rfl))) (fun _ _ _ _ _ => pts_nil) (fun _ _ _ _ _ => (pe_bmW PySem.F.plainAttrs_list PySem.F.slot_list_pop PySem.F.type_list_pop mt_popA (pv 2) (pa_cons (pe_callF F_law_take (hr.mono (by decide)) (by rfl) pass0 (pa_cons (pv 0) (pa_cons (pe_callB call_lenB (by rfl) T.b_len (by decide +kernel) (pa_cons (pv 2) pa_nil)) pa_nil))) pa_nil)))))))
theorem ok_law_mixed (T : Txt P w K mg) (FD : ∃ fd, FunD K "_law_mixed" "_law_mixed" (defArgs s_law_mixed) (defBody s_law_mixed) (defScope s_law_mixed) [] [] (He.ga K "_law_mixed") fd) (hm : mg "_law_mixed" = some (.ref (He.ga K "_law_mixed"))) (F_law_take : Fok P w K mg base CX0 1 "_law_take" ["box", "many"] (sp_law_take K))  : Fok P w K mg base CX0 2 "_law_mixed" ["box", "some"] (sp_law_mixed K) := by
  obtain ⟨fd, F⟩ := FD
  exact ⟨⟨fd, okf_law_mixed T F F_law_take , F.bindsN fun _ _ _ _ _ _ us hl => match us, hl with | [_, _], _ => rfl⟩, hm, F.kp⟩
abbrev s_law_names : Stmt := top 40
theorem sc_law_names : FnScope ["box", "many", "letters", "words", "stem", "first", "step", "way", "found", "k", "sign", "name"] ["box", "many"] (defScope s_law_names) := ⟨rfl, rfl, rfl, by decide +kernel, rfl, by decide +kernel, by decide +kernel⟩
theorem okf_law_names {fd : FuncData} (T : Txt P w K mg) (F : FunD K "_law_names" "_law_names" (defArgs s_law_names) (defBody s_law_names) (defScope s_law_names) [] [] (He.ga K "_law_names") fd) (F_law_take : Fok P w K mg base CX0 1 "_law_take" ["box", "many"] (sp_law_take K)) (F_law_mixed : Fok P w K mg base CX0 2 "_law_mixed" ["box", "some"] (sp_law_mixed K))  : FnOk P w K mg base CX0 3 (He.ga K "_law_names") fd ["box", "many"] (sp_law_names K) := by
  have nd := sc_law_names.nd
  refine F.ok (k := 2) sc_law_names (len_law_names K) (fun cdv A outer s H vs Q E hr h => ⟨t_law_names K, PSs.nox ?_, pure_law_names K vs H Q E h⟩)
  have hu : (A.deeper (envOfC "_law_names" (defScope s_law_names) s.heap.objs.size (He.ga K "_law_names") cdv)).units + 64 < cLine := by
    have h1 := hr.un
    omega
  skip
  exact (pss_cons (ps_set (i := 2) nd (by rfl) (Or.inl rfl) (pe_str))
    (pss_cons (ps_if (pt_cmpR (op_eqA hu) (pe_callF F_law_take (hr.mono (by decide)) (by rfl) pass0 (pa_cons (pv 0) (pa_cons (pe_int) pa_nil))) (pe_int) (nomark _)) (pss_cons (ps_set (i := 3) nd (by rfl) (Or.inl rfl) (pe_lst (pa_cons (pe_str) (pa_cons (pe_str) (pa_cons (pe_str) (pa_cons (pe_str) (pa_cons (pe_str) (pa_cons (pe_str) (pa_cons (pe_str) (pa_cons (pe_str) (pa_cons (pe_str) (pa_cons (pe_str) (pa_cons (pe_str) (pa_cons (pe_str) (pa_cons (pe_str) pa_nil)))))))))))))))
    (pss_one (ps_ret (pe_slice sl_A (pe_callF F_law_mixed (hr.mono (by decide)) (by rfl) pass0 (pa_cons (pv 0) (pa_cons (pv 3) pa_nil))) po_none (po_some (pv 1)))))) pss_nil)
    (pss_cons (ps_set (i := 4) nd (by rfl) (Or.inl rfl) (pe_ix (ix_B hu) (pe_lst (pa_cons (pe_str) (pa_cons (pe_str) (pa_cons (pe_str) (pa_cons (pe_str) (pa_cons (pe_str) (pa_cons (pe_str) pa_nil))))))) (pe_callF F_law_take (hr.mono (by decide)) (by rfl) pass0 (pa_cons (pv 0) (pa_cons (pe_int) pa_nil))) (fun _ _ => rfl)))
    (pss_cons (ps_par3 (by rfl) nd rfl rfl rfl (by decide) (by decide) (by decide) rfl rfl rfl (pa_cons (pe_callF F_law_take (hr.mono (by decide)) (by rfl) pass0 (pa_cons (pv 0) (pa_cons (pe_int) pa_nil))) (pa_cons (pe_ix (ix_B hu) (pe_lst (pa_cons (pe_int) (pa_cons (pe_int) (pa_cons (pe_int) (pa_cons (pe_int) (pa_cons (pe_int) (pa_cons (pe_int) pa_nil))))))) (pe_callF F_law_take (hr.mono (by decide)) (by rfl) pass0 (pa_cons (pv 0) (pa_cons (pe_int) pa_nil))) (fun _ _ => rfl)) (pa_cons (pe_callF F_law_take (hr.mono (by decide)) (by rfl) pass0 (pa_cons (pv 0) (pa_cons (pe_int) pa_nil))) pa_nil))) (by rfl))
    (pss_cons (ps_set (i := 8) nd (by rfl) (Or.inl rfl) (pe_lst pa_nil))
    (pss_cons (ps_for PassesOwn.never rfl (pi_range1 (by rfl) T.b_range (pa_cons (pv 1) pa_nil)) (pg_name (i := 9) nd (by rfl) (by first | exact Or.inl rfl | exact Or.inr rfl)) (pss_cons (ps_set (i := 10) nd (by rfl) (Or.inl rfl) (pe_ix (ix_B hu) (pv 2) (pe_op op_modA (pe_op op_addA (pv 5) (pe_op op_mulA (pv 6) (pv 9))) (pe_int)) (fun _ _ => rfl)))
    (pss_cons (ps_set (i := 11) nd (by rfl) (Or.inl rfl) (pe_ix (ix_B hu) (pe_lst (pa_cons (pe_op op_addA (pv 4) (pv 10)) (pa_cons (pe_op op_addA (pv 10) (pv 4)) (pa_cons (pv 10) pa_nil)))) (pe_ifExp (pt_cmpR op_gtA (pv 9) (pe_int) (nomark _)) (pv 7) (pe_int)) (fun _ _ => rfl)))
    (pss_one (ps_expr (pe_bmW PySem.F.plainAttrs_list PySem.F.slot_list_append PySem.F.type_list_append mt_append (pv 8) (pa_cons (pe_ifExp (pt_cmpR (op_eqA hu) (pv 11) (pe_str) (nomark _)) (pe_str) (pv 11)) pa_nil)))))))
    (pss_one (ps_ret (pv 8)))))))))
theorem ok_law_names (T : Txt P w K mg) (FD : ∃ fd, FunD K "_law_names" "_law_names" (defArgs s_law_names) (defBody s_law_names) (defScope s_law_names) [] [] (He.ga K "_law_names") fd) (hm : mg "_law_names" = some (.ref (He.ga K "_law_names"))) (F_law_take : Fok P w K mg base CX0 1 "_law_take" ["box", "many"] (sp_law_take K)) (F_law_mixed : Fok P w K mg base CX0 2 "_law_mixed" ["box", "some"] (sp_law_mixed K))  : Fok P w K mg base CX0 3 "_law_names" ["box", "many"] (sp_law_names K) := by
  obtain ⟨fd, F⟩ := FD
  exact ⟨⟨fd, okf_law_names T F F_law_take F_law_mixed , F.bindsN fun _ _ _ _ _ _ us hl => match us, hl with | [_, _], _ => rfl⟩, hm, F.kp⟩
abbrev s_law_has : Stmt := top 41
theorem sc_law_has : FnScope ["span", "key"] ["span", "key"] (defScope s_law_has) := ⟨rfl, rfl, rfl, by decide +kernel, rfl, by decide +kernel, by decide +kernel⟩
theorem okf_law_has {fd : FuncData} (T : Txt P w K mg) (F : FunD K "_law_has" "_law_has" (defArgs s_law_has) (defBody s_law_has) (defScope s_law_has) [] [] (He.ga K "_law_has") fd)   : FnOk P w K mg base CX0 1 (He.ga K "_law_has") fd ["span", "key"] (sp_law_has K) := by
  have nd := sc_law_has.nd
  refine F.ok (k := 0) sc_law_has (len_law_has K) (fun cdv A outer s H vs Q E hr h => ⟨t_law_has K, PSs.nox ?_, pure_law_has K vs H Q E h⟩)
  have hu : (A.deeper (envOfC "_law_has" (defScope s_law_has) s.heap.objs.size (He.ga K "_law_has") cdv)).units + 64 < cLine := by
    have h1 := hr.un
    omega
  skip
  exact (pss_one (ps_ret ((pe_and ((pe_or (pe_cmpR op_isA (pe_ix (ix_B hu) (pv 0) (pe_int) (fun _ _ => rfl)) (pe_non) (nomark _)) (pe_one (pe_cmpR op_leA (pe_ix (ix_B hu) (pv 0) (pe_int) (fun _ _ => rfl)) (pv 1) (nomark _))))) (pe_one ((pe_or (pe_cmpR op_isA (pe_ix (ix_B hu) (pv 0) (pe_int) (fun _ _ => rfl)) (pe_non) (nomark _)) (pe_one (pe_cmpR op_ltA (pv 1) (pe_ix (ix_B hu) (pv 0) (pe_int) (fun _ _ => rfl)) (nomark _))))))))))
theorem ok_law_has (T : Txt P w K mg) (FD : ∃ fd, FunD K "_law_has" "_law_has" (defArgs s_law_has) (defBody s_law_has) (defScope s_law_has) [] [] (He.ga K "_law_has") fd) (hm : mg "_law_has" = some (.ref (He.ga K "_law_has")))   : Fok P w K mg base CX0 1 "_law_has" ["span", "key"] (sp_law_has K) := by
  obtain ⟨fd, F⟩ := FD
  exact ⟨⟨fd, okf_law_has T F  , F.bindsN fun _ _ _ _ _ _ us hl => match us, hl with | [_, _], _ => rfl⟩, hm, F.kp⟩
abbrev s_law_model : Stmt := top 42
theorem sc_law_model : FnScope ["box", "most", "names", "great", "at", "rows", "k", "low", "spared"] ["box", "most"] (defScope s_law_model) := ⟨rfl, rfl, rfl, by decide +kernel, rfl, by decide +kernel, by decide +kernel⟩
theorem okf_law_model {fd : FuncData} (T : Txt P w K mg) (F : FunD K "_law_model" "_law_model" (defArgs s_law_model) (defBody s_law_model) (defScope s_law_model) [] [] (He.ga K "_law_model") fd) (F_law_names : Fok P w K mg base CX0 3 "_law_names" ["box", "many"] (sp_law_names K)) (F_law_take : Fok P w K mg base CX0 1 "_law_take" ["box", "many"] (sp_law_take K))  : FnOk P w K mg base CX0 4 (He.ga K "_law_model") fd ["box", "most"] (sp_law_model K) := by
  have nd := sc_law_model.nd
  refine F.ok (k := 3) sc_law_model (len_law_model K) (fun cdv A outer s H vs Q E hr h => ⟨t_law_model K, PSs.nox ?_, pure_law_model K vs H Q E h⟩)
  have hu : (A.deeper (envOfC "_law_model" (defScope s_law_model) s.heap.objs.size (He.ga K "_law_model") cdv)).units + 64 < cLine := by
    have h1 := hr.un
    omega
  skip
  exact (pss_cons (ps_set (i := 2) nd (by rfl) (Or.inl rfl) (pe_callF F_law_names (hr.mono (by decide)) (by rfl) pass0 (pa_cons (pv 0) (pa_cons (pe_op op_addA (pv 1) (pe_int)) pa_nil))))
    (pss_cons (ps_set (i := 3) nd (by rfl) (Or.inl rfl) (pe_ix (ix_B hu) (pe_lst (pa_cons (pe_int) (pa_cons (pe_int) (pa_cons (pe_op op_powA (pe_int) (pe_int)) (pa_cons (pe_op op_powA (pe_int) (pe_int)) pa_nil))))) (pe_callF F_law_take (hr.mono (by decide)) (by rfl) pass0 (pa_cons (pv 0) (pa_cons (pe_int) pa_nil))) (fun _ _ => rfl)))
    (pss_cons (ps_set (i := 4) nd (by rfl) (Or.inl rfl) (pe_op op_mulA (pe_op op_subA (pe_callF F_law_take (hr.mono (by decide)) (by rfl) pass0 (pa_cons (pv 0) (pa_cons (pe_int) pa_nil))) (pe_int)) (pv 3)))
    (pss_cons (ps_set (i := 5) nd (by rfl) (Or.inl rfl) (pe_lst pa_nil))
    (pss_cons (ps_for PassesOwn.never rfl (pi_range1 (by rfl) T.b_range (pa_cons (pe_callF F_law_take (hr.mono (by decide)) (by rfl) pass0 (pa_cons (pv 0) (pa_cons (pe_op op_addA (pv 1) (pe_int)) pa_nil))) pa_nil)) (pg_name (i := 6) nd (by rfl) (by first | exact Or.inl rfl | exact Or.inr rfl)) (pss_cons (ps_set (i := 7) nd (by rfl) (Or.inl rfl) (pe_op op_addA (pv 4) (pe_op op_mulA (pe_ix (ix_B hu) (pe_lst (pa_cons (pe_int) (pa_cons (pe_int) (pa_cons (pe_op op_addA (pe_int) (pe_callF F_law_take (hr.mono (by decide)) (by rfl) pass0 (pa_cons (pv 0) (pa_cons (pe_int) pa_nil)))) pa_nil)))) (pe_callF F_law_take (hr.mono (by decide)) (by rfl) pass0 (pa_cons (pv 0) (pa_cons (pe_int) pa_nil))) (fun _ _ => rfl)) (pv 3))))
    (pss_cons (ps_set (i := 4) nd (by rfl) (Or.inl rfl) (pe_op op_addA (pv 7) (pe_op op_mulA (pe_op op_addA (pe_int) (pe_callF F_law_take (hr.mono (by decide)) (by rfl) pass0 (pa_cons (pv 0) (pa_cons (pe_int) pa_nil)))) (pv 3))))
    (pss_one (ps_expr (pe_bmW PySem.F.plainAttrs_list PySem.F.slot_list_append PySem.F.type_list_append mt_append (pv 5) (pa_cons (pe_lst (pa_cons (pe_ix (ix_B hu) (pv 2) (pv 6) (fun _ _ => rfl)) (pa_cons (pe_tup (pa_cons (pv 7) (pa_cons (pv 4) pa_nil))) pa_nil))) pa_nil)))))))
    (pss_cut (ps_if (PW.pt (pw_and (pt_cmpR (op_neE hu) (pv 5) (pe_lst pa_nil) (nomark _)) (pw_and1 (pt_cmpR (op_eqA hu) (pe_callF F_law_take (hr.mono (by decide)) (by rfl) pass0 (pa_cons (pv 0) (pa_cons (pe_int) pa_nil))) (pe_int) (nomark _))))) (pss_one (ps_asg (pe_tup (pa_cons (pe_non) (pa_cons (pe_ix (ix_B hu) (pe_ix (ix_B hu) (pe_ix (ix_B hu) (pv 5) (pe_int) (fun _ _ => rfl)) (pe_int) (fun _ _ => rfl)) (pe_int) (fun _ _ => rfl)) pa_nil))) (pg_sub (pe_ix (ix_B hu) (pv 5) (pe_int) (fun _ _ => rfl)) (pe_int) (set_B hu)))) pss_nil)
    (pss_cut (ps_if (PW.pt (pw_and (pt_cmpR (op_neE hu) (pv 5) (pe_lst pa_nil) (nomark _)) (pw_and1 (pt_cmpR (op_eqA hu) (pe_callF F_law_take (hr.mono (by decide)) (by rfl) pass0 (pa_cons (pv 0) (pa_cons (pe_int) pa_nil))) (pe_int) (nomark _))))) (pss_one (ps_asg (pe_tup (pa_cons (pe_ix (ix_B hu) (pe_ix (ix_B hu) (pe_ix (ix_B hu) (pv 5) (pe_un un_neg (pe_int)) (fun _ _ => rfl)) (pe_int) (fun _ _ => rfl)) (pe_int) (fun _ _ => rfl)) (pa_cons (pe_non) pa_nil))) (pg_sub (pe_ix (ix_B hu) (pv 5) (pe_un un_neg (pe_int)) (fun _ _ => rfl)) (pe_int) (set_B hu)))) pss_nil)
    (pss_cons (ps_set (i := 8) nd (by rfl) (Or.inl rfl) (pe_ix (ix_B hu) (pe_lst (pa_cons (pe_non) (pa_cons (pe_ix (ix_B hu) (pv 2) (pe_callB call_lenB (by rfl) T.b_len (by decide +kernel) (pa_cons (pv 5) pa_nil)) (fun _ _ => rfl)) pa_nil))) (pe_callF F_law_take (hr.mono (by decide)) (by rfl) pass0 (pa_cons (pv 0) (pa_cons (pe_int) pa_nil))) (fun _ _ => rfl)))
    (pss_one (ps_ret (pe_lst (pa_cons (pv 5) (pa_cons (pv 8) (pa_cons (pe_slice sl_A (pv 2) (po_some (pe_op op_addA (pe_callB call_lenB (by rfl) T.b_len (by decide +kernel) (pa_cons (pv 5) pa_nil)) (pe_int))) po_none) pa_nil))))))))))))))
theorem ok_law_model (T : Txt P w K mg) (FD : ∃ fd, FunD K "_law_model" "_law_model" (defArgs s_law_model) (defBody s_law_model) (defScope s_law_model) [] [] (He.ga K "_law_model") fd) (hm : mg "_law_model" = some (.ref (He.ga K "_law_model"))) (F_law_names : Fok P w K mg base CX0 3 "_law_names" ["box", "many"] (sp_law_names K)) (F_law_take : Fok P w K mg base CX0 1 "_law_take" ["box", "many"] (sp_law_take K))  : Fok P w K mg base CX0 4 "_law_model" ["box", "most"] (sp_law_model K) := by
  obtain ⟨fd, F⟩ := FD
  exact ⟨⟨fd, okf_law_model T F F_law_names F_law_take , F.bindsN fun _ _ _ _ _ _ us hl => match us, hl with | [_, _], _ => rfl⟩, hm, F.kp⟩
abbrev s_law_catalog : Stmt := top 43
theorem sc_law_catalog : FnScope ["box", "model", "row"] ["box", "model"] (defScope s_law_catalog) := ⟨rfl, rfl, rfl, by decide +kernel, rfl, by decide +kernel, by decide +kernel⟩
theorem okf_law_catalog {fd : FuncData} (T : Txt P w K mg) (F : FunD K "_law_catalog" "_law_catalog" (defArgs s_law_catalog) (defBody s_law_catalog) (defScope s_law_catalog) [] [] (He.ga K "_law_catalog") fd) (F_law_mixed : Fok P w K mg base CX0 2 "_law_mixed" ["box", "some"] (sp_law_mixed K)) (G_Catalog_init_1_rest : FokM P w K mg base (L2.CX P w) 8 "Catalog" "__init__" ["self", "spans", "rest"] (sp_Catalog_init K) 1 ["rest"] [] [0, 1, 2]) : FnOk P w K mg base CX0 10 (He.ga K "_law_catalog") fd ["box", "model"] (sp_law_catalog K) := by
  have nd := sc_law_catalog.nd
  refine F.ok (k := 9) sc_law_catalog (len_law_catalog K) (fun cdv A outer s H vs Q E hr h => ⟨t_law_catalog K, PSs.nox ?_, pure_law_catalog K vs H Q E h⟩)
  have hu : (A.deeper (envOfC "_law_catalog" (defScope s_law_catalog) s.heap.objs.size (He.ga K "_law_catalog") cdv)).units + 64 < cLine := by
    have h1 := hr.un
    omega
  skip
  exact (pss_one (ps_ret (pe_makeP T.mk_Catalog G_Catalog_init_1_rest (hr.mono (by decide)) (by rfl) T.g_Catalog passAtL (pa_cons (pe_callTy (call_dictA rfl) (by rfl) T.b_dict (by decide +kernel) (pa_cons (pe_callF F_law_mixed (hr.mono (by decide)) (by rfl) pass0 (pa_cons (pv 0) (pa_cons (pe_lc (own := [("row", 2)]) rfl nd (pi_seq (pe_ix (ix_B hu) (pv 1) (pe_int) (fun _ _ => rfl))) (blkOk_by (own := [("row", 2)]) (N := ["box", "model", "row"]) (sc := defScope s_law_catalog) (by decide +kernel)) (fun _ _ _ _ _ => (pg_name (i := 2) nd (by rfl) (by first | exact Or.inl rfl | exact Or.inr rfl))) (fun _ _ _ _ _ => pts_nil) (fun _ _ _ _ _ => (pe_callTy call_tupA (by rfl) T.b_tuple (by decide +kernel) (pa_cons (pv 2) pa_nil)))) pa_nil))) pa_nil)) pa_nil) (pk_cons (pe_ix (ix_B hu) (pv 1) (pe_int) (fun _ _ => rfl)) pk_nil))))
theorem ok_law_catalog (T : Txt P w K mg) (FD : ∃ fd, FunD K "_law_catalog" "_law_catalog" (defArgs s_law_catalog) (defBody s_law_catalog) (defScope s_law_catalog) [] [] (He.ga K "_law_catalog") fd) (hm : mg "_law_catalog" = some (.ref (He.ga K "_law_catalog"))) (F_law_mixed : Fok P w K mg base CX0 2 "_law_mixed" ["box", "some"] (sp_law_mixed K)) (G_Catalog_init_1_rest : FokM P w K mg base (L2.CX P w) 8 "Catalog" "__init__" ["self", "spans", "rest"] (sp_Catalog_init K) 1 ["rest"] [] [0, 1, 2]) : Fok P w K mg base CX0 10 "_law_catalog" ["box", "model"] (sp_law_catalog K) := by
  obtain ⟨fd, F⟩ := FD
  exact ⟨⟨fd, okf_law_catalog T F F_law_mixed G_Catalog_init_1_rest, F.bindsN fun _ _ _ _ _ _ us hl => match us, hl with | [_, _], _ => rfl⟩, hm, F.kp⟩
abbrev s_law_part : Stmt := top 44
theorem sc_law_part : FnScope ["model", "key", "name", "span"] ["model", "key"] (defScope s_law_part) := ⟨rfl, rfl, rfl, by decide +kernel, rfl, by decide +kernel, by decide +kernel⟩
theorem okf_law_part {fd : FuncData} (T : Txt P w K mg) (F : FunD K "_law_part" "_law_part" (defArgs s_law_part) (defBody s_law_part) (defScope s_law_part) [] [] (He.ga K "_law_part") fd) (F_law_has : Fok P w K mg base CX0 1 "_law_has" ["span", "key"] (sp_law_has K))  : FnOk P w K mg base CX0 2 (He.ga K "_law_part") fd ["model", "key"] (sp_law_part K) := by
  have nd := sc_law_part.nd
  refine F.ok (k := 1) sc_law_part (len_law_part K) (fun cdv A outer s H vs Q E hr h => ⟨t_law_part K, PSs.nox ?_, pure_law_part K vs H Q E h⟩)
  have hu : (A.deeper (envOfC "_law_part" (defScope s_law_part) s.heap.objs.size (He.ga K "_law_part") cdv)).units + 64 < cLine := by
    have h1 := hr.un
    omega
  skip
  exact (pss_cons (ps_for PassesOwn.never rfl (pi_seq (pe_ix (ix_B hu) (pv 0) (pe_int) (fun _ _ => rfl))) (pg_tl (by rfl) (pgs_cons (pg_name (i := 2) nd (by rfl) (by first | exact Or.inl rfl | exact Or.inr rfl)) (pgs_cons (pg_name (i := 3) nd (by rfl) (by first | exact Or.inl rfl | exact Or.inr rfl)) pgs_nil))) (pss_one (ps_if (pt_val (pe_callF F_law_has (hr.mono (by decide)) (by rfl) pass0 (pa_cons (pv 3) (pa_cons (pv 1) pa_nil)))) (pss_one (ps_ret (pv 2))) pss_nil)))
    (pss_one (ps_ret (pe_ix (ix_B hu) (pv 0) (pe_int) (fun _ _ => rfl)))))
theorem ok_law_part (T : Txt P w K mg) (FD : ∃ fd, FunD K "_law_part" "_law_part" (defArgs s_law_part) (defBody s_law_part) (defScope s_law_part) [] [] (He.ga K "_law_part") fd) (hm : mg "_law_part" = some (.ref (He.ga K "_law_part"))) (F_law_has : Fok P w K mg base CX0 1 "_law_has" ["span", "key"] (sp_law_has K))  : Fok P w K mg base CX0 2 "_law_part" ["model", "key"] (sp_law_part K) := by
  obtain ⟨fd, F⟩ := FD
  exact ⟨⟨fd, okf_law_part T F F_law_has , F.bindsN fun _ _ _ _ _ _ us hl => match us, hl with | [_, _], _ => rfl⟩, hm, F.kp⟩
abbrev s_law_inner : Stmt := top 45
theorem sc_law_inner : FnScope ["low", "high"] ["low", "high"] (defScope s_law_inner) := ⟨rfl, rfl, rfl, by decide +kernel, rfl, by decide +kernel, by decide +kernel⟩
theorem okf_law_inner {fd : FuncData} (T : Txt P w K mg) (F : FunD K "_law_inner" "_law_inner" (defArgs s_law_inner) (defBody s_law_inner) (defScope s_law_inner) [] [] (He.ga K "_law_inner") fd)   : FnOk P w K mg base CX0 1 (He.ga K "_law_inner") fd ["low", "high"] (sp_law_inner K) := by
  have nd := sc_law_inner.nd
  refine F.ok (k := 0) sc_law_inner (len_law_inner K) (fun cdv A outer s H vs Q E hr h => ⟨t_law_inner K, PSs.nox ?_, pure_law_inner K vs H Q E h⟩)
  have hu : (A.deeper (envOfC "_law_inner" (defScope s_law_inner) s.heap.objs.size (He.ga K "_law_inner") cdv)).units + 64 < cLine := by
    have h1 := hr.un
    omega
  skip
  exact (pss_cons (ps_if (PW.pt (pw_and (pt_cmpR op_isA (pv 0) (pe_non) (nomark _)) (pw_and1 (pt_cmpR op_isA (pv 1) (pe_non) (nomark _))))) (pss_one (ps_ret (pe_lst (pa_cons (pe_un un_neg (pe_op op_powA (pe_int) (pe_int))) (pa_cons (pe_int) (pa_cons (pe_op op_powA (pe_int) (pe_int)) pa_nil)))))) pss_nil)
    (pss_cons (ps_if (pt_cmpR op_isA (pv 0) (pe_non) (nomark _)) (pss_one (ps_ret (pe_lst (pa_cons (pe_op op_subA (pv 1) (pe_int)) (pa_cons (pe_op op_subA (pv 1) (pe_op op_powA (pe_int) (pe_int))) pa_nil))))) pss_nil)
    (pss_cons (ps_if (pt_cmpR op_isA (pv 1) (pe_non) (nomark _)) (pss_one (ps_ret (pe_lst (pa_cons (pv 0) (pa_cons (pe_op op_addA (pv 0) (pe_op op_powA (pe_int) (pe_int))) pa_nil))))) pss_nil)
    (pss_one (ps_ret (pe_lst (pa_cons (pv 0) (pa_cons (pe_op op_subA (pv 1) (pe_int)) (pa_cons (pe_op op_divA (pe_op op_addA (pv 0) (pv 1)) (pe_int)) pa_nil)))))))))
theorem ok_law_inner (T : Txt P w K mg) (FD : ∃ fd, FunD K "_law_inner" "_law_inner" (defArgs s_law_inner) (defBody s_law_inner) (defScope s_law_inner) [] [] (He.ga K "_law_inner") fd) (hm : mg "_law_inner" = some (.ref (He.ga K "_law_inner")))   : Fok P w K mg base CX0 1 "_law_inner" ["low", "high"] (sp_law_inner K) := by
  obtain ⟨fd, F⟩ := FD
  exact ⟨⟨fd, okf_law_inner T F  , F.bindsN fun _ _ _ _ _ _ us hl => match us, hl with | [_, _], _ => rfl⟩, hm, F.kp⟩
abbrev s_law_count : Stmt := top 47
theorem sc_law_count : FnScope ["model", "limits", "name", "span", "limit"] ["model"] (defScope s_law_count) := ⟨rfl, rfl, rfl, by decide +kernel, rfl, by decide +kernel, by decide +kernel⟩
theorem okf_law_count {fd : FuncData} (T : Txt P w K mg) (F : FunD K "_law_count" "_law_count" (defArgs s_law_count) (defBody s_law_count) (defScope s_law_count) [] [] (He.ga K "_law_count") fd) (F_law_part : Fok P w K mg base CX0 2 "_law_part" ["model", "key"] (sp_law_part K))  : FnOk P w K mg base CX0 3 (He.ga K "_law_count") fd ["model"] (sp_law_count K) := by
  have nd := sc_law_count.nd
  refine F.ok (k := 2) sc_law_count (len_law_count K) (fun cdv A outer s H vs Q E hr h => ⟨t_law_count K, PSs.nox ?_, pure_law_count K vs H Q E h⟩)
  have hu : (A.deeper (envOfC "_law_count" (defScope s_law_count) s.heap.objs.size (He.ga K "_law_count") cdv)).units + 64 < cLine := by
    have h1 := hr.un
    omega
  skip
  exact (pss_cons (ps_set (i := 1) nd (by rfl) (Or.inr rfl) (pe_lst pa_nil))
    (pss_cons (ps_for PassesOwn.never rfl (pi_seq (pe_ix (ix_B hu) (pv 0) (pe_int) (fun _ _ => rfl))) (pg_tl (by rfl) (pgs_cons (pg_name (i := 2) nd (by rfl) (by first | exact Or.inl rfl | exact Or.inr rfl)) (pgs_cons (pg_name (i := 3) nd (by rfl) (by first | exact Or.inl rfl | exact Or.inr rfl)) pgs_nil))) (pss_one (ps_set (i := 1) nd (by rfl) (Or.inr rfl) (pe_op op_addA (pv 1) (pe_lc (own := [("limit", 4)]) rfl nd (pi_seq (pv 3)) (blkOk_by (own := [("limit", 4)]) (N := ["model", "limits", "name", "span", "limit"]) (sc := defScope s_law_count) (by decide +kernel)) (fun _ _ _ _ _ => (pg_name (i := 4) nd (by rfl) (by first | exact Or.inl rfl | exact Or.inr rfl))) (fun _ _ _ _ _ => (pts_one (PW.pt (pw_and (pt_cmpR op_notA (pv 4) (pe_non) (nomark _)) (pw_and1 (pt_cmpR (op_ninB hu) (pv 4) (pv 1) (by rfl))))))) (fun _ _ _ _ _ => (pv 4)))))))
    (pss_one (ps_ret (pe_op op_addA (pe_int) (pe_callB call_lenB (by rfl) T.b_len (by decide +kernel) (pa_cons (pe_lc (own := [("limit", 4)]) rfl nd (pi_seq (pv 1)) (blkOk_by (own := [("limit", 4)]) (N := ["model", "limits", "name", "span", "limit"]) (sc := defScope s_law_count) (by decide +kernel)) (fun _ _ _ _ _ => (pg_name (i := 4) nd (by rfl) (by first | exact Or.inl rfl | exact Or.inr rfl))) (fun _ _ _ _ _ => (pts_one (pt_cmpR (op_neA hu) (pe_callF F_law_part (hr.mono (by decide)) (by rfl) pass0 (pa_cons (pv 0) (pa_cons (pe_op op_subA (pv 4) (pe_int)) pa_nil))) (pe_callF F_law_part (hr.mono (by decide)) (by rfl) pass0 (pa_cons (pv 0) (pa_cons (pv 4) pa_nil))) (nomark _)))) (fun _ _ _ _ _ => (pv 4))) pa_nil)))))))
theorem ok_law_count (T : Txt P w K mg) (FD : ∃ fd, FunD K "_law_count" "_law_count" (defArgs s_law_count) (defBody s_law_count) (defScope s_law_count) [] [] (He.ga K "_law_count") fd) (hm : mg "_law_count" = some (.ref (He.ga K "_law_count"))) (F_law_part : Fok P w K mg base CX0 2 "_law_part" ["model", "key"] (sp_law_part K))  : Fok P w K mg base CX0 3 "_law_count" ["model"] (sp_law_count K) := by
  obtain ⟨fd, F⟩ := FD
  exact ⟨⟨fd, okf_law_count T F F_law_part , F.bindsN fun _ _ _ _ _ _ us hl => match us, hl with | [_], _ => rfl⟩, hm, F.kp⟩
abbrev s_law_right : Stmt := top 46
theorem sc_law_right : FnScope ["catalog", "model", "rows", "at", "low", "high", "part", "key"] ["catalog", "model"] (defScope s_law_right) := ⟨rfl, rfl, rfl, by decide +kernel, rfl, by decide +kernel, by decide +kernel⟩
theorem okf_law_right {fd : FuncData} (T : Txt P w K mg) (F : FunD K "_law_right" "_law_right" (defArgs s_law_right) (defBody s_law_right) (defScope s_law_right) [] [] (He.ga K "_law_right") fd) (F_law_inner : Fok P w K mg base CX0 1 "_law_inner" ["low", "high"] (sp_law_inner K)) (F_law_part : Fok P w K mg base CX0 2 "_law_part" ["model", "key"] (sp_law_part K)) (F_law_count : Fok P w K mg base CX0 3 "_law_count" ["model"] (sp_law_count K)) (G_Catalog_stretches_0_ : FokM P w K mg base CX0 4 "Catalog" "stretches" ["self"] (sp_Catalog_stretches K) 0 [] [] [0]) (G_Catalog_part_of_1_ : FokM P w K mg base (L2.CX P w) 2 "Catalog" "part_of" ["self", "key"] (sp_Catalog_part_of K) 1 [] [] [0, 1]) : FnOk P w K mg base CX0 5 (He.ga K "_law_right") fd ["catalog", "model"] (sp_law_right K) := by
  have nd := sc_law_right.nd
  refine F.ok (k := 4) sc_law_right (len_law_right K) (fun cdv A outer s H vs Q E hr h => ⟨t_law_right K, PSs.nox ?_, pure_law_right K vs H Q E h⟩)
  have hu : (A.deeper (envOfC "_law_right" (defScope s_law_right) s.heap.objs.size (He.ga K "_law_right") cdv)).units + 64 < cLine := by
    have h1 := hr.un
    omega
  skip
  exact (pss_cons (ps_set (i := 2) nd (by rfl) (Or.inl rfl) (pe_methP0 (pv 0) T.cl_Catalog T.me_Catalog_stretches G_Catalog_stretches_0_ (hr.mono (by decide)) passAt0 pk_nil))
    (pss_cons (ps_if (PW.pt (pw_or (pt_cmpR (op_eqA hu) (pv 2) (pe_lst pa_nil) (nomark _)) (pw_or (pt_cmpR op_notA (pe_ix (ix_B hu) (pe_ix (ix_B hu) (pv 2) (pe_int) (fun _ _ => rfl)) (pe_int) (fun _ _ => rfl)) (pe_non) (nomark _)) (pw_or1 (pt_cmpR op_notA (pe_ix (ix_B hu) (pe_ix (ix_B hu) (pv 2) (pe_un un_neg (pe_int)) (fun _ _ => rfl)) (pe_int) (fun _ _ => rfl)) (pe_non) (nomark _)))))) (pss_one (ps_ret (pe_bl))) pss_nil)
    (pss_cons (ps_for PassesOwn.never rfl (pi_range1 (by rfl) T.b_range (pa_cons (pe_callB call_lenB (by rfl) T.b_len (by decide +kernel) (pa_cons (pv 2) pa_nil)) pa_nil)) (pg_name (i := 3) nd (by rfl) (by first | exact Or.inl rfl | exact Or.inr rfl)) (pss_cons (ps_asg (pe_ix (ix_B hu) (pv 2) (pv 3) (fun _ _ => rfl)) (pg_tup (by rfl) (pgs_cons (pg_name (i := 4) nd (by rfl) (by first | exact Or.inl rfl | exact Or.inr rfl)) (pgs_cons (pg_name (i := 5) nd (by rfl) (by first | exact Or.inl rfl | exact Or.inr rfl)) (pgs_cons (pg_name (i := 6) nd (by rfl) (by first | exact Or.inl rfl | exact Or.inr rfl)) pgs_nil)))))
    (pss_cons (ps_if (PW.pt (pw_and (pt_cmpR op_notA (pv 4) (pe_non) (nomark _)) (pw_and (pt_cmpR op_notA (pv 5) (pe_non) (nomark _)) (pw_and1 (pt_cmpR op_geA (pv 4) (pv 5) (nomark _)))))) (pss_one (ps_ret (pe_bl))) pss_nil)
    (pss_cons (ps_if (PW.pt (pw_and (pt_cmpR op_gtA (pv 3) (pe_int) (nomark _)) (pw_and1 (PW.pt (pw_or (pt_cmpR op_isA (pv 4) (pe_non) (nomark _)) (pw_or1 (pt_cmpR (op_neA hu) (pv 4) (pe_ix (ix_B hu) (pe_ix (ix_B hu) (pv 2) (pe_op op_subA (pv 3) (pe_int)) (fun _ _ => rfl)) (pe_int) (fun _ _ => rfl)) (nomark _)))))))) (pss_one (ps_ret (pe_bl))) pss_nil)
    (pss_cons (ps_if (PW.pt (pw_and (pt_cmpR op_gtA (pv 3) (pe_int) (nomark _)) (pw_and1 (pt_cmpR (op_eqA hu) (pv 6) (pe_ix (ix_B hu) (pe_ix (ix_B hu) (pv 2) (pe_op op_subA (pv 3) (pe_int)) (fun _ _ => rfl)) (pe_int) (fun _ _ => rfl)) (nomark _))))) (pss_one (ps_ret (pe_bl))) pss_nil)
    (pss_one (ps_for PassesOwn.never rfl (pi_seq (pe_callF F_law_inner (hr.mono (by decide)) (by rfl) pass0 (pa_cons (pv 4) (pa_cons (pv 5) pa_nil)))) (pg_name (i := 7) nd (by rfl) (by first | exact Or.inl rfl | exact Or.inr rfl)) (pss_one (ps_if (PW.pt (pw_or (pt_cmpR (op_neA hu) (pv 6) (pe_callF F_law_part (hr.mono (by decide)) (by rfl) pass0 (pa_cons (pv 1) (pa_cons (pv 7) pa_nil))) (nomark _)) (pw_or1 (pt_cmpR (op_neA hu) (pv 6) (pe_methP (pv 0) T.cl_Catalog T.me_Catalog_part_of G_Catalog_part_of_1_ (hr.mono (by decide)) passAtL (pa_cons (pv 7) pa_nil) pk_nil) (nomark _))))) (pss_one (ps_ret (pe_bl))) pss_nil)))))))))
    (pss_one (ps_ret (pe_cmpR (op_eqA hu) (pe_callB call_lenB (by rfl) T.b_len (by decide +kernel) (pa_cons (pv 2) pa_nil)) (pe_callF F_law_count (hr.mono (by decide)) (by rfl) pass0 (pa_cons (pv 1) pa_nil)) (nomark _)))))))
theorem ok_law_right (T : Txt P w K mg) (FD : ∃ fd, FunD K "_law_right" "_law_right" (defArgs s_law_right) (defBody s_law_right) (defScope s_law_right) [] [] (He.ga K "_law_right") fd) (hm : mg "_law_right" = some (.ref (He.ga K "_law_right"))) (F_law_inner : Fok P w K mg base CX0 1 "_law_inner" ["low", "high"] (sp_law_inner K)) (F_law_part : Fok P w K mg base CX0 2 "_law_part" ["model", "key"] (sp_law_part K)) (F_law_count : Fok P w K mg base CX0 3 "_law_count" ["model"] (sp_law_count K)) (G_Catalog_stretches_0_ : FokM P w K mg base CX0 4 "Catalog" "stretches" ["self"] (sp_Catalog_stretches K) 0 [] [] [0]) (G_Catalog_part_of_1_ : FokM P w K mg base (L2.CX P w) 2 "Catalog" "part_of" ["self", "key"] (sp_Catalog_part_of K) 1 [] [] [0, 1]) : Fok P w K mg base CX0 5 "_law_right" ["catalog", "model"] (sp_law_right K) := by
  obtain ⟨fd, F⟩ := FD
  exact ⟨⟨fd, okf_law_right T F F_law_inner F_law_part F_law_count G_Catalog_stretches_0_ G_Catalog_part_of_1_, F.bindsN fun _ _ _ _ _ _ us hl => match us, hl with | [_, _], _ => rfl⟩, hm, F.kp⟩
abbrev s_law : Stmt := top 48
theorem sc_law : FnScope ["script", "k", "box", "model", "catalog", "told", "row"] ["script"] (defScope s_law) := ⟨rfl, rfl, rfl, by decide +kernel, rfl, by decide +kernel, by decide +kernel⟩
theorem okf_law {fd : FuncData} (T : Txt P w K mg) (F : FunD K "law" "law" (defArgs s_law) (defBody s_law) (defScope s_law) [] [] (He.ga K "law") fd) (F_law_box : Fok P w K mg base CX0 1 "_law_box" ["cell"] (sp_law_box K)) (F_law_cell : Fok P w K mg base CX0 1 "_law_cell" ["script", "k"] (sp_law_cell K)) (F_law_model : Fok P w K mg base CX0 4 "_law_model" ["box", "most"] (sp_law_model K)) (F_law_catalog : Fok P w K mg base CX0 10 "_law_catalog" ["box", "model"] (sp_law_catalog K)) (F_law_right : Fok P w K mg base CX0 5 "_law_right" ["catalog", "model"] (sp_law_right K)) (G_Catalog_stretches_0_ : FokM P w K mg base CX0 4 "Catalog" "stretches" ["self"] (sp_Catalog_stretches K) 0 [] [] [0]) : FnOk P w K mg base CX0 11 (He.ga K "law") fd ["script"] (sp_law K) := by
  have nd := sc_law.nd
  refine F.ok (k := 10) sc_law (len_law K) (fun cdv A outer s H vs Q E hr h => ⟨t_law K, PSs.nox ?_, pure_law K vs H Q E h⟩)
  have hu : (A.deeper (envOfC "law" (defScope s_law) s.heap.objs.size (He.ga K "law") cdv)).units + 64 < cLine := by
    have h1 := hr.un
    omega
  skip
  exact (pss_cons (ps_for PassesOwn.never rfl (pi_range1 (by rfl) T.b_range (pa_cons (pe_callB (call_maxA rfl) (by rfl) T.b_max (by decide +kernel) (pa_cons (pe_int) (pa_cons (pe_callB (call_minA rfl) (by rfl) T.b_min (by decide +kernel) (pa_cons (pe_int) (pa_cons (pe_callB call_lenB (by rfl) T.b_len (by decide +kernel) (pa_cons (pv 0) pa_nil)) pa_nil))) pa_nil))) pa_nil)) (pg_name (i := 1) nd (by rfl) (by first | exact Or.inl rfl | exact Or.inr rfl)) (pss_cons (ps_set (i := 2) nd (by rfl) (Or.inl rfl) (pe_callF F_law_box (hr.mono (by decide)) (by rfl) pass0 (pa_cons (pe_callF F_law_cell (hr.mono (by decide)) (by rfl) pass0 (pa_cons (pv 0) (pa_cons (pv 1) pa_nil))) pa_nil)))
    (pss_cons (ps_set (i := 3) nd (by rfl) (Or.inl rfl) (pe_callF F_law_model (hr.mono (by decide)) (by rfl) pass0 (pa_cons (pv 2) (pa_cons (pe_int) pa_nil))))
    (pss_cons (ps_set (i := 4) nd (by rfl) (Or.inl rfl) (pe_callF F_law_catalog (hr.mono (by decide)) (by rfl) pass0 (pa_cons (pv 2) (pa_cons (pv 3) pa_nil))))
    (pss_cons (ps_if (pt_not (pt_val (pe_callF F_law_right (hr.mono (by decide)) (by rfl) pass0 (pa_cons (pv 4) (pa_cons (pv 3) pa_nil))))) (pss_one (ps_ret (pe_bl))) pss_nil)
    (pss_cons (ps_set (i := 5) nd (by rfl) (Or.inl rfl) (pe_methP0 (pv 4) T.cl_Catalog T.me_Catalog_stretches G_Catalog_stretches_0_ (hr.mono (by decide)) passAt0 pk_nil))
    (pss_cons (ps_expr (pe_bmW PySem.F.plainAttrs_list PySem.F.slot_list_append PySem.F.type_list_append mt_append (pv 5) (pa_cons (pe_tup (pa_cons (pe_int) (pa_cons (pe_int) (pa_cons (pe_str) pa_nil)))) pa_nil)))
    (pss_one (ps_if (PW.pt (pw_or (pt_not (pt_val (pe_callF F_law_right (hr.mono (by decide)) (by rfl) pass0 (pa_cons (pv 4) (pa_cons (pv 3) pa_nil))))) (pw_or1 (pt_cmpR (op_neA hu) (pe_lc (own := [("row", 6)]) rfl nd (pi_seq (pe_methP0 (pv 4) T.cl_Catalog T.me_Catalog_stretches G_Catalog_stretches_0_ (hr.mono (by decide)) passAt0 pk_nil)) (blkOk_by (own := [("row", 6)]) (N := ["script", "k", "box", "model", "catalog", "told", "row"]) (sc := defScope s_law) (by decide +kernel)) (fun _ _ _ _ _ => (pg_name (i := 6) nd (by rfl) (by first | exact Or.inl rfl | exact Or.inr rfl))) (fun _ _ _ _ _ => (pts_one (pt_not (pt_val (pe_callB call_isi (by rfl) T.b_isinstance (by decide +kernel) (pa_cons (pv 6) (pa_cons (pe_bltn (by rfl) T.b_tuple (by decide +kernel) rfl) pa_nil))))))) (fun _ _ _ _ _ => (pv 6))) (pe_lst pa_nil) (nomark _))))) (pss_one (ps_ret (pe_bl))) pss_nil)))))))))
    (pss_one (ps_ret (pe_bl))))
theorem ok_law (T : Txt P w K mg) (FD : ∃ fd, FunD K "law" "law" (defArgs s_law) (defBody s_law) (defScope s_law) [] [] (He.ga K "law") fd) (hm : mg "law" = some (.ref (He.ga K "law"))) (F_law_box : Fok P w K mg base CX0 1 "_law_box" ["cell"] (sp_law_box K)) (F_law_cell : Fok P w K mg base CX0 1 "_law_cell" ["script", "k"] (sp_law_cell K)) (F_law_model : Fok P w K mg base CX0 4 "_law_model" ["box", "most"] (sp_law_model K)) (F_law_catalog : Fok P w K mg base CX0 10 "_law_catalog" ["box", "model"] (sp_law_catalog K)) (F_law_right : Fok P w K mg base CX0 5 "_law_right" ["catalog", "model"] (sp_law_right K)) (G_Catalog_stretches_0_ : FokM P w K mg base CX0 4 "Catalog" "stretches" ["self"] (sp_Catalog_stretches K) 0 [] [] [0]) : Fok P w K mg base CX0 11 "law" ["script"] (sp_law K) := by
  obtain ⟨fd, F⟩ := FD
  exact ⟨⟨fd, okf_law T F F_law_box F_law_cell F_law_model F_law_catalog F_law_right G_Catalog_stretches_0_, F.bindsN fun _ _ _ _ _ _ us hl => match us, hl with | [_], _ => rfl⟩, hm, F.kp⟩
end
/-! ### the head's facts -/
def fa : List He.Fa := [.free "all", .free "any", .free "bool", .free "dict", .free "int", .free "isinstance", .free "len", .free "list", .free "max", .free "min", .free "range", .free "sorted", .free "str", .free "super", .free "tuple", .glo "Catalog", .glo "InvalidKey", .glo "InvalidName", .glo "InvalidSpan", .glo "InvalidSpans", .str "LETTERS" "abcdefghijklmnopqrstuvwxyz", .int "MOST_LETTERS" 8, .int "MOST_PARTS" 8, .glo "NameTaken", .glo "Overlap", .str "TABLE" "table", .glo "TooMany", .cls "Catalog", .noat "Catalog" "own_spans", .noat "Catalog" "own_rest", .mkr "Catalog", .meth "Catalog" "in_order", .meth "Catalog" "part_of", .meth "Catalog" "stretches", .glo "is_integer", .glo "is_name", .glo "is_limit", .glo "is_span", .glo "need_span", .glo "has_key", .glo "greater_limit", .glo "lesser_limit", .glo "common", .glo "meet", .glo "need_spans", .glo "need_rest", .glo "order_of", .glo "is_before", .glo "_law_cell", .glo "_law_box", .glo "_law_take", .glo "_law_mixed", .glo "_law_names", .glo "_law_has", .glo "_law_model", .glo "_law_catalog", .glo "_law_part", .glo "_law_inner", .glo "_law_count", .glo "_law_right", .glo "law"]
def fn : List He.DefD := [⟨("is_integer", none), "is_integer", "is_integer", defArgs s_is_integer, defBody s_is_integer, defScope s_is_integer, [], []⟩, ⟨("is_name", none), "is_name", "is_name", defArgs s_is_name, defBody s_is_name, defScope s_is_name, [], []⟩, ⟨("is_limit", none), "is_limit", "is_limit", defArgs s_is_limit, defBody s_is_limit, defScope s_is_limit, [], []⟩, ⟨("is_span", none), "is_span", "is_span", defArgs s_is_span, defBody s_is_span, defScope s_is_span, [], []⟩, ⟨("need_span", none), "need_span", "need_span", defArgs s_need_span, defBody s_need_span, defScope s_need_span, [], []⟩, ⟨("has_key", none), "has_key", "has_key", defArgs s_has_key, defBody s_has_key, defScope s_has_key, [], []⟩, ⟨("greater_limit", none), "greater_limit", "greater_limit", defArgs s_greater_limit, defBody s_greater_limit, defScope s_greater_limit, [], []⟩, ⟨("lesser_limit", none), "lesser_limit", "lesser_limit", defArgs s_lesser_limit, defBody s_lesser_limit, defScope s_lesser_limit, [], []⟩, ⟨("common", none), "common", "common", defArgs s_common, defBody s_common, defScope s_common, [], []⟩, ⟨("meet", none), "meet", "meet", defArgs s_meet, defBody s_meet, defScope s_meet, [], []⟩, ⟨("need_spans", none), "need_spans", "need_spans", defArgs s_need_spans, defBody s_need_spans, defScope s_need_spans, [], []⟩, ⟨("need_rest", none), "need_rest", "need_rest", defArgs s_need_rest, defBody s_need_rest, defScope s_need_rest, [], []⟩, ⟨("order_of", none), "order_of", "order_of", defArgs s_order_of, defBody s_order_of, defScope s_order_of, [], []⟩, ⟨("is_before", none), "is_before", "is_before", defArgs s_is_before, defBody s_is_before, defScope s_is_before, [], []⟩, ⟨("Catalog", some "__init__"), "__init__", "Catalog.__init__", defArgs s_Catalog_init, defBody s_Catalog_init, defScope s_Catalog_init, [.non], [("rest", .non)]⟩, ⟨("Catalog", some "part_of"), "part_of", "Catalog.part_of", defArgs s_Catalog_part_of, defBody s_Catalog_part_of, defScope s_Catalog_part_of, [], []⟩, ⟨("Catalog", some "in_order"), "in_order", "Catalog.in_order", defArgs s_Catalog_in_order, defBody s_Catalog_in_order, defScope s_Catalog_in_order, [], []⟩, ⟨("Catalog", some "stretches"), "stretches", "Catalog.stretches", defArgs s_Catalog_stretches, defBody s_Catalog_stretches, defScope s_Catalog_stretches, [], []⟩, ⟨("_law_cell", none), "_law_cell", "_law_cell", defArgs s_law_cell, defBody s_law_cell, defScope s_law_cell, [], []⟩, ⟨("_law_box", none), "_law_box", "_law_box", defArgs s_law_box, defBody s_law_box, defScope s_law_box, [], []⟩, ⟨("_law_take", none), "_law_take", "_law_take", defArgs s_law_take, defBody s_law_take, defScope s_law_take, [], []⟩, ⟨("_law_mixed", none), "_law_mixed", "_law_mixed", defArgs s_law_mixed, defBody s_law_mixed, defScope s_law_mixed, [], []⟩, ⟨("_law_names", none), "_law_names", "_law_names", defArgs s_law_names, defBody s_law_names, defScope s_law_names, [], []⟩, ⟨("_law_has", none), "_law_has", "_law_has", defArgs s_law_has, defBody s_law_has, defScope s_law_has, [], []⟩, ⟨("_law_model", none), "_law_model", "_law_model", defArgs s_law_model, defBody s_law_model, defScope s_law_model, [], []⟩, ⟨("_law_catalog", none), "_law_catalog", "_law_catalog", defArgs s_law_catalog, defBody s_law_catalog, defScope s_law_catalog, [], []⟩, ⟨("_law_part", none), "_law_part", "_law_part", defArgs s_law_part, defBody s_law_part, defScope s_law_part, [], []⟩, ⟨("_law_inner", none), "_law_inner", "_law_inner", defArgs s_law_inner, defBody s_law_inner, defScope s_law_inner, [], []⟩, ⟨("_law_count", none), "_law_count", "_law_count", defArgs s_law_count, defBody s_law_count, defScope s_law_count, [], []⟩, ⟨("_law_right", none), "_law_right", "_law_right", defArgs s_law_right, defBody s_law_right, defScope s_law_right, [], []⟩, ⟨("law", none), "law", "law", defArgs s_law, defBody s_law, defScope s_law, [], []⟩]
def fs : List ((Str × Option Str) × FnS) := [(("InvalidKey", some "__init__"), some ("__init__", "InvalidKey.__init__", (PySem.Sxvalue.iA ⟨14, 17, 14, 21⟩ ⟨14, 23, 14, 28⟩), FuncBody.stmts (PySem.Sxvalue.iB "the value is not a key" ⟨15, 8, 15, 13⟩ ⟨15, 8, 15, 15⟩ ⟨15, 8, 15, 24⟩ ⟨15, 25, 15, 49⟩ ⟨15, 8, 15, 50⟩ ⟨15, 8, 15, 50⟩ ⟨16, 8, 16, 12⟩ ⟨16, 8, 16, 18⟩ ⟨16, 21, 16, 26⟩ ⟨16, 8, 16, 26⟩), PySem.Sxvalue.iS, mainGlobals, [("__class__" : Str)], builtinsNs)),
  (("InvalidName", some "__init__"), some ("__init__", "InvalidName.__init__", (PySem.Sxvalue.iA ⟨9, 17, 9, 21⟩ ⟨9, 23, 9, 28⟩), FuncBody.stmts (PySem.Sxvalue.iB "the value is not a name" ⟨10, 8, 10, 13⟩ ⟨10, 8, 10, 15⟩ ⟨10, 8, 10, 24⟩ ⟨10, 25, 10, 50⟩ ⟨10, 8, 10, 51⟩ ⟨10, 8, 10, 51⟩ ⟨11, 8, 11, 12⟩ ⟨11, 8, 11, 18⟩ ⟨11, 21, 11, 26⟩ ⟨11, 8, 11, 26⟩), PySem.Sxvalue.iS, mainGlobals, [("__class__" : Str)], builtinsNs)),
  (("InvalidSpan", some "__init__"), some ("__init__", "InvalidSpan.__init__", (PySem.Sxvalue.iA ⟨19, 17, 19, 21⟩ ⟨19, 23, 19, 28⟩), FuncBody.stmts (PySem.Sxvalue.iB "the value is not a span" ⟨20, 8, 20, 13⟩ ⟨20, 8, 20, 15⟩ ⟨20, 8, 20, 24⟩ ⟨20, 25, 20, 50⟩ ⟨20, 8, 20, 51⟩ ⟨20, 8, 20, 51⟩ ⟨21, 8, 21, 12⟩ ⟨21, 8, 21, 18⟩ ⟨21, 21, 21, 26⟩ ⟨21, 8, 21, 26⟩), PySem.Sxvalue.iS, mainGlobals, [("__class__" : Str)], builtinsNs)),
  (("InvalidSpans", some "__init__"), some ("__init__", "InvalidSpans.__init__", (PySem.Sxvalue.iA ⟨24, 17, 24, 21⟩ ⟨24, 23, 24, 28⟩), FuncBody.stmts (PySem.Sxvalue.iB "the value is not a dict of spans" ⟨25, 8, 25, 13⟩ ⟨25, 8, 25, 15⟩ ⟨25, 8, 25, 24⟩ ⟨25, 25, 25, 59⟩ ⟨25, 8, 25, 60⟩ ⟨25, 8, 25, 60⟩ ⟨26, 8, 26, 12⟩ ⟨26, 8, 26, 18⟩ ⟨26, 21, 26, 26⟩ ⟨26, 8, 26, 26⟩), PySem.Sxvalue.iS, mainGlobals, [("__class__" : Str)], builtinsNs)),
  (("NameTaken", some "__init__"), some ("__init__", "NameTaken.__init__", (PySem.Sxname.iA ⟨34, 17, 34, 21⟩ ⟨34, 23, 34, 27⟩), FuncBody.stmts (PySem.Sxname.iB "the name is taken" ⟨35, 8, 35, 13⟩ ⟨35, 8, 35, 15⟩ ⟨35, 8, 35, 24⟩ ⟨35, 25, 35, 44⟩ ⟨35, 8, 35, 45⟩ ⟨35, 8, 35, 45⟩ ⟨36, 8, 36, 12⟩ ⟨36, 8, 36, 17⟩ ⟨36, 20, 36, 24⟩ ⟨36, 8, 36, 24⟩), PySem.Sxname.iS, mainGlobals, [("__class__" : Str)], builtinsNs)),
  (("Overlap", some "__init__"), some ("__init__", "Overlap.__init__", (PySem.Sxname.iA ⟨39, 17, 39, 21⟩ ⟨39, 23, 39, 27⟩), FuncBody.stmts (PySem.Sxname.iB "the spans meet" ⟨40, 8, 40, 13⟩ ⟨40, 8, 40, 15⟩ ⟨40, 8, 40, 24⟩ ⟨40, 25, 40, 41⟩ ⟨40, 8, 40, 42⟩ ⟨40, 8, 40, 42⟩ ⟨41, 8, 41, 12⟩ ⟨41, 8, 41, 17⟩ ⟨41, 20, 41, 24⟩ ⟨41, 8, 41, 24⟩), PySem.Sxname.iS, mainGlobals, [("__class__" : Str)], builtinsNs)),
  (("TooMany", some "__init__"), some ("__init__", "TooMany.__init__", (PySem.Sxbound.iA ⟨44, 17, 44, 21⟩ ⟨44, 23, 44, 28⟩), FuncBody.stmts (PySem.Sxbound.iB "there are too many" ⟨45, 8, 45, 13⟩ ⟨45, 8, 45, 15⟩ ⟨45, 8, 45, 24⟩ ⟨45, 25, 45, 45⟩ ⟨45, 8, 45, 46⟩ ⟨45, 8, 45, 46⟩ ⟨46, 8, 46, 12⟩ ⟨46, 8, 46, 18⟩ ⟨46, 21, 46, 26⟩ ⟨46, 8, 46, 26⟩), PySem.Sxbound.iS, mainGlobals, [("__class__" : Str)], builtinsNs))]
def ts : List He.Tab := []
def cu : List (PySem.W.Frag → Bool) := [fun K => isoB K (He.ga K "Catalog"), fun K => Chkvalue PySem.Challenge.pw_shiftparts_k07_stretches_of_all_keys K "InvalidKey", fun K => Chkvalue PySem.Challenge.pw_shiftparts_k07_stretches_of_all_keys K "InvalidName", fun K => Chkvalue PySem.Challenge.pw_shiftparts_k07_stretches_of_all_keys K "InvalidSpan", fun K => Chkvalue PySem.Challenge.pw_shiftparts_k07_stretches_of_all_keys K "InvalidSpans", fun K => Chkname PySem.Challenge.pw_shiftparts_k07_stretches_of_all_keys K "NameTaken", fun K => Chkname PySem.Challenge.pw_shiftparts_k07_stretches_of_all_keys K "Overlap", fun K => Chkbound PySem.Challenge.pw_shiftparts_k07_stretches_of_all_keys K "TooMany"]
theorem all_ok {P : Program} {w : World} {K : PySem.W.Frag} {h : Heap} {mg : Str → Option Value} {f : Addr} (hPf : P.main.file = PySem.Challenge.pw_shiftparts_k07_stretches_of_all_keys.main.file) (hPs : (P.main.scope.names.lookup ("super" : Str)).isSome = false) (X : K.In h) (G : h.Ns mainGlobals mg) (hfa : mg ("law" : Str) = some (.ref f)) (c : SaysX fa fn fs cu ts w K) :
    ∃ fd : FuncData, (∀ (s : Shared) (v : Value), BindsTo s fd ⟨[v], []⟩ [("script", v)]) ∧ ∀ base : Heap, K.In base → base.Ns mainGlobals mg → FnOk P w K mg base CX0 11 f fd ["script"] (sp_law K) := by
  have T : Txt P w K mg := ⟨(He.free_ok X G (c.fact 0 (f := .free "all") rfl)),
    (He.free_ok X G (c.fact 1 (f := .free "any") rfl)),
    (He.free_ok X G (c.fact 2 (f := .free "bool") rfl)),
    (He.free_ok X G (c.fact 3 (f := .free "dict") rfl)),
    (He.free_ok X G (c.fact 4 (f := .free "int") rfl)),
    (He.free_ok X G (c.fact 5 (f := .free "isinstance") rfl)),
    (He.free_ok X G (c.fact 6 (f := .free "len") rfl)),
    (He.free_ok X G (c.fact 7 (f := .free "list") rfl)),
    (He.free_ok X G (c.fact 8 (f := .free "max") rfl)),
    (He.free_ok X G (c.fact 9 (f := .free "min") rfl)),
    (He.free_ok X G (c.fact 10 (f := .free "range") rfl)),
    (He.free_ok X G (c.fact 11 (f := .free "sorted") rfl)),
    (He.free_ok X G (c.fact 12 (f := .free "str") rfl)),
    (He.free_ok X G (c.fact 13 (f := .free "super") rfl)),
    (He.free_ok X G (c.fact 14 (f := .free "tuple") rfl)),
    (He.glo_ok X G (c.fact 15 (f := .glo "Catalog") rfl)),
    (He.glo_ok X G (c.fact 16 (f := .glo "InvalidKey") rfl)),
    (He.glo_ok X G (c.fact 17 (f := .glo "InvalidName") rfl)),
    (He.glo_ok X G (c.fact 18 (f := .glo "InvalidSpan") rfl)),
    (He.glo_ok X G (c.fact 19 (f := .glo "InvalidSpans") rfl)),
    (He.str_ok X G (c.fact 20 (f := .str "LETTERS" "abcdefghijklmnopqrstuvwxyz") rfl)),
    (He.int_ok X G (c.fact 21 (f := .int "MOST_LETTERS" 8) rfl)),
    (He.int_ok X G (c.fact 22 (f := .int "MOST_PARTS" 8) rfl)),
    (He.glo_ok X G (c.fact 23 (f := .glo "NameTaken") rfl)),
    (He.glo_ok X G (c.fact 24 (f := .glo "Overlap") rfl)),
    (He.str_ok X G (c.fact 25 (f := .str "TABLE" "table") rfl)),
    (He.glo_ok X G (c.fact 26 (f := .glo "TooMany") rfl)),
    (He.cls_ok (c.fact 27 (f := .cls "Catalog") rfl)),
    (He.mkr_ok (c.fact 30 (f := .mkr "Catalog") rfl)),
    (He.meth_ok (c.fact 31 (f := .meth "Catalog" "in_order") rfl)),
    (He.meth_ok (c.fact 32 (f := .meth "Catalog" "part_of") rfl)),
    (He.meth_ok (c.fact 33 (f := .meth "Catalog" "stretches") rfl)),
    ⟨(He.cls_ok (c.fact 27 (f := .cls "Catalog") rfl)), (isoB_ok (He.cls_ok (c.fact 27 (f := .cls "Catalog") rfl)) (c.own 0 (f := fun K => isoB K (He.ga K "Catalog")) rfl)), (He.noat_ok (c.fact 28 (f := .noat "Catalog" "own_spans") rfl)), (He.noat_ok (c.fact 29 (f := .noat "Catalog" "own_rest") rfl))⟩,
    (chkvalue_ok (P0 := PySem.Challenge.pw_shiftparts_k07_stretches_of_all_keys) (He.glo_ok X G (c.fact 16 (f := .glo "InvalidKey") rfl)) (He.free_ok X G (c.fact 13 (f := .free "super") rfl)) hPf hPs (c.init 0 (f := (("InvalidKey", some "__init__"), some ("__init__", "InvalidKey.__init__", (PySem.Sxvalue.iA ⟨14, 17, 14, 21⟩ ⟨14, 23, 14, 28⟩), FuncBody.stmts (PySem.Sxvalue.iB "the value is not a key" ⟨15, 8, 15, 13⟩ ⟨15, 8, 15, 15⟩ ⟨15, 8, 15, 24⟩ ⟨15, 25, 15, 49⟩ ⟨15, 8, 15, 50⟩ ⟨15, 8, 15, 50⟩ ⟨16, 8, 16, 12⟩ ⟨16, 8, 16, 18⟩ ⟨16, 21, 16, 26⟩ ⟨16, 8, 16, 26⟩), PySem.Sxvalue.iS, mainGlobals, [("__class__" : Str)], builtinsNs))) rfl) (by decide) (c.own 1 (f := fun K => Chkvalue PySem.Challenge.pw_shiftparts_k07_stretches_of_all_keys K "InvalidKey") rfl)),
    (chkvalue_ok (P0 := PySem.Challenge.pw_shiftparts_k07_stretches_of_all_keys) (He.glo_ok X G (c.fact 17 (f := .glo "InvalidName") rfl)) (He.free_ok X G (c.fact 13 (f := .free "super") rfl)) hPf hPs (c.init 1 (f := (("InvalidName", some "__init__"), some ("__init__", "InvalidName.__init__", (PySem.Sxvalue.iA ⟨9, 17, 9, 21⟩ ⟨9, 23, 9, 28⟩), FuncBody.stmts (PySem.Sxvalue.iB "the value is not a name" ⟨10, 8, 10, 13⟩ ⟨10, 8, 10, 15⟩ ⟨10, 8, 10, 24⟩ ⟨10, 25, 10, 50⟩ ⟨10, 8, 10, 51⟩ ⟨10, 8, 10, 51⟩ ⟨11, 8, 11, 12⟩ ⟨11, 8, 11, 18⟩ ⟨11, 21, 11, 26⟩ ⟨11, 8, 11, 26⟩), PySem.Sxvalue.iS, mainGlobals, [("__class__" : Str)], builtinsNs))) rfl) (by decide) (c.own 2 (f := fun K => Chkvalue PySem.Challenge.pw_shiftparts_k07_stretches_of_all_keys K "InvalidName") rfl)),
    (chkvalue_ok (P0 := PySem.Challenge.pw_shiftparts_k07_stretches_of_all_keys) (He.glo_ok X G (c.fact 18 (f := .glo "InvalidSpan") rfl)) (He.free_ok X G (c.fact 13 (f := .free "super") rfl)) hPf hPs (c.init 2 (f := (("InvalidSpan", some "__init__"), some ("__init__", "InvalidSpan.__init__", (PySem.Sxvalue.iA ⟨19, 17, 19, 21⟩ ⟨19, 23, 19, 28⟩), FuncBody.stmts (PySem.Sxvalue.iB "the value is not a span" ⟨20, 8, 20, 13⟩ ⟨20, 8, 20, 15⟩ ⟨20, 8, 20, 24⟩ ⟨20, 25, 20, 50⟩ ⟨20, 8, 20, 51⟩ ⟨20, 8, 20, 51⟩ ⟨21, 8, 21, 12⟩ ⟨21, 8, 21, 18⟩ ⟨21, 21, 21, 26⟩ ⟨21, 8, 21, 26⟩), PySem.Sxvalue.iS, mainGlobals, [("__class__" : Str)], builtinsNs))) rfl) (by decide) (c.own 3 (f := fun K => Chkvalue PySem.Challenge.pw_shiftparts_k07_stretches_of_all_keys K "InvalidSpan") rfl)),
    (chkvalue_ok (P0 := PySem.Challenge.pw_shiftparts_k07_stretches_of_all_keys) (He.glo_ok X G (c.fact 19 (f := .glo "InvalidSpans") rfl)) (He.free_ok X G (c.fact 13 (f := .free "super") rfl)) hPf hPs (c.init 3 (f := (("InvalidSpans", some "__init__"), some ("__init__", "InvalidSpans.__init__", (PySem.Sxvalue.iA ⟨24, 17, 24, 21⟩ ⟨24, 23, 24, 28⟩), FuncBody.stmts (PySem.Sxvalue.iB "the value is not a dict of spans" ⟨25, 8, 25, 13⟩ ⟨25, 8, 25, 15⟩ ⟨25, 8, 25, 24⟩ ⟨25, 25, 25, 59⟩ ⟨25, 8, 25, 60⟩ ⟨25, 8, 25, 60⟩ ⟨26, 8, 26, 12⟩ ⟨26, 8, 26, 18⟩ ⟨26, 21, 26, 26⟩ ⟨26, 8, 26, 26⟩), PySem.Sxvalue.iS, mainGlobals, [("__class__" : Str)], builtinsNs))) rfl) (by decide) (c.own 4 (f := fun K => Chkvalue PySem.Challenge.pw_shiftparts_k07_stretches_of_all_keys K "InvalidSpans") rfl)),
    (chkname_ok (P0 := PySem.Challenge.pw_shiftparts_k07_stretches_of_all_keys) (He.glo_ok X G (c.fact 23 (f := .glo "NameTaken") rfl)) (He.free_ok X G (c.fact 13 (f := .free "super") rfl)) hPf hPs (c.init 4 (f := (("NameTaken", some "__init__"), some ("__init__", "NameTaken.__init__", (PySem.Sxname.iA ⟨34, 17, 34, 21⟩ ⟨34, 23, 34, 27⟩), FuncBody.stmts (PySem.Sxname.iB "the name is taken" ⟨35, 8, 35, 13⟩ ⟨35, 8, 35, 15⟩ ⟨35, 8, 35, 24⟩ ⟨35, 25, 35, 44⟩ ⟨35, 8, 35, 45⟩ ⟨35, 8, 35, 45⟩ ⟨36, 8, 36, 12⟩ ⟨36, 8, 36, 17⟩ ⟨36, 20, 36, 24⟩ ⟨36, 8, 36, 24⟩), PySem.Sxname.iS, mainGlobals, [("__class__" : Str)], builtinsNs))) rfl) (by decide) (c.own 5 (f := fun K => Chkname PySem.Challenge.pw_shiftparts_k07_stretches_of_all_keys K "NameTaken") rfl)),
    (chkname_ok (P0 := PySem.Challenge.pw_shiftparts_k07_stretches_of_all_keys) (He.glo_ok X G (c.fact 24 (f := .glo "Overlap") rfl)) (He.free_ok X G (c.fact 13 (f := .free "super") rfl)) hPf hPs (c.init 5 (f := (("Overlap", some "__init__"), some ("__init__", "Overlap.__init__", (PySem.Sxname.iA ⟨39, 17, 39, 21⟩ ⟨39, 23, 39, 27⟩), FuncBody.stmts (PySem.Sxname.iB "the spans meet" ⟨40, 8, 40, 13⟩ ⟨40, 8, 40, 15⟩ ⟨40, 8, 40, 24⟩ ⟨40, 25, 40, 41⟩ ⟨40, 8, 40, 42⟩ ⟨40, 8, 40, 42⟩ ⟨41, 8, 41, 12⟩ ⟨41, 8, 41, 17⟩ ⟨41, 20, 41, 24⟩ ⟨41, 8, 41, 24⟩), PySem.Sxname.iS, mainGlobals, [("__class__" : Str)], builtinsNs))) rfl) (by decide) (c.own 6 (f := fun K => Chkname PySem.Challenge.pw_shiftparts_k07_stretches_of_all_keys K "Overlap") rfl)),
    (chkbound_ok (P0 := PySem.Challenge.pw_shiftparts_k07_stretches_of_all_keys) (He.glo_ok X G (c.fact 26 (f := .glo "TooMany") rfl)) (He.free_ok X G (c.fact 13 (f := .free "super") rfl)) hPf hPs (c.init 6 (f := (("TooMany", some "__init__"), some ("__init__", "TooMany.__init__", (PySem.Sxbound.iA ⟨44, 17, 44, 21⟩ ⟨44, 23, 44, 28⟩), FuncBody.stmts (PySem.Sxbound.iB "there are too many" ⟨45, 8, 45, 13⟩ ⟨45, 8, 45, 15⟩ ⟨45, 8, 45, 24⟩ ⟨45, 25, 45, 45⟩ ⟨45, 8, 45, 46⟩ ⟨45, 8, 45, 46⟩ ⟨46, 8, 46, 12⟩ ⟨46, 8, 46, 18⟩ ⟨46, 21, 46, 26⟩ ⟨46, 8, 46, 26⟩), PySem.Sxbound.iS, mainGlobals, [("__class__" : Str)], builtinsNs))) rfl) (by decide) (c.own 7 (f := fun K => Chkbound PySem.Challenge.pw_shiftparts_k07_stretches_of_all_keys K "TooMany") rfl))⟩
  have hml := He.glo_ok X G (c.fact 60 (f := .glo "law") rfl)
  have e := hfa.symm.trans hml
  cases e
  obtain ⟨fdL, FL⟩ := c.def_ 30 (d := ⟨("law", none), "law", "law", defArgs s_law, defBody s_law, defScope s_law, [], []⟩) rfl
  have b := FunD.bindsA (ps := ["script"]) FL fun _ _ _ _ _ _ us hl => match us, hl with | [_], _ => rfl
  refine ⟨fdL, fun s v => b s [v] rfl, fun base _ _ => ?_⟩
  have O_is_integer := ok_is_integer (P := P) (w := w) (base := base) T (c.def_ 0 (d := ⟨("is_integer", none), "is_integer", "is_integer", defArgs s_is_integer, defBody s_is_integer, defScope s_is_integer, [], []⟩) rfl) (He.glo_ok X G (c.fact 34 (f := .glo "is_integer") rfl)) 
  have O_is_name := ok_is_name (P := P) (w := w) (base := base) T (c.def_ 1 (d := ⟨("is_name", none), "is_name", "is_name", defArgs s_is_name, defBody s_is_name, defScope s_is_name, [], []⟩) rfl) (He.glo_ok X G (c.fact 35 (f := .glo "is_name") rfl)) 
  have O_is_limit := ok_is_limit (P := P) (w := w) (base := base) T (c.def_ 2 (d := ⟨("is_limit", none), "is_limit", "is_limit", defArgs s_is_limit, defBody s_is_limit, defScope s_is_limit, [], []⟩) rfl) (He.glo_ok X G (c.fact 36 (f := .glo "is_limit") rfl)) O_is_integer
  have O_is_span := ok_is_span (P := P) (w := w) (base := base) T (c.def_ 3 (d := ⟨("is_span", none), "is_span", "is_span", defArgs s_is_span, defBody s_is_span, defScope s_is_span, [], []⟩) rfl) (He.glo_ok X G (c.fact 37 (f := .glo "is_span") rfl)) O_is_limit
  have O_need_span := ok_need_span (P := P) (w := w) (base := base) T (c.def_ 4 (d := ⟨("need_span", none), "need_span", "need_span", defArgs s_need_span, defBody s_need_span, defScope s_need_span, [], []⟩) rfl) (He.glo_ok X G (c.fact 38 (f := .glo "need_span") rfl)) O_is_span
  have O_has_key := ok_has_key (P := P) (w := w) (base := base) T (c.def_ 5 (d := ⟨("has_key", none), "has_key", "has_key", defArgs s_has_key, defBody s_has_key, defScope s_has_key, [], []⟩) rfl) (He.glo_ok X G (c.fact 39 (f := .glo "has_key") rfl)) 
  have O_greater_limit := ok_greater_limit (P := P) (w := w) (base := base) T (c.def_ 6 (d := ⟨("greater_limit", none), "greater_limit", "greater_limit", defArgs s_greater_limit, defBody s_greater_limit, defScope s_greater_limit, [], []⟩) rfl) (He.glo_ok X G (c.fact 40 (f := .glo "greater_limit") rfl)) 
  have O_lesser_limit := ok_lesser_limit (P := P) (w := w) (base := base) T (c.def_ 7 (d := ⟨("lesser_limit", none), "lesser_limit", "lesser_limit", defArgs s_lesser_limit, defBody s_lesser_limit, defScope s_lesser_limit, [], []⟩) rfl) (He.glo_ok X G (c.fact 41 (f := .glo "lesser_limit") rfl)) 
  have O_common := ok_common (P := P) (w := w) (base := base) T (c.def_ 8 (d := ⟨("common", none), "common", "common", defArgs s_common, defBody s_common, defScope s_common, [], []⟩) rfl) (He.glo_ok X G (c.fact 42 (f := .glo "common") rfl)) O_need_span O_lesser_limit O_greater_limit O_is_span
  have O_meet := ok_meet (P := P) (w := w) (base := base) T (c.def_ 9 (d := ⟨("meet", none), "meet", "meet", defArgs s_meet, defBody s_meet, defScope s_meet, [], []⟩) rfl) (He.glo_ok X G (c.fact 43 (f := .glo "meet") rfl)) O_common
  have O_need_spans := ok_need_spans (P := P) (w := w) (base := base) T (c.def_ 10 (d := ⟨("need_spans", none), "need_spans", "need_spans", defArgs s_need_spans, defBody s_need_spans, defScope s_need_spans, [], []⟩) rfl) (He.glo_ok X G (c.fact 44 (f := .glo "need_spans") rfl)) O_is_name O_is_span O_meet
  have O_need_rest := ok_need_rest (P := P) (w := w) (base := base) T (c.def_ 11 (d := ⟨("need_rest", none), "need_rest", "need_rest", defArgs s_need_rest, defBody s_need_rest, defScope s_need_rest, [], []⟩) rfl) (He.glo_ok X G (c.fact 45 (f := .glo "need_rest") rfl)) O_is_name
  have O_order_of := ok_order_of (P := P) (w := w) (base := base) T (c.def_ 12 (d := ⟨("order_of", none), "order_of", "order_of", defArgs s_order_of, defBody s_order_of, defScope s_order_of, [], []⟩) rfl) (He.glo_ok X G (c.fact 46 (f := .glo "order_of") rfl)) 
  have O_is_before := ok_is_before (P := P) (w := w) (base := base) T (c.def_ 13 (d := ⟨("is_before", none), "is_before", "is_before", defArgs s_is_before, defBody s_is_before, defScope s_is_before, [], []⟩) rfl) (He.glo_ok X G (c.fact 47 (f := .glo "is_before") rfl)) O_order_of
  have O_Catalog_init_1_rest := okmG_Catalog_init_1_rest (P := P) (w := w) (base := base) T (c.def_ 14 (d := ⟨("Catalog", some "__init__"), "__init__", "Catalog.__init__", defArgs s_Catalog_init, defBody s_Catalog_init, defScope s_Catalog_init, [.non], [("rest", .non)]⟩) rfl) O_need_spans O_need_rest
  have O_Catalog_part_of_1_ := okmG_Catalog_part_of_1_ (P := P) (w := w) (base := base) T (c.def_ 15 (d := ⟨("Catalog", some "part_of"), "part_of", "Catalog.part_of", defArgs s_Catalog_part_of, defBody s_Catalog_part_of, defScope s_Catalog_part_of, [], []⟩) rfl) O_is_integer O_has_key
  have O_Catalog_in_order_0_ := okmG_Catalog_in_order_0_ (P := P) (w := w) (base := base) T (c.def_ 16 (d := ⟨("Catalog", some "in_order"), "in_order", "Catalog.in_order", defArgs s_Catalog_in_order, defBody s_Catalog_in_order, defScope s_Catalog_in_order, [], []⟩) rfl) O_is_before
  have O_Catalog_stretches_0_ := okmG_Catalog_stretches_0_ (P := P) (w := w) (base := base) T (c.def_ 17 (d := ⟨("Catalog", some "stretches"), "stretches", "Catalog.stretches", defArgs s_Catalog_stretches, defBody s_Catalog_stretches, defScope s_Catalog_stretches, [], []⟩) rfl) O_Catalog_in_order_0_
  have O_law_cell := ok_law_cell (P := P) (w := w) (base := base) T (c.def_ 18 (d := ⟨("_law_cell", none), "_law_cell", "_law_cell", defArgs s_law_cell, defBody s_law_cell, defScope s_law_cell, [], []⟩) rfl) (He.glo_ok X G (c.fact 48 (f := .glo "_law_cell") rfl)) 
  have O_law_box := ok_law_box (P := P) (w := w) (base := base) T (c.def_ 19 (d := ⟨("_law_box", none), "_law_box", "_law_box", defArgs s_law_box, defBody s_law_box, defScope s_law_box, [], []⟩) rfl) (He.glo_ok X G (c.fact 49 (f := .glo "_law_box") rfl)) 
  have O_law_take := ok_law_take (P := P) (w := w) (base := base) T (c.def_ 20 (d := ⟨("_law_take", none), "_law_take", "_law_take", defArgs s_law_take, defBody s_law_take, defScope s_law_take, [], []⟩) rfl) (He.glo_ok X G (c.fact 50 (f := .glo "_law_take") rfl)) 
  have O_law_mixed := ok_law_mixed (P := P) (w := w) (base := base) T (c.def_ 21 (d := ⟨("_law_mixed", none), "_law_mixed", "_law_mixed", defArgs s_law_mixed, defBody s_law_mixed, defScope s_law_mixed, [], []⟩) rfl) (He.glo_ok X G (c.fact 51 (f := .glo "_law_mixed") rfl)) O_law_take
  have O_law_names := ok_law_names (P := P) (w := w) (base := base) T (c.def_ 22 (d := ⟨("_law_names", none), "_law_names", "_law_names", defArgs s_law_names, defBody s_law_names, defScope s_law_names, [], []⟩) rfl) (He.glo_ok X G (c.fact 52 (f := .glo "_law_names") rfl)) O_law_take O_law_mixed
  have O_law_has := ok_law_has (P := P) (w := w) (base := base) T (c.def_ 23 (d := ⟨("_law_has", none), "_law_has", "_law_has", defArgs s_law_has, defBody s_law_has, defScope s_law_has, [], []⟩) rfl) (He.glo_ok X G (c.fact 53 (f := .glo "_law_has") rfl)) 
  have O_law_model := ok_law_model (P := P) (w := w) (base := base) T (c.def_ 24 (d := ⟨("_law_model", none), "_law_model", "_law_model", defArgs s_law_model, defBody s_law_model, defScope s_law_model, [], []⟩) rfl) (He.glo_ok X G (c.fact 54 (f := .glo "_law_model") rfl)) O_law_names O_law_take
  have O_law_catalog := ok_law_catalog (P := P) (w := w) (base := base) T (c.def_ 25 (d := ⟨("_law_catalog", none), "_law_catalog", "_law_catalog", defArgs s_law_catalog, defBody s_law_catalog, defScope s_law_catalog, [], []⟩) rfl) (He.glo_ok X G (c.fact 55 (f := .glo "_law_catalog") rfl)) O_law_mixed O_Catalog_init_1_rest
  have O_law_part := ok_law_part (P := P) (w := w) (base := base) T (c.def_ 26 (d := ⟨("_law_part", none), "_law_part", "_law_part", defArgs s_law_part, defBody s_law_part, defScope s_law_part, [], []⟩) rfl) (He.glo_ok X G (c.fact 56 (f := .glo "_law_part") rfl)) O_law_has
  have O_law_inner := ok_law_inner (P := P) (w := w) (base := base) T (c.def_ 27 (d := ⟨("_law_inner", none), "_law_inner", "_law_inner", defArgs s_law_inner, defBody s_law_inner, defScope s_law_inner, [], []⟩) rfl) (He.glo_ok X G (c.fact 57 (f := .glo "_law_inner") rfl)) 
  have O_law_count := ok_law_count (P := P) (w := w) (base := base) T (c.def_ 28 (d := ⟨("_law_count", none), "_law_count", "_law_count", defArgs s_law_count, defBody s_law_count, defScope s_law_count, [], []⟩) rfl) (He.glo_ok X G (c.fact 58 (f := .glo "_law_count") rfl)) O_law_part
  have O_law_right := ok_law_right (P := P) (w := w) (base := base) T (c.def_ 29 (d := ⟨("_law_right", none), "_law_right", "_law_right", defArgs s_law_right, defBody s_law_right, defScope s_law_right, [], []⟩) rfl) (He.glo_ok X G (c.fact 59 (f := .glo "_law_right") rfl)) O_law_inner O_law_part O_law_count O_Catalog_stretches_0_ O_Catalog_part_of_1_
  exact okf_law (P := P) (w := w) (base := base) T FL O_law_box O_law_cell O_law_model O_law_catalog O_law_right O_Catalog_stretches_0_
def lawLevel : Nat := 11
def lawAt : Nat := 48

end Z

namespace Z
open PySem PySem.Spec PyProof.Rows L2
/-! ### the end -/
abbrev R : PySem.W.OpenRow := PySem.W.OpenLaw.row PySem.Challenge.rw_shiftparts_k07_stretches_of_all_keys
abbrev hk : PySem.W.Hook := hookX 6 fa fn fs cu ts
def ob (s : PySem.W.SharedT) : AlX := obsXG 6 fa fn fs cu ts (HandSHeadRun.getT s)
theorem ob_eq (s : PySem.W.SharedT) : ob s = hk.obs s.abs := obsXG_eq (HandSHeadRun.getT_eq s)
def loose : List PySem.Str := (["_wall", "PartsError", "InvalidName", "InvalidKey", "InvalidSpan", "InvalidSpans", "UnknownPart", "NameTaken", "Overlap", "TooMany", "LETTERS", "MOST_LETTERS", "TABLE", "is_integer", "is_name", "is_limit", "is_span", "need_span", "has_key", "greater_limit", "lesser_limit", "common", "meet", "limit_text", "span_text", "MOST_PARTS", "EMPTY", "need_spans", "need_rest", "order_of"] : List PySem.Str) ++ (["is_before", "Catalog", "_law_cell", "_law_box", "_law_take", "_law_mixed", "_law_names", "_law_has", "_law_model", "_law_catalog", "_law_part", "_law_inner", "_law_right", "_law_count"] : List PySem.Str)
theorem run (w : World) : HandSHeadRun.RunEq R (PySem.W.view R.prog [48]) hk ob 4000 loose w := by
  intro os
  kernel_rfl
end Z
open PySem PySem.W PySem.Calls PyProof.Rows
theorem PySem.Challenge.cw_shiftparts_k07_stretches_of_all_keys_holds : PySem.Challenge.rw_shiftparts_k07_stretches_of_all_keys.Holds := by
  w_on; o_law
  refine HandSHeadRun.head_any (r := OpenLaw.row PySem.Challenge.rw_shiftparts_k07_stretches_of_all_keys) (q := view (OpenLaw.row PySem.Challenge.rw_shiftparts_k07_stretches_of_all_keys).prog [48]) (H := Z.hk) (ob := Z.ob) (M := 4000) (loose := Z.loose) (d := HandSHeadRun.topDef (OpenLaw.row PySem.Challenge.rw_shiftparts_k07_stretches_of_all_keys).prog 48) (kwd := []) Z.ob_eq
    (by kernel_rfl) (fun s => by kernel_rfl) Z.run (by kernel_rfl) (by kernel_rfl) (by kernel_rfl) (by rfl) (by first | assumption | decide +kernel) (by decide +kernel) ⟨rfl, rfl, rfl, rfl, rfl, by decide +kernel⟩ ?hw ?hc
  case hw => w_witness2
  case hc =>
    refine L2.walk_ofE (l := PySem.Challenge.rw_shiftparts_k07_stretches_of_all_keys) (n := 63) (k := 11) (x := "script") (CX := L2.CX0) rfl (by decide) (by kernel_rfl) ⟨rfl, by decide, by decide⟩ ?F (fun _ _ _ _ z => z)
    intro w mg fa h Y G hmg0
    obtain ⟨K, KX, c⟩ := Y
    have hmg : mg ("law" : PySem.Str) = some (.ref fa) := by
      have e : (HandSHeadRun.topDef (OpenLaw.row PySem.Challenge.rw_shiftparts_k07_stretches_of_all_keys).prog 48).name = ("law" : PySem.Str) := by kernel_rfl
      rw [← e]
      exact hmg0
    obtain ⟨fd, hb, hF⟩ := Z.all_ok (P := (PySem.Challenge.rw_shiftparts_k07_stretches_of_all_keys).prog) (w := w) (by rfl) (by decide +kernel) KX G hmg c
    exact ⟨K, fd, Z.sp_law0 K, KX, hb, fun H a ns hl _ hS => ⟨a, ns, rfl, hS, hl, fun _ => rfl⟩, fun b h1 h2 => (hF b h1 h2).imp (Z.law_up K Z.law_true)⟩
#print axioms PySem.Challenge.cw_shiftparts_k07_stretches_of_all_keys_holds

